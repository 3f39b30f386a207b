import PyProof.Rows.All
import Wide.All
import OpenK.AllK
import Wide.FinOn
import HandS.ForMost
import HandS.IsInst
import HandS.TupAny
import HandS.TupMul
import HandS.Style
import HandS.Lambda
import KE.DataEq
import KE.KDictKeyed
import HandS.Zip
import KE.KRevSl
import HandS.Defaults
import HandS.NoneIn
import HandS.Replace
import HandS.StrMore
import HandS.Dict
import HandS.ExcCtx
import HandS.HotCalls
import HandS.ExcOwn
import HandS.WordsExc
import HandS.TryOnly
import HandS.ExcIs
import KE.KDictDisplayH
import HandS.Iter
import KE.KDictCopyH
import HandS.DictComp
import HandS.Conv
import HandS.SetFor
import HandS.Strs
import OpenK.KMeth
import HandS.Property
import HandS.Zip0
import HandS.Star
import HandS.Deep
import PyProof.SeqIndex
import HandS.EndOwn
import PyProof.ReprRoads
import PyProof.ReprLen
import PySem.Challenge.RW_tokenturns_k07_values_that_bear_faults
import KE.KNestM
import KE.RegKIsAll
section
set_option autoImplicit false
set_option linter.all false
/-! TT, the pure half: values, memory, results, and a Lean function for each construct of Python that the texts use. -/
namespace TT

/-- values: lists and dicts that are never changed again are values (vl, vd); what is changed stands in the memory (ref) -/
inductive PV where
  | non
  | bl (b : Bool)
  | int (i : Int)
  | str (s : List Nat)
  | tup (xs : List PV)
  | vl (xs : List PV)
  | fz (xs : List PV)
  | vd (kvs : List (PV × PV))
  | ref (n : Nat)
  | fn (a : Nat)
  deriving Inhabited

/-- what stands in the memory -/
inductive Ob where
  | lst (xs : List PV)
  | dict (kvs : List (PV × PV))
  | dead
  | tab (P : Nat) (q : List Nat)
  | kd (kvs : List (PV × PV))
  | kl (kvs : List (PV × PV))
  | ins (c : List Nat) (fs : List (List Nat × PV))
  | dl (kvs : List (PV × PV))
  deriving Inhabited

abbrev Mm := List Ob
abbrev Sl := List (Option PV)

/-- an exception: its class by number, its fields -/
inductive Exn where
  | mk (c : Nat) (fs : List PV)
  deriving Inhabited

inductive Rs (α : Type) where
  | ok (a : α)
  | ex (e : Exn) (m : Mm)
  | no

namespace Rs
def bind {α β : Type} : Rs α → (α → Rs β) → Rs β
  | ok a, f => f a
  | ex e m, _ => ex e m
  | no, _ => no
@[simp] theorem bind_ok {α β : Type} (a : α) (f : α → Rs β) : (ok a).bind f = f a := rfl
@[simp] theorem bind_ex {α β : Type} (e : Exn) (m : Mm) (f : α → Rs β) : (ex e m : Rs α).bind f = ex e m := rfl
@[simp] theorem bind_no {α β : Type} (f : α → Rs β) : (no : Rs α).bind f = no := rfl
theorem bind_eq_ok {α β : Type} {r : Rs α} {f : α → Rs β} {b : β} (h : r.bind f = ok b) : ∃ a, r = ok a ∧ f a = ok b := by
  cases r with
  | ok a => exact ⟨a, rfl, h⟩
  | ex e m => cases h
  | no => cases h
/-- nothing is raised -/
def nx {α : Type} : Rs α → Rs α
  | ok a => ok a
  | ex _ _ => no
  | no => no
@[simp] theorem nx_ok {α : Type} (a : α) : (ok a).nx = ok a := rfl
@[simp] theorem nx_ex {α : Type} (e : Exn) (m : Mm) : (ex e m : Rs α).nx = no := rfl
@[simp] theorem nx_no {α : Type} : (no : Rs α).nx = no := rfl
def ofO {α : Type} : Option α → Rs α
  | some a => ok a
  | none => no
@[simp] theorem ofO_some {α : Type} (a : α) : ofO (some a) = ok a := rfl
@[simp] theorem ofO_none {α : Type} : ofO (none : Option α) = no := rfl
end Rs

abbrev SE := Sl → Mm → Rs (PV × Mm)
abbrev SA := Sl → Mm → Rs (List PV × Mm)
abbrev ST := Sl → Mm → Rs (Bool × Mm)
inductive Fl where
  | nx | bk | ct
  | rt (v : PV)
abbrev SS := Sl → Mm → Rs (Fl × Sl × Mm)
/-- by values -/
abbrev O1 := PV → Mm → Rs (PV × Mm)
abbrev O2 := PV → PV → Mm → Rs (PV × Mm)
abbrev ON := List PV → Mm → Rs (PV × Mm)

/-! ### plain data: shallow, no refs, no dicts -/
def b2i (b : Bool) : Int := if b then 1 else 0
namespace PV
/-- data without refs and dicts, at most n deep -/
def sh : Nat → PV → Bool
  | _, .non => true
  | _, .bl _ => true
  | _, .int _ => true
  | _, .str _ => true
  | n + 1, .tup xs => xs.all (sh n)
  | n + 1, .vl xs => xs.all (sh n)
  | _, _ => false
/-- what may be a key: None, truth values, whole numbers, texts and tuples of these, at most n deep -/
def ky : Nat → PV → Bool
  | _, .non => true
  | _, .bl _ => true
  | _, .int _ => true
  | _, .str _ => true
  | n + 1, .tup xs => xs.all (ky n)
  | _, _ => false
mutual
def eqv : PV → PV → Bool
  | .non, .non => true
  | .bl a, .bl b => a == b
  | .bl a, .int j => b2i a == j
  | .int i, .bl b => i == b2i b
  | .int i, .int j => i == j
  | .str x, .str y => x == y
  | .tup xs, .tup ys => eqvs xs ys
  | .vl xs, .vl ys => eqvs xs ys
  | _, _ => false
def eqvs : List PV → List PV → Bool
  | [], [] => true
  | x :: xs, y :: ys => eqv x y && eqvs xs ys
  | _, _ => false
end
end PV
/-- a list in the memory, as a value -/
def look1 (m : Mm) : PV → PV
  | .ref n => match m[n]? with
    | some (.lst xs) => .vl xs
    | _ => .ref n
  | v => v

/-! ### operators by values -/
def DEP : Nat := 12
def oEq : O2 := fun a b m => if (look1 m a).sh DEP && (look1 m b).sh DEP then .ok (.bl (PV.eqv (look1 m a) (look1 m b)), m) else .no
def oNe : O2 := fun a b m => if (look1 m a).sh DEP && (look1 m b).sh DEP then .ok (.bl (!PV.eqv (look1 m a) (look1 m b)), m) else .no
/-- is None, is True ..: the right side a constant -/
def oIs (neg : Bool) (c : PV) : O1 := fun a m => match c, a with
  | .non, .non => .ok (.bl (!neg), m)
  | .non, _ => .ok (.bl neg, m)
  | .bl b, .bl a => .ok (.bl (if a == b then !neg else neg), m)
  | _, _ => .no
def LINE : Nat := 16000000
def oAdd : O2 := fun a b m => match look1 m a, look1 m b with
  | .int i, .int j => .ok (.int (i + j), m)
  | .vl x, .vl y => if x.length + y.length ≤ LINE then .ok (.vl (x ++ y), m) else .no
  | .str x, .str y => if x.length + y.length ≤ LINE then .ok (.str (x ++ y), m) else .no
  | .tup x, .tup y => if x.length + y.length ≤ LINE then .ok (.tup (x ++ y), m) else .no
  | _, _ => .no
def oSub : O2 := fun a b m => match a, b with
  | .int i, .int j => .ok (.int (i - j), m)
  | _, _ => .no
def within64 (i : Int) : Bool := decide (-(2 ^ 64) < i) && decide (i < 2 ^ 64)
def rep {α : Type} (xs : List α) (k : Int) : List α := (List.replicate k.toNat xs).flatten
/-- list * int, tuple * int: a new value -/
def oMul : O2 := fun a b m => match look1 m a, b with
  | .int i, .int j => if within64 i || within64 j then .ok (.int (i * j), m) else .no
  | .vl x, .int k => if decide (k ≤ 1000) && decide (-1000 ≤ k) && decide (x.length ≤ 1000) then .ok (.vl (rep x k), m) else .no
  | .tup x, .int k => if decide (k ≤ 1000) && decide (-1000 ≤ k) && decide (x.length ≤ 1000) then .ok (.tup (rep x k), m) else .no
  | _, _ => .no
def oFDiv : O2 := fun a b m => match a, b with
  | .int i, .int j => if decide (0 < j) && decide (j < 1073741824) then .ok (.int (i / j), m) else .no
  | _, _ => .no
def oMod : O2 := fun a b m => match a, b with
  | .int i, .int j => if decide (0 < j) then .ok (.int (i % j), m) else .no
  | _, _ => .no
def oPow : O2 := fun a b m => match a, b with
  | .int i, .int j => if decide (0 ≤ j) && decide (j ≤ 1000) && decide (i.natAbs < 2 ^ 64) then .ok (.int (i ^ j.toNat), m) else .no
  | _, _ => .no
def oNeg : O1 := fun a m => match a with
  | .int i => .ok (.int (-i), m)
  | _ => .no
def oCmp (p : Int → Int → Bool) : O2 := fun a b m => match a, b with
  | .int i, .int j => .ok (.bl (p i j), m)
  | _, _ => .no
def oLt : O2 := oCmp fun i j => decide (i < j)
def oLe : O2 := oCmp fun i j => decide (i ≤ j)
def oGt : O2 := oCmp fun i j => decide (j < i)
def oGe : O2 := oCmp fun i j => decide (j ≤ i)
/-- x in c: a list, a tuple; one sign in a text -/
def oIn (neg : Bool) : O2 := fun a c m => match look1 m c with
  | .vl xs => if xs.all (PV.sh DEP) && a.sh DEP then .ok (.bl (if neg then !(xs.any fun y => PV.eqv y a) else xs.any fun y => PV.eqv y a), m) else .no
  | .tup xs => if xs.all (PV.sh DEP) && a.sh DEP then .ok (.bl (if neg then !(xs.any fun y => PV.eqv y a) else xs.any fun y => PV.eqv y a), m) else .no
  | .str z => match a with
    | .str [c] => .ok (.bl (if neg then !(decide (c ∈ z)) else decide (c ∈ z)), m)
    | _ => .no
  | _ => .no

/-! ### subscripts -/
def ixN (n : Nat) (i : Int) : Option Nat := if 0 ≤ i then (if i < n then some i.toNat else none) else if -(n : Int) ≤ i then some (i + n).toNat else none
def atI {α : Type} (xs : List α) (i : Int) : Option α := (ixN xs.length i).bind fun j => xs[j]?
def oIx : O2 := fun a i m => match look1 m a, i with
  | .vl xs, .int k => match atI xs k with
    | some v => .ok (v, m)
    | none => .no
  | .fz xs, .int k => match atI xs k with
    | some v => .ok (v, m)
    | none => .no
  | .tup xs, .int k => match atI xs k with
    | some v => .ok (v, m)
    | none => .no
  | .str z, .int k => if z.length ≤ LINE then (match atI z k with
    | some c => .ok (.str [c], m)
    | none => .no) else .no
  | _, _ => .no
def sIx (n d : Nat) : Option Int → Nat
  | none => d
  | some v => if v < 0 then (v + n).toNat else min v.toNat n
def cutL {α : Type} (xs : List α) (lo hi : Option Int) : List α := (xs.drop (sIx xs.length 0 lo)).take (sIx xs.length xs.length hi - sIx xs.length 0 lo)
def oSlice (lo hi : Option Int) : O1 := fun a m => match look1 m a with
  | .vl xs => .ok (.vl (cutL xs lo hi), m)
  | .tup xs => .ok (.tup (cutL xs lo hi), m)
  | .str z => if z.length ≤ LINE then .ok (.str (cutL z lo hi), m) else .no
  | _ => .no
/-- x[::-1] -/
def oRevL : O1 := fun a m => match look1 m a with
  | .vl xs => .ok (.vl xs.reverse, m)
  | _ => .no
def oRevT : O1 := fun a m => match a with
  | .tup xs => .ok (.tup xs.reverse, m)
  | _ => .no
/-- o[i] = v of a list in the memory -/
def oSet (o i v : PV) (m : Mm) : Rs Mm := match o, i with
  | .ref n, .int k => match m[n]? with
    | some (.lst xs) => match ixN xs.length k with
      | some j => .ok (m.set n (.lst (xs.set j v)))
      | none => .no
    | _ => .no
  | _, _ => .no

/-! ### built-in functions -/
def fLen : ON := fun xs m => match xs with
  | [a] => match look1 m a with
    | .vl ys => .ok (.int ys.length, m)
    | .fz ys => .ok (.int ys.length, m)
    | .tup ys => .ok (.int ys.length, m)
    | .str z => if z.length ≤ LINE then .ok (.int z.length, m) else .no
    | _ => .no
  | _ => .no
def fInt : ON := fun xs m => match xs with
  | [.int i] => .ok (.int i, m)
  | [.bl b] => .ok (.int (b2i b), m)
  | _ => .no
def fMax : ON := fun xs m => match xs with
  | [.int i, .int j] => .ok (.int (if j > i then j else i), m)
  | _ => .no
def fMin : ON := fun xs m => match xs with
  | [.int i, .int j] => .ok (.int (if j < i then j else i), m)
  | _ => .no
/-- list(x): a new value -/
def fList : ON := fun xs m => match xs with
  | [a] => match look1 m a with
    | .vl ys => .ok (.vl ys, m)
    | .tup ys => .ok (.vl ys, m)
    | _ => .no
  | _ => .no
def fTuple : ON := fun xs m => match xs with
  | [a] => match look1 m a with
    | .vl ys => .ok (.tup ys, m)
    | .tup ys => .ok (.tup ys, m)
    | _ => .no
  | _ => .no
def bools : List PV → Option (List Bool)
  | [] => some []
  | .bl b :: r => (bools r).map (b :: ·)
  | _ :: _ => none
def fAll : ON := fun xs m => match xs with
  | [a] => match look1 m a with
    | .vl ys => match bools ys with
      | some bs => .ok (.bl (bs.all id), m)
      | none => .no
    | _ => .no
  | _ => .no
/-- isinstance(x, T) -/
inductive Ty where
  | tInt | tStr | tBool | tTup | tList
def isA : Ty → PV → Option Bool
  | _, .non => some false
  | .tInt, .bl _ => some true
  | .tBool, .bl _ => some true
  | _, .bl _ => some false
  | .tInt, .int _ => some true
  | _, .int _ => some false
  | .tStr, .str _ => some true
  | _, .str _ => some false
  | .tTup, .tup _ => some true
  | _, .tup _ => some false
  | .tList, .vl _ => some true
  | _, .vl _ => some false
  | .tList, .fz _ => some true
  | _, .fz _ => some false
  | _, _ => none
def oIsA (t : Ty) : O1 := fun a m => match isA t (look1 m a) with
  | some b => .ok (.bl b, m)
  | none => .no
/-- repr of None, a bool -/
def fReprB : ON := fun xs m => match xs with
  | [.bl true] => .ok (.str [84, 114, 117, 101], m)
  | [.bl false] => .ok (.str [70, 97, 108, 115, 101], m)
  | _ => .no

/-! ### methods -/
def mAppend (o : PV) (xs : List PV) (m : Mm) : Rs (PV × Mm) := match o, xs with
  | .ref n, [v] => match m[n]? with
    | some (.lst ys) => if ys.length < LINE then .ok (.non, m.set n (.lst (ys ++ [v]))) else .no
    | _ => .no
  | _, _ => .no
def idx (p : PV → Bool) : List PV → Nat → Option Nat
  | [], _ => none
  | x :: r, i => if p x then some i else idx p r (i + 1)
/-- xs.index(y) of flat items -/
def flat : PV → Bool
  | .non => true
  | .bl _ => true
  | .int _ => true
  | .str _ => true
  | _ => false
def mIndex (o : PV) (xs : List PV) (m : Mm) : Rs (PV × Mm) := match look1 m o, xs with
  | .vl ys, [v] => if ys.all flat && flat v then (match idx (fun y => PV.eqv y v) ys 0 with
    | some i => .ok (.int i, m)
    | none => .no) else .no
  | .tup ys, [v] => if ys.all flat && flat v then (match idx (fun y => PV.eqv y v) ys 0 with
    | some i => .ok (.int i, m)
    | none => .no) else .no
  | _, _ => .no
def idxN (c : Nat) : List Nat → Nat → Option Nat
  | [], _ => none
  | x :: r, i => if x == c then some i else idxN c r (i + 1)
/-- text.index(one sign), a text of two signs, where it is there -/
def mIndexS (o : PV) (xs : List PV) (m : Mm) : Rs (PV × Mm) := match o, xs with
  | .str [p, q], [.str [c]] => if c = p then .ok (.int 0, m) else if c = q then .ok (.int 1, m) else .no
  | _, _ => .no
/-- text.find(one sign), a text of two signs -/
def mFindS (o : PV) (xs : List PV) (m : Mm) : Rs (PV × Mm) := match o, xs with
  | .str [p, q], [.str [c]] => .ok (.int (if c = p then 0 else if c = q then 1 else -1), m)
  | _, _ => .no

/-! ### expressions -/
def eVar (i : Nat) : SE := fun s m => match s[i]? with
  | some (some v) => .ok (v, m)
  | _ => .no
def eC (v : PV) : SE := fun _ m => .ok (v, m)
def e1 (f : O1) (a : SE) : SE := fun s m => (a s m).bind fun (x, m1) => f x m1
def e2 (f : O2) (a b : SE) : SE := fun s m => (a s m).bind fun (x, m1) => (b s m1).bind fun (y, m2) => f x y m2
def aNil : SA := fun _ m => .ok ([], m)
def aCons (a : SE) (r : SA) : SA := fun s m => (a s m).bind fun (x, m1) => (r s m1).bind fun (xs, m2) => .ok (x :: xs, m2)
def eN (f : ON) (a : SA) : SE := fun s m => (a s m).bind fun (xs, m1) => f xs m1
def eTup (a : SA) : SE := fun s m => (a s m).bind fun (xs, m1) => .ok (.tup xs, m1)
/-- a list display that is never changed -/
def eLst (a : SA) : SE := fun s m => (a s m).bind fun (xs, m1) => .ok (.vl xs, m1)
/-- a list display that will be changed -/
def eLstM (a : SA) : SE := fun s m => (a s m).bind fun (xs, m1) => .ok (.ref m1.length, m1 ++ [.lst xs])
def eIf (t : ST) (a b : SE) : SE := fun s m => (t s m).bind fun (c, m1) => if c then a s m1 else b s m1
/-- method of a value: o.m(args), o of the type told -/
inductive Tag where
  | list | str
def tyOk (m : Mm) : Tag → PV → Bool
  | .str, .str _ => true
  | .list, .ref n => match m[n]? with
    | some (.lst _) => true
    | _ => false
  | .list, .vl _ => true
  | _, _ => false
def eM (t : Tag) (f : PV → List PV → Mm → Rs (PV × Mm)) (o : SE) (a : SA) : SE := fun s m => (o s m).bind fun (x, m1) => if tyOk m1 t x then (a s m1).bind fun (xs, m2) => f x xs m2 else .no
/-- a[lo:hi] -/
def eSlL (lo fa : SE) : SE := fun s m => (fa s m).bind fun (x, m1) => (lo s m1).bind fun (l, m2) => match l with
  | .int i => oSlice (some i) none x m2
  | _ => .no
def eSlH (hi fa : SE) : SE := fun s m => (fa s m).bind fun (x, m1) => (hi s m1).bind fun (l, m2) => match l with
  | .int i => oSlice none (some i) x m2
  | _ => .no
def eSlLH (lo hi fa : SE) : SE := fun s m => (fa s m).bind fun (x, m1) => (lo s m1).bind fun (l, m2) => match l with
  | .int i => (hi s m2).bind fun (u, m3) => match u with
    | .int j => oSlice (some i) (some j) x m3
    | _ => .no
  | _ => .no
def asB : PV → Mm → Rs (Bool × Mm)
  | .bl b, m => .ok (b, m)
  | _, _ => .no
/-- and, or, not of truth values -/
def eAnd (a b : SE) : SE := fun s m => (a s m).bind fun (x, m1) => match x with
  | .bl true => b s m1
  | .bl false => .ok (.bl false, m1)
  | _ => .no
def eOr (a b : SE) : SE := fun s m => (a s m).bind fun (x, m1) => match x with
  | .bl false => b s m1
  | .bl true => .ok (.bl true, m1)
  | _ => .no
def eNot (a : SE) : SE := fun s m => (a s m).bind fun (x, m1) => match x with
  | .bl b => .ok (.bl (!b), m1)
  | _ => .no
/-- a < b < c -/
def eChain (f g : O2) (a b c : SE) : SE := fun s m => (a s m).bind fun (x, m1) => (b s m1).bind fun (y, m2) => (f x y m2).bind fun (z, m3) => match z with
  | .bl true => (c s m3).bind fun (u, m4) => g y u m4
  | .bl false => .ok (.bl false, m3)
  | _ => .no
/-! tests -/
def tV (a : SE) : ST := fun s m => (a s m).bind fun (x, m1) => asB x m1
def tAnd (a b : ST) : ST := fun s m => (a s m).bind fun (c, m1) => if c then b s m1 else .ok (false, m1)
def tOr (a b : ST) : ST := fun s m => (a s m).bind fun (c, m1) => if c then .ok (true, m1) else b s m1
def tNot (a : ST) : ST := fun s m => (a s m).bind fun (c, m1) => .ok (!c, m1)
/-- the truth of a value -/
def tru (m : Mm) : PV → Option Bool
  | .non => some false
  | .bl b => some b
  | .int i => some (i != 0)
  | .str z => if z.length ≤ LINE then some (!z.isEmpty) else none
  | .tup xs => some (!xs.isEmpty)
  | .vl xs => some (!xs.isEmpty)
  | .ref n => match m[n]? with
    | some (.lst xs) => some (!xs.isEmpty)
    | _ => none
  | _ => none
def tT (a : SE) : ST := fun s m => (a s m).bind fun (x, m1) => match tru m1 x with
  | some b => .ok (b, m1)
  | none => .no

/-! ### targets: a value is stored -/
abbrev SG := PV → Sl → Mm → Rs (Sl × Mm)
def gName (i : Nat) : SG := fun v s m => .ok (s.set i (some v), m)
def gNames : List Nat → List PV → Sl → Option Sl
  | [], [], s => some s
  | i :: is, v :: vs, s => gNames is vs (s.set i (some v))
  | _, _, _ => none
/-- a, b, .. = a tuple -/
def gTup (is : List Nat) : SG := fun v s m => match v with
  | .tup vs => match gNames is vs s with
    | some s' => .ok (s', m)
    | none => .no
  | _ => .no
/-- a, b, .. = a list -/
def gSeq (is : List Nat) : SG := fun v s m => match look1 m v with
  | .tup vs => match gNames is vs s with
    | some s' => .ok (s', m)
    | none => .no
  | .vl vs => match gNames is vs s with
    | some s' => .ok (s', m)
    | none => .no
  | _ => .no
def gUnp (is : List Nat) : SG := fun v s m => match look1 m v with
  | .vl vs => match gNames is vs s with
    | some s' => .ok (s', m)
    | none => .no
  | _ => .no
def gSub (o i : SE) : SG := fun v s m => (o s m).bind fun (x, m1) => (i s m1).bind fun (k, m2) => (oSet x k v m2).bind fun m3 => .ok (s, m3)

/-! ### statements -/
def sSkip : SS := fun s m => .ok (.nx, s, m)
def sSeq (a b : SS) : SS := fun s m => (a s m).bind fun (f, s1, m1) => match f with
  | .nx => b s1 m1
  | f => .ok (f, s1, m1)
def sExpr (e : SE) : SS := fun s m => (e s m).bind fun (_, m1) => .ok (.nx, s, m1)
def sAsg (e : SE) (g : SG) : SS := fun s m => (e s m).bind fun (v, m1) => (g v s m1).bind fun (s2, m2) => .ok (.nx, s2, m2)
def sRet (e : SE) : SS := fun s m => (e s m).bind fun (v, m1) => .ok (.rt v, s, m1)
def sRetN : SS := fun s m => .ok (.rt .non, s, m)
def sIf (t : ST) (a b : SS) : SS := fun s m => (t s m).bind fun (c, m1) => if c then a s m1 else b s m1
def sBreak : SS := fun s m => .ok (.bk, s, m)
def sCont : SS := fun s m => .ok (.ct, s, m)
/-- never reached -/
def sNever : SS := fun _ _ => .no
/-- a, b = e1, e2 with local names -/
def sPar2 (i j : Nat) (a : SA) : SS := fun s m => (a s m).bind fun (xs, m1) => match xs with
  | [x, y] => .ok (.nx, (s.set i (some x)).set j (some y), m1)
  | _ => .no
def sPar3 (i j l : Nat) (a : SA) : SS := fun s m => (a s m).bind fun (xs, m1) => match xs with
  | [x, y, z] => .ok (.nx, ((s.set i (some x)).set j (some y)).set l (some z), m1)
  | _ => .no
def sPar (is : List Nat) (a : SA) : SS := fun s m => (a s m).bind fun (xs, m1) => match gNames is xs s with
  | some s' => .ok (.nx, s', m1)
  | none => .no
/-- x op= e -/
def sAug (i : Nat) (f : O2) (e : SE) : SS := fun s m => match s[i]? with
  | some (some x) => (e s m).bind fun (y, m1) => (f x y m1).bind fun (z, m2) => .ok (.nx, s.set i (some z), m2)
  | _ => .no
/-! loops over values -/
abbrev SI := Sl → Mm → Rs (List PV × Mm)
def forL (g : SG) (b : SS) : List PV → Sl → Mm → Rs (Fl × Sl × Mm)
  | [], s, m => .ok (.nx, s, m)
  | x :: xs, s, m => (g x s m).bind fun (s1, m1) => (b s1 m1).bind fun (f, s2, m2) => match f with
    | .nx => forL g b xs s2 m2
    | .ct => forL g b xs s2 m2
    | .bk => .ok (.nx, s2, m2)
    | .rt v => .ok (.rt v, s2, m2)
def sFor (it : SI) (g : SG) (b : SS) : SS := fun s m => (it s m).bind fun (xs, m1) => forL g b xs s m1
/-- what is walked: a value's items -/
def items : PV → Option (List PV)
  | .tup xs => some xs
  | .vl xs => some xs
  | .str z => some (z.map fun c => .str [c])
  | _ => none
def iV (e : SE) : SI := fun s m => (e s m).bind fun (x, m1) => (Rs.ofO (items x)).bind fun xs => .ok (xs, m1)
/-- over a list, a tuple -/
def iL (e : SE) : SI := fun s m => (e s m).bind fun (x, m1) => match x with
  | .vl xs => .ok (xs, m1)
  | _ => .no
def iT (e : SE) : SI := fun s m => (e s m).bind fun (x, m1) => match x with
  | .tup xs => .ok (xs, m1)
  | _ => .no
def rngL (lo : Int) : Nat → List PV
  | 0 => []
  | n + 1 => .int lo :: rngL (lo + 1) n
def P62 : Int := 4611686018427387904
def iRng1 (e : SE) : SI := fun s m => (e s m).bind fun (x, m1) => match x with
  | .int j => if decide (-P62 ≤ j) && decide (j < P62) then .ok (rngL 0 j.toNat, m1) else .no
  | _ => .no
def iRng2 (a b : SE) : SI := fun s m => (a s m).bind fun (x, m1) => (b s m1).bind fun (y, m2) => match x, y with
  | .int i, .int j => if decide (-P62 ≤ i) && decide (i < P62) && decide (-P62 ≤ j) && decide (j < P62) then .ok (rngL i (j - i).toNat, m2) else .no
  | _, _ => .no
def zipP : List PV → List PV → List PV
  | x :: xs, y :: ys => .tup [x, y] :: zipP xs ys
  | _, _ => []
def iZip (a b : SE) : SI := fun s m => (a s m).bind fun (x, m1) => (b s m1).bind fun (y, m2) => match x, y with
  | .tup xs, .tup ys => .ok (zipP xs ys, m2)
  | .vl xs, .vl ys => .ok (zipP xs ys, m2)
  | _, _ => .no
def enumP : Int → List PV → List PV
  | _, [] => []
  | i, x :: xs => .tup [.int i, x] :: enumP (i + 1) xs
def iEnum (a : SE) : SI := fun s m => (a s m).bind fun (x, m1) => match x with
  | .vl xs => .ok (enumP 0 xs, m1)
  | .tup xs => .ok (enumP 0 xs, m1)
  | _ => .no
/-! while -/
def whileF (t : ST) (b : SS) : Nat → Sl → Mm → Rs (Fl × Sl × Mm)
  | 0, _, _ => .no
  | n + 1, s, m => (t s m).bind fun (c, m1) => if c then (b s m1).bind fun (f, s2, m2) => match f with
      | .nx => whileF t b n s2 m2
      | .ct => whileF t b n s2 m2
      | .bk => .ok (.nx, s2, m2)
      | .rt v => .ok (.rt v, s2, m2)
    else .ok (.nx, s, m1)
def FUEL : Nat := 1000000000000
def sWhile (t : ST) (b : SS) : SS := fun s m => whileF t b FUEL s m
/-! comprehensions: own slots forgotten first -/
def wipe (s : Sl) : List Nat → Sl
  | [] => s
  | v :: vs => (wipe s vs).set v none
def lcL (g : SG) (t : ST) (e : SE) (s : Sl) : List PV → Mm → List PV → Rs (List PV × Mm)
  | [], m, acc => .ok (acc, m)
  | x :: xs, m, acc => (g x s m).nx.bind fun (s1, m1) => (t s1 m1).nx.bind fun (c, m2) =>
    if c then (e s1 m2).nx.bind fun (y, m3) => if acc.length < LINE then lcL g t e s xs m3 (acc ++ [y]) else .no else lcL g t e s xs m2 acc
def eLc (own : List Nat) (it : SI) (g : SG) (t : ST) (e : SE) : SE := fun s m => (it s m).bind fun (xs, m1) => (lcL g t e (wipe s own) xs m1 []).bind fun (ys, m2) => .ok (.vl ys, m2)
def tYes : ST := fun _ m => .ok (true, m)

/-! ### ghost steps -/
/-- the list in slot i is changed no more: it becomes a value -/
def sFrz (i : Nat) : SS := fun s m => match s[i]? with
  | some (some (.ref n)) => match m[n]? with
    | some (.lst xs) => .ok (.nx, s.set i (some (.vl xs)), m.set n .dead)
    | _ => .no
  | _ => .no
/-- an expression's list is changed no more -/
def eFrz (e : SE) : SE := fun s m => (e s m).bind fun (x, m1) => match x with
  | .ref n => match m1[n]? with
    | some (.lst xs) => .ok (.vl xs, m1.set n .dead)
    | _ => .no
  | x => .ok (x, m1)

/-! ### defs -/
/-- a def by the whole memory -/
abbrev IF := List PV → Mm → Rs (PV × Mm)
/-- a def by values alone -/
abbrev PF := List PV → Rs PV
def startS (n : Nat) (args : List PV) : Sl := args.map some ++ List.replicate (n - args.length) none
def endF : Rs (Fl × Sl × Mm) → Rs (PV × Mm)
  | .ok (.rt v, _, m) => .ok (v, m)
  | .ok (.nx, _, m) => .ok (.non, m)
  | .ok _ => .no
  | .ex e m => .ex e m
  | .no => .no
/-- n: the number of slots, k: of the parameters -/
def bodyI (n k : Nat) (b : SS) : IF := fun args m => if args.length = k then endF (b (startS n args) m) else .no
/-- values that hold no refs -/
def pure1 : PV → Bool
  | .non => true
  | .bl _ => true
  | .int _ => true
  | .str _ => true
  | _ => false
mutual
def PV.pu : PV → Bool
  | .ref _ => false
  | .tup xs => pus xs
  | .vl xs => pus xs
  | .fz xs => pus xs
  | .vd kvs => pud kvs
  | _ => true
def pus : List PV → Bool
  | [] => true
  | x :: xs => PV.pu x && pus xs
def pud : List (PV × PV) → Bool
  | [] => true
  | (k, v) :: r => PV.pu k && PV.pu v && pud r
end
/-- what is handed back as a value: lists of the memory become values -/
def frz : Nat → Mm → PV → Option PV
  | 0, _, v => if v.pu then some v else none
  | k + 1, m, v => if v.pu then some v else match v with
    | .ref n => match m[n]? with
      | some (.lst xs) => (frzs (frz k m) xs).map .vl
      | _ => none
    | .tup xs => (frzs (frz k m) xs).map .tup
    | _ => none
where
  frzs (f : PV → Option PV) : List PV → Option (List PV)
  | [] => some []
  | x :: xs => match f x, frzs f xs with
    | some y, some ys => some (y :: ys)
    | _, _ => none
/-- a def that neither changes nor keeps what it is given -/
def bodyP (n k : Nat) (b : SS) : PF := fun args => match bodyI n k b args [] with
  | .ok (v, m) => Rs.ofO (frz 4 m v)
  | .ex e _ => .ex e []
  | .no => .no
/-- the call of such a def: the arguments hold no refs -/
def cP (f : PF) : ON := fun xs m => if pus xs then (match f xs with
  | .ok v => .ok (v, m)
  | _ => .no) else .no
/-- the call of a def by the whole memory -/
def cI (f : IF) : ON := fun xs m => (f xs m).nx
/-- an object that holds no refs -/
def Ob.pu : Ob → Bool
  | .ins _ fs => fs.all fun p => p.2.pu
  | .dl kvs => pud kvs
  | .lst xs => pus xs
  | .dict kvs => pud kvs
  | .dead => true
  | .tab _ _ => true
  | .kd kvs => pud kvs
  | .kl kvs => pud kvs
end TT
end

section
set_option autoImplicit false
set_option linter.all false
/-! TT, the pure half, more -/
namespace TT
/-- f(.., k = ..) -/
def eNK (f : ON) (fs gs : SA) : SE := fun s m => (fs s m).bind fun (xs, m1) => (gs s m1).bind fun (ys, m2) => f (xs ++ ys) m2
/-- f(..), the rest by default -/
def eND (f : ON) (fs : SA) (ds : List PV) : SE := fun s m => (fs s m).bind fun (xs, m1) => f (xs ++ ds) m1
/-- x[lo::st] of lists -/
def stepIdx (lo st : Int) (n : Nat) : List Nat := (List.range (if lo < n then ((n : Int) - lo + st - 1) / st else 0).toNat).map fun (k : Nat) => (lo + st * (k : Int)).toNat
def stepL {α : Type} (xs : List α) (lo st : Int) : List α := (stepIdx lo st xs.length).filterMap fun i => xs[i]?
def oStep (st : Int) (n : Nat) : O1 := fun l m => match l with
  | .int i => match m[n]? with
    | some (.lst xs) => if decide (0 ≤ i) && decide (i ≤ xs.length) then .ok (.vl (stepL xs i st), m) else .no
    | _ => .no
  | _ => .no
def eSlS (lo : SE) (st : Int) (fa : SE) : SE := fun s m => (fa s m).bind fun (x, m1) => match x with
  | .ref n => (lo s m1).bind fun (l, m2) => oStep st n l m2
  | _ => .no
/-! dicts of texts and whole numbers -/
def keyOk : PV → Bool
  | .int _ => true
  | .str _ => true
  | _ => false
def keyEq : PV → PV → Bool
  | .int i, .int j => decide (i = j)
  | .str x, .str y => decide (x = y)
  | _, _ => false
def dFind (kvs : List (PV × PV)) (k : PV) : Option PV := (kvs.find? fun p => keyEq p.1 k).map (·.2)
def dPut (kvs : List (PV × PV)) (k v : PV) : List (PV × PV) :=
  if (kvs.any fun p => keyEq p.1 k) = true then kvs.map (fun p => if keyEq p.1 k = true then (p.1, v) else p) else kvs ++ [(k, v)]
def dMerge (kvs more : List (PV × PV)) : List (PV × PV) := more.foldl (fun acc p => dPut acc p.1 p.2) kvs
def pairsOf : List (SE × SE) → Sl → Mm → Rs (List (PV × PV) × Mm)
  | [], _, m => .ok ([], m)
  | (a, b) :: r, s, m => (a s m).bind fun (x, m1) => (b s m1).bind fun (y, m2) => (pairsOf r s m2).bind fun (ps, m3) => .ok ((x, y) :: ps, m3)
/-- {k: v, ..} -/
def eDict (L : List (SE × SE)) : SE := fun s m => (pairsOf L s m).bind fun (ps, m1) => if ps.all (fun p => keyOk p.1) && decide (ps.length ≤ 15) then .ok (.ref m1.length, m1 ++ [.dict (dMerge [] ps)]) else .no
/-- d[k] of a dict where the key is -/
def oDGet : O2 := fun d k m => match d with
  | .ref n => match m[n]? with
    | some (.dict kvs) => if keyOk k then (match dFind kvs k with
      | some v => .ok (v, m)
      | none => .no) else .no
    | _ => .no
  | _ => .no
def oDSet (d k v : PV) (m : Mm) : Rs Mm := match d with
  | .ref n => match m[n]? with
    | some (.dict kvs) => if keyOk k && decide (kvs.length < LINE) then .ok (m.set n (.dict (dPut kvs k v))) else .no
    | _ => .no
  | _ => .no
/-- d[k] = v -/
def sDSet (v d k : SE) : SS := fun s m => (v s m).bind fun (x, m1) => (d s m1).bind fun (o, m2) => (k s m2).bind fun (y, m3) => (oDSet o y x m3).bind fun m4 => .ok (.nx, s, m4)
/-! exceptions -/
/-- raise X('..'), the class with the number c -/
def sRaise (c : Nat) : SS := fun _ m => .ex (.mk c []) m
/-- the call of a def by values that may raise -/
def cX (F : PF) : ON := fun xs m => if pus xs then (match F xs with
  | .ok v => .ok (v, m)
  | .ex (.mk c fs) _ => if pus fs then .ex (.mk c fs) m else .no
  | .no => .no) else .no
/-- what is told of an exception: by its class, the first class is over all -/
inductive Told where
  | ret (l : List Nat)
  | ite (c : Nat) (a b : Told)
def isSub (c c' : Nat) : Bool := c' == 0 || c == c'
def Told.ev (c : Nat) : Told → List Nat
  | .ret l => l
  | .ite c' a b => if isSub c c' then a.ev c else b.ev c
/-- told(lambda: B), P: the table of code objects, q: the lambda's name -/
def eTold (P : Nat) (q : List Nat) (t : Told) (els : List Nat) (cs : List Nat) (B : SE) : SE := fun s (m : List Ob) => match m[(0 : Nat)]? with
  | some (.tab P' q') => if P' = P ∧ q' = q then (match B s m with
    | .ok (_, m') => .ok (.str els, m')
    | .ex (.mk c []) m' => if cs.contains c then .ok (.str (t.ev c), m') else .no
    | _ => .no) else .no
  | _ => .no
/-! dicts whose keys are tuples -/
def kHas (kvs : List (PV × PV)) (k : PV) : Bool := kvs.any fun p => PV.eqv p.1 k
def kFind (kvs : List (PV × PV)) (k : PV) : Option PV := (kvs.find? fun p => PV.eqv p.1 k).map (·.2)
def kPut (kvs : List (PV × PV)) (k v : PV) : List (PV × PV) := if kHas kvs k = true then kvs.map (fun p => if PV.eqv p.1 k = true then (p.1, v) else p) else kvs ++ [(k, v)]
def isTup : PV → Bool
  | .tup _ => true
  | _ => false
/-- {}, for keys that are tuples -/
def eKNew : SE := fun _ m => .ok (.ref m.length, m ++ [.kd []])
/-- k in d, k not in d -/
def oKIn (neg : Bool) : O2 := fun k d m => match d with
  | .ref n => (match m[n]? with
    | some (.kd kvs) => if isTup k && k.ky 8 then .ok (.bl (if neg then !kHas kvs k else kHas kvs k), m) else .no
    | _ => .no)
  | _ => .no
/-- d[k], where the key is -/
def oKGet : O2 := fun d k m => match d with
  | .ref n => (match m[n]? with
    | some (.kd kvs) => if isTup k && k.ky 8 then (match kFind kvs k with
      | some v => .ok (v, m)
      | none => .no) else .no
    | _ => .no)
  | _ => .no
def oKSet (d k v : PV) (m : Mm) : Rs Mm := match d with
  | .ref n => (match m[n]? with
    | some (.kd kvs) => if isTup k && k.ky 8 && decide (kvs.length < LINE) then .ok (m.set n (.kd (kPut kvs k v))) else .no
    | _ => .no)
  | _ => .no
def gKSub (o i : SE) : SG := fun v s m => (o s m).bind fun (x, m1) => (i s m1).bind fun (k, m2) => (oKSet x k v m2).bind fun m3 => .ok (s, m3)
end TT
end

section
set_option linter.all false
set_option autoImplicit false
namespace TT
/-- {k: v} -/
def eKDisp1 (fk fv : SE) : SE := fun s m => (fk s (m ++ [.kd []])).bind fun (k, m1) => (fv s m1).bind fun (v, m2) => match m2[m.length]? with
  | some (.kd []) => if isTup k && k.ky 8 then .ok (.ref m.length, m2.set m.length (.kd [(k, v)])) else .no
  | _ => .no
end TT
end

section
set_option linter.all false
set_option autoImplicit false
namespace TT
/-! dicts with tuple keys: read, walked; lists made by + and list() as objects; sum -/
/-- the items of such a dict, locked or not -/
def kdOf (m : Mm) (n : Nat) : Option (List (PV × PV)) := match m[n]? with
  | some (.kd xs) => some xs
  | some (.kl xs) => some xs
  | _ => none
/-- d[k], where the key is -/
def oKIx : O2 := fun d k m => match d with
  | .ref n => (match kdOf m n with
    | some kvs => if isTup k && k.ky 8 then (match kFind kvs k with
      | some v => .ok (v, m)
      | none => .no) else .no
    | none => .no)
  | _ => .no
/-- k in d, k not in d -/
def oKIn2 (neg : Bool) : O2 := fun k d m => match d with
  | .ref n => (match kdOf m n with
    | some kvs => if isTup k && k.ky 8 then .ok (.bl (if neg then !kHas kvs k else kHas kvs k), m) else .no
    | none => .no)
  | _ => .no
/-- d.get(k, x) -/
def eKGetD (fd fk fx : SE) : SE := fun s m => (fd s m).bind fun (d, m1) => match d with
  | .ref n => (match kdOf m1 n with
    | some _ => (fk s m1).bind fun (k, m2) => (fx s m2).bind fun (x, m3) => (match kdOf m3 n with
      | some kvs => if isTup k && k.ky 8 then .ok ((kFind kvs k).getD x, m3) else .no
      | none => .no)
    | none => .no)
  | _ => .no
/-- list(d.values()) -/
def eKVals (fd : SE) : SE := fun s m => (fd s m).bind fun (d, m1) => match d with
  | .ref n => (match kdOf m1 n with
    | some kvs => if kvs.length ≤ LINE then .ok (.vl (kvs.map (·.2)), m1) else .no
    | none => .no)
  | _ => .no
/-- list(d) -/
def eKKeys (fd : SE) : SE := fun s m => (fd s m).bind fun (d, m1) => match d with
  | .ref n => (match kdOf m1 n with
    | some kvs => if kvs.length ≤ LINE then .ok (.vl (kvs.map (·.1)), m1) else .no
    | none => .no)
  | _ => .no
/-- the dict in slot i is changed no more (a ghost step) -/
def sLock (i : Nat) : SS := fun s m => match s[i]? with
  | some (some (.ref n)) => (match m[n]? with
    | some (.kd xs) => .ok (.nx, s, m.set n (.kl xs))
    | _ => .no)
  | _ => .no
/-- over the keys of a locked dict -/
def iKl (fd : SE) : SI := fun s m => (fd s m).bind fun (d, m1) => match d with
  | .ref n => (match m1[n]? with
    | some (.kl xs) => .ok (xs.map (·.1), m1)
    | _ => .no)
  | _ => .no
/-- x + y of lists, an object of its own -/
def oAddM : O2 := fun a b m => match look1 m a, look1 m b with
  | .vl x, .vl y => if x.length + y.length ≤ LINE then .ok (.ref m.length, m ++ [.lst (x ++ y)]) else .no
  | _, _ => .no
/-- list(x), an object of its own -/
def fListM : ON := fun xs m => match xs with
  | [a] => match look1 m a with
    | .vl ys => .ok (.ref m.length, m ++ [.lst ys])
    | .tup ys => .ok (.ref m.length, m ++ [.lst ys])
    | _ => .no
  | _ => .no
def intsOf : List PV → Option (List Int)
  | [] => some []
  | .int i :: r => (intsOf r).map (i :: ·)
  | _ :: _ => none
/-- sum of whole numbers -/
def fSum : ON := fun xs m => match xs with
  | [a] => match look1 m a with
    | .vl ys => match intsOf ys with
      | some is => .ok (.int is.sum, m)
      | none => .no
    | _ => .no
  | _ => .no
/-! comprehensions with two fors -/
def lc2L (g : SG) (t : ST) (it1 : SI) (vs1 : List Nat) (g1 : SG) (t1 : ST) (e : SE) (s : Sl) : List PV → Mm → List PV → Rs (List PV × Mm)
  | [], m, acc => .ok (acc, m)
  | x :: xs, m, acc => (g x s m).nx.bind fun (s1, m1) => (t s1 m1).nx.bind fun (c, m2) =>
    if c then (it1 s1 m2).nx.bind fun (ys, m3) => (lcL g1 t1 e (wipe s1 vs1) ys m3 acc).bind fun (acc', m4) => lc2L g t it1 vs1 g1 t1 e s xs m4 acc' else lc2L g t it1 vs1 g1 t1 e s xs m2 acc
def eLc2 (own vs1 : List Nat) (it : SI) (g : SG) (t : ST) (it1 : SI) (g1 : SG) (t1 : ST) (e : SE) : SE := fun s m => (it s m).bind fun (xs, m1) => (lc2L g t it1 vs1 g1 t1 e (wipe s own) xs m1 []).bind fun (ys, m2) => .ok (.vl ys, m2)
end TT
end

section
set_option linter.all false
set_option autoImplicit false
namespace TT
/-! dicts with text or int keys: in, get -/
/-- k in d, k not in d -/
def oDIn (neg : Bool) : O2 := fun k d m => match d with
  | .ref n => match m[n]? with
    | some (.dict kvs) => if keyOk k then .ok (.bl (if neg then !(dFind kvs k).isSome else (dFind kvs k).isSome), m) else .no
    | _ => .no
  | _ => .no
/-- d.get(k, x) -/
def eDGetD (fd fk fx : SE) : SE := fun s m => (fd s m).bind fun (d, m1) => match d with
  | .ref n => match m1[n]? with
    | some (.dict _) => (fk s m1).bind fun (k, m2) => (fx s m2).bind fun (x, m3) => match m3[n]? with
      | some (.dict kvs) => if keyOk k then .ok ((dFind kvs k).getD x, m3) else .no
      | _ => .no
    | _ => .no
  | _ => .no
end TT
end

section
set_option linter.all false
set_option autoImplicit false
namespace TT
/-! instances: attributes, methods, making -/
def fLook : List (List Nat × PV) → List Nat → Option PV
  | [], _ => none
  | (k, x) :: r, f => if f = k then some x else fLook r f
def fPut (f : List Nat) (v : PV) : List (List Nat × PV) → List (List Nat × PV)
  | [] => [(f, v)]
  | (k, x) :: r => if k = f then (k, v) :: r else (k, x) :: fPut f v r
/-- e.f, e an instance of c -/
def oFld (c f : List Nat) : O1 := fun x m => match x with
  | .ref n => (match m[n]? with
    | some (.ins c' fs) => if c' = c then (match fLook fs f with
      | some v => .ok (v, m)
      | none => .no) else .no
    | _ => .no)
  | _ => .no
def oFldSet (c f : List Nat) (x v : PV) (m : Mm) : Rs Mm := match x with
  | .ref n => (match m[n]? with
    | some (.ins c' fs) => if c' = c ∧ fs.length < 1000 then .ok (m.set n (.ins c' (fPut f v fs))) else .no
    | _ => .no)
  | _ => .no
/-- e.f = v -/
def sFldSet (c f : List Nat) (v o : SE) : SS := fun s m => (v s m).bind fun (x, m1) => (o s m1).bind fun (y, m2) => (oFldSet c f y x m2).bind fun m3 => .ok (.nx, s, m3)
/-- C(args), the init by the whole memory -/
def eMake (c : List Nat) (F : IF) (a : SA) : SE := fun s m => (a s m).bind fun (xs, m1) => (F (.ref m1.length :: xs) (m1 ++ [.ins c []])).bind fun (v, m2) => match v with
  | .non => .ok (.ref m1.length, m2)
  | _ => .no
/-- o.m(args), o an instance of c -/
def eMeth (c k : List Nat) (F : ON) (o : SE) (a : SA) : SE := fun s m => (o s m).bind fun (x, m1) => match x with
  | .ref n => (match m1[n]? with
    | some (.ins c' fs) => if c' = c ∧ fLook fs k = none then (a s m1).bind fun (xs, m2) => F (.ref n :: xs) m2 else .no
    | _ => .no)
  | _ => .no
end TT
namespace TT
/-! a dict with text or int keys, locked while a walk goes on -/
abbrev At := Sl → Mm → Option Nat
/-- the dict in slot i -/
def atSl (i : Nat) : At := fun s _ => match s[i]? with
  | some (some (.ref n)) => some n
  | _ => none
/-- the dict that is the attribute f of the instance in slot i -/
def atFl (i : Nat) (f : List Nat) : At := fun s m => match s[i]? with
  | some (some (.ref k)) => (match m[k]? with
    | some (.ins _ fs) => (match fLook fs f with
      | some (.ref n) => some n
      | _ => none)
    | _ => none)
  | _ => none
def sLk (p : At) (b : SS) : SS := fun s m => match p s m with
  | some n => (match m[n]? with
    | some (.dict kvs) => (match b s (m.set n (.dl kvs)) with
      | .ok (f, s2, m2) => (match m2[n]? with
        | some (.dl kvs2) => .ok (f, s2, m2.set n (.dict kvs2))
        | _ => .no)
      | _ => .no)
    | _ => .no)
  | none => .no
def eLk (p : At) (e : SE) : SE := fun s m => match p s m with
  | some n => (match m[n]? with
    | some (.dict kvs) => (match e s (m.set n (.dl kvs)) with
      | .ok (v, m2) => (match m2[n]? with
        | some (.dl kvs2) => .ok (v, m2.set n (.dict kvs2))
        | _ => .no)
      | _ => .no)
    | _ => .no)
  | none => .no
/-- over the keys, the pairs of a locked dict -/
def iDk (fd : SE) : SI := fun s m => (fd s m).bind fun (d, m1) => match d with
  | .ref n => (match m1[n]? with
    | some (.dl kvs) => .ok (kvs.map (·.1), m1)
    | _ => .no)
  | _ => .no
def iDi (fd : SE) : SI := fun s m => (fd s m).bind fun (d, m1) => match d with
  | .ref n => (match m1[n]? with
    | some (.dl kvs) => .ok (kvs.map (fun p => .tup [p.1, p.2]), m1)
    | _ => .no)
  | _ => .no
end TT
namespace TT
/-! dict comprehensions -/
def dcL (g : SG) (t : ST) (fk fv : SE) (s : Sl) : List PV → Mm → List (PV × PV) → Rs (List (PV × PV) × Mm)
  | [], m, acc => .ok (acc, m)
  | x :: xs, m, acc => (g x s m).nx.bind fun (s1, m1) => (t s1 m1).nx.bind fun (c, m2) =>
    if c then (fk s1 m2).nx.bind fun (y, m3) => (fv s1 m3).nx.bind fun (z, m4) => if keyOk y && decide (acc.length < LINE) then dcL g t fk fv s xs m4 (dPut acc y z) else .no else dcL g t fk fv s xs m2 acc
def eDc (own : List Nat) (it : SI) (g : SG) (t : ST) (fk fv : SE) : SE := fun s m => (it s m).bind fun (xs, m1) => (dcL g t fk fv (wipe s own) xs m1 []).bind fun (kvs, m2) => .ok (.ref m2.length, m2 ++ [.dict kvs])
/-- list(d), d a dict with text or int keys -/
def fListD : ON := fun xs m => match xs with
  | [.ref n] => (match m[n]? with
    | some (.dict kvs) => .ok (.vl (kvs.map (·.1)), m)
    | _ => .no)
  | _ => .no
def insI (x : Int) : List Int → List Int
  | [] => [x]
  | y :: r => if x ≤ y then x :: y :: r else y :: insI x r
def srtI : List Int → List Int
  | [] => []
  | x :: r => insI x (srtI r)
/-- sorted(xs), whole numbers -/
def fSorted : ON := fun xs m => match xs with
  | [a] => (match look1 m a with
    | .vl ys => (match intsOf ys with
      | some is => if is.length < 64 then .ok (.vl ((srtI is).map PV.int), m) else .no
      | none => .no)
    | _ => .no)
  | _ => .no
def minL : List Int → Option Int
  | [] => none
  | [x] => some x
  | x :: r => (minL r).map fun y => if x ≤ y then x else y
/-- min(xs), max(xs): whole numbers -/
def fMinL : ON := fun xs m => match xs with
  | [a] => (match look1 m a with
    | .vl ys => (match intsOf ys with
      | some is => (match minL is with
        | some v => .ok (.int v, m)
        | none => .no)
      | none => .no)
    | _ => .no)
  | _ => .no
/-- list * int, an object of its own -/
def oMulM : O2 := fun a b m => match look1 m a, b with
  | .vl x, .int k => if decide (k ≤ 100000) && decide (-100000 ≤ k) && decide (x.length ≤ 100) then .ok (.ref m.length, m ++ [.lst (rep x k)]) else .no
  | _, _ => .no
end TT
namespace TT
/-- {} , for keys that are whole numbers or texts -/
def eDNew : SE := fun _ m => .ok (.ref m.length, m ++ [.dict []])
end TT
namespace TT
/-! sorted(set(t)), len(set(t)): t a tuple of whole numbers -/
def usI (x : Int) : List Int → List Int
  | [] => [x]
  | y :: r => if x < y then x :: y :: r else if x = y then y :: r else y :: usI x r
def uniI : List Int → List Int
  | [] => []
  | x :: r => usI x (uniI r)
def oSortedSet : O1 := fun v m => match v with
  | .tup ys => (match intsOf ys with
    | some is => if is.length < 60 then .ok (.vl ((uniI is).map PV.int), m) else .no
    | none => .no)
  | _ => .no
def oLenSet : O1 := fun v m => match v with
  | .tup ys => (match intsOf ys with
    | some is => if is.length < 60 then .ok (.int (uniI is).length, m) else .no
    | none => .no)
  | _ => .no
end TT
end

section
set_option linter.all false
set_option autoImplicit false
namespace TT
/-! own special methods and properties of instances -/
/-- the method at an instance of c -/
def insCall (c : List Nat) (F : ON) (x : PV) (as : List PV) : Mm → Rs (PV × Mm) := fun m => match x with
  | .ref n => (match m[n]? with
    | some (.ins c' _) => if c' = c then F (.ref n :: as) m else .no
    | _ => .no)
  | _ => .no
/-- o.f, a property -/
def oProp (c : List Nat) (F : ON) : O1 := fun x m => insCall c F x [] m
/-- len(o) -/
def oLenO (c : List Nat) (F : ON) : O1 := fun x m => (insCall c F x [] m).bind fun q => match q.1 with
  | .int i => if decide (0 ≤ i) && decide (i < 4611686018427387904) then .ok (.int i, q.2) else .no
  | _ => .no
/-- o[i] -/
def oIxO (c : List Nat) (F : ON) : O2 := fun x i m => insCall c F x [i] m
/-- x in o, x not in o -/
def oInO (neg : Bool) (c : List Nat) (F : ON) : O2 := fun x o m => (insCall c F o [x] m).bind fun r => match r.1 with
  | .bl b => .ok (.bl (if neg then !b else b), r.2)
  | _ => .no
/-- bool(o) where it is a test -/
def tBoolO (c : List Nat) (F : ON) (o : SE) : ST := fun s m => (o s m).bind fun p => (insCall c F p.1 [] p.2).bind fun q => match q.1 with
  | .bl b => .ok (b, q.2)
  | _ => .no
/-- o(args) -/
def eCallO (c : List Nat) (F : ON) (o : SE) (a : SA) : SE := fun s m => (o s m).bind fun p => (a s p.2).bind fun q => insCall c F p.1 q.1 q.2
end TT
namespace TT
/-- [e for ..], an object of its own -/
def eLcM (own : List Nat) (it : SI) (g : SG) (t : ST) (e : SE) : SE := fun s m => (it s m).bind fun (xs, m1) => (lcL g t e (wipe s own) xs m1 []).bind fun (ys, m2) => .ok (.ref m2.length, m2 ++ [.lst ys])
end TT
namespace TT
/-! dict comprehensions whose keys are tuples -/
def kdcL (g : SG) (t : ST) (fk fv : SE) (s : Sl) : List PV → Mm → List (PV × PV) → Rs (List (PV × PV) × Mm)
  | [], m, acc => .ok (acc, m)
  | x :: xs, m, acc => (g x s m).nx.bind fun (s1, m1) => (t s1 m1).nx.bind fun (c, m2) =>
    if c then (fk s1 m2).nx.bind fun (y, m3) => (fv s1 m3).nx.bind fun (z, m4) => if isTup y && y.ky 8 && decide (acc.length < LINE) then kdcL g t fk fv s xs m4 (kPut acc y z) else .no else kdcL g t fk fv s xs m2 acc
def eKDc (own : List Nat) (it : SI) (g : SG) (t : ST) (fk fv : SE) : SE := fun s m => (it s m).bind fun (xs, m1) => (kdcL g t fk fv (wipe s own) xs m1 []).bind fun (kvs, m2) => .ok (.ref m2.length, m2 ++ [.kd kvs])
end TT
namespace TT
/-- len(d), a dict whose keys are tuples -/
def fKLen : ON := fun xs m => match xs with
  | [.ref n] => (match kdOf m n with
    | some kvs => .ok (.int kvs.length, m)
    | none => .no)
  | _ => .no
end TT
namespace TT
/-- ghost: the new dict is changed no more -/
def eLockE (f : SE) : SE := fun s m => (f s m).bind fun (v, m1) => match v with
  | .ref n => (match m1[n]? with
    | some (.kd kvs) => .ok (.ref n, m1.set n (.kl kvs))
    | _ => .no)
  | _ => .no
end TT
namespace TT
/-- enumerate(xs), xs a list -/
def iEnumL (a : SE) : SI := fun s m => (a s m).bind fun (x, m1) => match x with
  | .vl xs => .ok (enumP 0 xs, m1)
  | _ => .no
end TT
end

section
set_option linter.all false
set_option autoImplicit false
namespace TT
/-- enumerate(t), t a tuple -/
def iEnumT (a : SE) : SI := fun s m => (a s m).bind fun (x, m1) => match x with
  | .tup xs => .ok (enumP 0 xs, m1)
  | _ => .no
/-- len(set(t)), t a tuple of texts -/
def strsOf : List PV → Option (List (List Nat))
  | [] => some []
  | .str l :: r => (strsOf r).map (l :: ·)
  | _ :: _ => none
def onceT (xs : List (List Nat)) : List (List Nat) := xs.foldl (fun acc k => if k ∈ acc then acc else acc ++ [k]) []
def oLenSetS : O1 := fun v m => match v with
  | .tup ys => (match strsOf ys with
    | some xs => if (onceT xs).length < 4000 then .ok (.int (onceT xs).length, m) else .no
    | none => .no)
  | _ => .no
/-- list(range(a)), a new value -/
def eListR (a : SE) : SE := fun s m => (a s m).bind fun (x, m1) => match x with
  | .int j => if decide (0 ≤ j) && decide (j ≤ 16000000) then .ok (.vl (rngL 0 j.toNat), m1) else .no
  | _ => .no
end TT
end

section
set_option Elab.async false
set_option linter.all false
set_option autoImplicit false
set_option maxRecDepth 100000
/-! TT, the relation between values, memory and HandS's abstract heap -/
namespace TT
open PySem PySem.Spec PyProof.Rows L2

/-- the written part and the world -/
structure KW where
  K : PySem.W.Frag
  w : World
  mg : PySem.Str → Option Value
instance : CoeOut KW PySem.W.Frag := ⟨KW.K⟩
abbrev _root_.L2.Cx.kw (X : Cx) : KW := ⟨X.K, X.w, X.mg⟩
/-- the ghost: where the objects of the memory stand; what is read only -/
structure Gh where
  φ : Nat → Option Addr
  ro : Hp
  T : List (Addr × Str)

mutual
inductive Rp (K : KW) (g : Gh) (H : Hp) : PV → V → Prop
  | non : Rp K g H .non .non
  | bl (b : Bool) : Rp K g H (.bl b) (.bl b)
  | int (i : Int) : Rp K g H (.int i) (.int i)
  | str (l : List Nat) : Rp K g H (.str l) (.str ⟨l.toArray⟩)
  | tup {a : Addr} {vs : List V} {xs : List PV} : SqT K H a vs → Rps K g H xs vs → Rp K g H (.tup xs) (.ref a)
  | vl {a : Addr} {vs : List V} {xs : List PV} : g.ro a = some (.lst vs) → Rps K g H xs vs → Rp K g H (.vl xs) (.ref a)
  | fz {a : Addr} {vs : List V} {xs : List PV} : SqL K g.ro a vs → Rps K g H xs vs → Rp K g H (.fz xs) (.ref a)
  | ref {n : Nat} {a : Addr} : g.φ n = some a → Rp K g H (.ref n) (.ref a)
  | fn (a : Addr) : Rp K g H (.fn a) (.ref a)
inductive Rps (K : KW) (g : Gh) (H : Hp) : List PV → List V → Prop
  | nil : Rps K g H [] []
  | cons {x : PV} {xs : List PV} {v : V} {vs : List V} : Rp K g H x v → Rps K g H xs vs → Rps K g H (x :: xs) (v :: vs)
end

/-- no table of code objects -/
def NT (u : HO) : Prop := ∀ ps, u ≠ .tbl ps
theorem nt_mut {u : HO} (h : Mut (some u)) : NT u := fun ps z => by subst z; exact h
theorem tabs_new {T : List (Addr × Str)} {H : Hp} {p : Addr} {o : HO} (t : LamX.Tabs T H) (hp : H p = none) : LamX.Tabs T (upd H p o) := t.ext fun b u h => by rw [upd_ne (ne_of_none h hp)]; exact h
/-- what is written is no code object, no table -/
theorem tabs_wr2 {T : List (Addr × Str)} {H : Hp} {p : Addr} {o u : HO} (t : LamX.Tabs T H) (hp : H p = some u) (h1 : NT u) (h2 : ∀ c q, u ≠ LamX.CodeO c q) : LamX.Tabs T (upd H p o) := fun q hq => by
  obtain ⟨ps, a1, a2, a3⟩ := t q hq
  refine ⟨ps, by rw [upd_ne (fun z => h1 ps (by rw [z, hp] at a1; exact Option.some.inj a1))]; exact a1, a2, fun pos cv hc => ?_⟩
  obtain ⟨c, e1, e2⟩ := a3 pos cv hc
  exact ⟨c, e1, by rw [upd_ne (fun z => h2 c _ (by rw [z, hp] at e2; rw [z]; exact Option.some.inj e2))]; exact e2⟩
theorem tabs_wr {T : List (Addr × Str)} {H : Hp} {p : Addr} {o u : HO} (t : LamX.Tabs T H) (hp : H p = some u) (h1 : NT u) (h2 : ∀ φ, u ≠ .ext φ) : LamX.Tabs T (upd H p o) := fun q hq => by
  obtain ⟨ps, a1, a2, a3⟩ := t q hq
  refine ⟨ps, by rw [upd_ne (fun z => h1 ps (by rw [z, hp] at a1; exact Option.some.inj a1))]; exact a1, a2, fun pos cv hc => ?_⟩
  obtain ⟨c, e1, e2⟩ := a3 pos cv hc
  exact ⟨c, e1, by rw [upd_ne (fun z => h2 _ (by rw [z, hp] at e2; exact Option.some.inj e2))]; exact e2⟩
/-! ### dicts whose keys are tuples -/
mutual
/-- a value as a key -/
def nkOf : PV → NestedKey
  | .non => .none
  | .bl b => .num (if b = true then 1 else 0)
  | .int i => .num i
  | .str l => .text ⟨l.toArray⟩
  | .tup xs => .tup (nkOfs xs)
  | _ => .none
def nkOfs : List PV → List NestedKey
  | [] => []
  | x :: xs => nkOf x :: nkOfs xs
end
def KA : List (NestedKey × Addr × V) → List (NestedKey × Addr × Value) → Prop := Paired fun p q => p.1 = q.1 ∧ p.2.1 = q.2.1 ∧ RelV p.2.2 q.2.2
/-- such a dict at a: its keys, where they stand, its values -/
def KDo (w : World) (a : Addr) (xs : List (NestedKey × Addr × V)) : HO := .ext fun h => (a == sysModules) = false ∧ xs.length ≤ sizeLine ∧ ∃ ys, KA xs ys ∧ ∃ o es ep, h.get? a = some o ∧ o.ExactDict ∧ o.data = .dict es ep ∧
  es.toList = ys.map (fun y => (⟨y.1.hash w, .ref y.2.1, y.2.2⟩ : DictEntry)) ∧ (ys.map (·.1)).Nodup
theorem kd_nt {w : World} {a : Addr} {xs : List (NestedKey × Addr × V)} : NT (KDo w a xs) := fun ps z => by unfold KDo at z; cases z
theorem kd_code {w : World} {a : Addr} {xs : List (NestedKey × Addr × V)} (c : Addr) (q : Str) : KDo w a xs ≠ LamX.CodeO c q := fun z => by
  unfold KDo LamX.CodeO at z
  have f := HO.ext.inj z
  obtain ⟨ob, hob⟩ : ∃ ob : Obj, ob = { cls := .none, data := .fields #[.none, .str q 0] } := ⟨_, rfl⟩
  obtain ⟨h, hh⟩ : ∃ h : Heap, h = ⟨Array.replicate (a + c + 1) ob, {}⟩ := ⟨_, rfl⟩
  have g : ∀ b, b < a + c + 1 → h.get? b = some ob := fun b hb => by
    rw [hh, hob]
    unfold Heap.get?
    simp [hb]
  have p := (congrFun f h).symm.mp ⟨ob, #[.none, .str q 0], 0, g c (Nat.lt_succ_of_le (Nat.le_add_left c a)), by rw [hob], rfl⟩
  obtain ⟨_, _, ys, _, o, es, ep, h1, _, h2, _⟩ := p
  rw [g a (Nat.lt_succ_of_le (Nat.le_add_right a c))] at h1
  cases h1
  rw [hob] at h2
  cases h2
/-- the same, its object told: it is changed no more -/
def KDl (w : World) (a : Addr) (o : Obj) (xs : List (NestedKey × Addr × V)) : HO := .ext fun h => h.get? a = some o ∧ (a == sysModules) = false ∧ xs.length ≤ sizeLine ∧ o.ExactDict ∧ ∃ ys, KA xs ys ∧ ∃ es ep, o.data = .dict es ep ∧
  es.toList = ys.map (fun y => (⟨y.1.hash w, .ref y.2.1, y.2.2⟩ : DictEntry)) ∧ (ys.map (·.1)).Nodup
theorem kdl_nt {w : World} {a : Addr} {o : Obj} {xs : List (NestedKey × Addr × V)} : NT (KDl w a o xs) := fun ps z => by unfold KDl at z; cases z
/-- in the memory, and changed no more -/
def Froz : Option Ob → Prop
  | some .dead => True
  | some (.kl _) => True
  | some (.dl _) => True
  | _ => False
inductive RND (K : KW) (g : Gh) (H : Hp) : List (PV × PV) → List (NestedKey × Addr × V) → Prop
  | nil : RND K g H [] []
  | cons {k x : PV} {q : Addr} {v : V} {xs : List (PV × PV)} {vs : List (NestedKey × Addr × V)} : k.ky 8 = true → Rp K g H k (.ref q) → Rp K g H x v → RND K g H xs vs → RND K g H ((k, x) :: xs) ((nkOf k, q, v) :: vs)
theorem RND.imp {K : KW} {g g' : Gh} {H H' : Hp} (f : ∀ {v w}, Rp K g H v w → Rp K g' H' v w) : ∀ {xs : List (PV × PV)} {vs : List (NestedKey × Addr × V)}, RND K g H xs vs → RND K g' H' xs vs
  | _, _, .nil => .nil
  | _, _, .cons y a b c => .cons y (f a) (f b) (RND.imp f c)
/-- the keys that HandS's dicts know: whole numbers and texts -/
def keyOf : PV → Option Key
  | .int i => some (.inl i)
  | .str l => some (.inr ⟨l.toArray⟩)
  | _ => none
inductive RKs (K : KW) (g : Gh) (H : Hp) : List (PV × PV) → List (Key × V) → Prop
  | nil : RKs K g H [] []
  | cons {k x : PV} {k' : Key} {v : V} {xs : List (PV × PV)} {vs : List (Key × V)} : keyOf k = some k' → Rp K g H x v → RKs K g H xs vs → RKs K g H ((k, x) :: xs) ((k', v) :: vs)
theorem RKs.imp {K : KW} {g g' : Gh} {H H' : Hp} (f : ∀ {v w}, Rp K g H v w → Rp K g' H' v w) : ∀ {xs : List (PV × PV)} {vs : List (Key × V)}, RKs K g H xs vs → RKs K g' H' xs vs
  | _, _, .nil => .nil
  | _, _, .cons a b c => .cons a (f b) (RKs.imp f c)
/-- the attributes of an instance -/
inductive RFs (K : KW) (g : Gh) (H : Hp) : List (List Nat × PV) → List (Str × V) → Prop
  | nil : RFs K g H [] []
  | cons {k : List Nat} {x : PV} {v : V} {xs : List (List Nat × PV)} {vs : List (Str × V)} : Rp K g H x v → RFs K g H xs vs → RFs K g H ((k, x) :: xs) ((⟨k.toArray⟩, v) :: vs)
theorem RFs.imp {K : KW} {g g' : Gh} {H H' : Hp} (f : ∀ {v w}, Rp K g H v w → Rp K g' H' v w) : ∀ {xs : List (List Nat × PV)} {vs : List (Str × V)}, RFs K g H xs vs → RFs K g' H' xs vs
  | _, _, .nil => .nil
  | _, _, .cons b c => .cons (f b) (RFs.imp f c)
def ROb (K : KW) (g : Gh) (H : Hp) (n : Nat) : Ob → Prop
  | .ins c fs => ∃ a C dx vs, g.φ n = some a ∧ K.mg ⟨c.toArray⟩ = some (.ref C) ∧ H a = some (.ins C dx vs) ∧ RFs K g H fs vs
  | .dl xs => ∃ a o vs, g.φ n = some a ∧ g.ro a = some (.frz o (.dK vs)) ∧ RKs K g H xs vs
  | .lst xs => ∃ a vs, g.φ n = some a ∧ H a = some (.lst vs) ∧ Rps K g H xs vs
  | .dict xs => ∃ a vs, g.φ n = some a ∧ H a = some (.dK vs) ∧ RKs K g H xs vs
  | .dead => True
  | .tab P q => g.T = [(P, ⟨q.toArray⟩)]
  | .kd xs => ∃ a vs, g.φ n = some a ∧ H a = some (KDo K.w a vs) ∧ RND K g H xs vs
  | .kl xs => ∃ a o vs, g.φ n = some a ∧ g.ro a = some (KDl K.w a o vs) ∧ RND K g H xs vs

/-- what the memory's objects are: what may be written, or a locked dict -/
def MutL (u : HO) : Prop := Mut (some u) ∨ ∃ o kvs, u = .frz o (.dK kvs)
theorem nt_mutl {u : HO} (h : MutL u) : NT u := by
  rcases h with h | ⟨_, _, h⟩
  · exact nt_mut h
  · subst h; exact fun ps z => nomatch z
structure Emb (K : KW) (g : Gh) (m : Mm) (H : Hp) : Prop where
  obj : ∀ n o, m[n]? = some o → ROb K g H n o
  dom : ∀ n a, g.φ n = some a → n < m.length ∧ ∃ u, H a = some u ∧ MutL u
  inj : ∀ n k a, g.φ n = some a → g.φ k = some a → n = k
  ro : ∀ a u, g.ro a = some u → H a = some u ∧ ∀ n, g.φ n = some a → Froz m[n]?
  nt : ∀ a u, g.ro a = some u → NT u
  tab : LamX.Tabs g.T H

/-- what becomes of ghost and heap: grown; what is not in the memory stays -/
structure Ext (g : Gh) (H : Hp) (g' : Gh) (H' : Hp) : Prop where
  phi : ∀ n a, g.φ n = some a → g'.φ n = some a
  ro : ∀ a u, g.ro a = some u → g'.ro a = some u
  fr : ∀ a u, H a = some u → (∀ n, g.φ n ≠ some a) → NT u → H' a = some u
  /-- what was not in the memory and stood already does not come into it -/
  old : ∀ a u, H a = some u → (∀ n, g.φ n ≠ some a) → NT u → ∀ n, g'.φ n ≠ some a
  oldr : ∀ a u, H a = some u → (∀ n, g.φ n ≠ some a) → NT u → g.ro a = none → g'.ro a = none
  T : g'.T = g.T

theorem Ext.refl (g : Gh) (H : Hp) : Ext g H g H := ⟨fun _ _ h => h, fun _ _ h => h, fun _ _ h _ _ => h, fun _ _ _ h _ => h, fun _ _ _ _ _ h => h, rfl⟩
theorem Ext.trans {g g1 g2 : Gh} {H H1 H2 : Hp} (a : Ext g H g1 H1) (b : Ext g1 H1 g2 H2) : Ext g H g2 H2 :=
  ⟨fun n x h => b.phi n x (a.phi n x h), fun x u h => b.ro x u (a.ro x u h), fun x u h n t => b.fr x u (a.fr x u h n t) (a.old x u h n t) t, fun x u h n t => b.old x u (a.fr x u h n t) (a.old x u h n t) t, fun x u h n t r => b.oldr x u (a.fr x u h n t) (a.old x u h n t) t (a.oldr x u h n t r), b.T.trans a.T⟩

theorem not_mut_tup {u : HO} {xs : List V} (h : MutL u) (e : u = .tup xs) : False := by
  subst e
  rcases h with h | ⟨_, _, h⟩
  · exact h
  · cases h
theorem not_mut_frz {u : HO} {xs : List V} {o : Obj} (h : MutL u) (e : u = .frz o (.tup xs)) : False := by
  subst e
  rcases h with h | ⟨_, _, h⟩
  · exact h
  · cases h

/-- a tuple is not in the memory -/
theorem Emb.tup_out {K : KW} {g : Gh} {m : Mm} {H : Hp} (e : Emb K g m H) {a : Addr} {xs : List V} (h : Rd H a (.tup xs)) : ∀ n, g.φ n ≠ some a := by
  intro n hn
  obtain ⟨_, u, hu, mu⟩ := e.dom n a hn
  rcases h with h | ⟨o, h⟩
  · rw [hu] at h; exact not_mut_tup mu (Option.some.inj h)
  · rw [hu] at h; exact not_mut_frz mu (Option.some.inj h)

section
variable {K : KW} {g g' : Gh} {m m' : Mm} {H H' : Hp}
theorem Emb.sqT (e : Emb K g m H) (x : Ext g H g' H') {a : Addr} {xs : List V} (h : SqT K H a xs) : SqT K H' a xs := by
  rcases h with (h | ⟨o, h⟩) | h
  · exact .inl (.inl (x.fr _ _ h (e.tup_out (.inl h)) (fun ps z => nomatch z)))
  · exact .inl (.inr ⟨o, x.fr _ _ h (e.tup_out (.inr ⟨o, h⟩)) (fun ps z => nomatch z)⟩)
  · exact .inr h
theorem sqL_mono {r r' : Hp} (h : ∀ a u, r a = some u → r' a = some u) {a : Addr} {xs : List V} (q : SqL K r a xs) : SqL K r' a xs := by
  rcases q with (q | ⟨o, q⟩) | q
  · exact .inl (.inl (h _ _ q))
  · exact .inl (.inr ⟨o, h _ _ q⟩)
  · exact .inr q
mutual
theorem Rp.ext (e : Emb K g m H) (x : Ext g H g' H') : ∀ {v : PV} {w : V}, Rp K g H v w → Rp K g' H' v w
  | _, _, .non => .non
  | _, _, .bl b => .bl b
  | _, _, .int i => .int i
  | _, _, .str l => .str l
  | _, _, .tup h r => .tup (e.sqT x h) (Rps.ext e x r)
  | _, _, .vl h r => .vl (x.ro _ _ h) (Rps.ext e x r)
  | _, _, .fz h r => .fz (sqL_mono x.ro h) (Rps.ext e x r)
  | _, _, .ref h => .ref (x.phi _ _ h)
  | _, _, .fn a => .fn a
theorem Rps.ext (e : Emb K g m H) (x : Ext g H g' H') : ∀ {v : List PV} {w : List V}, Rps K g H v w → Rps K g' H' v w
  | _, _, .nil => .nil
  | _, _, .cons h r => .cons (Rp.ext e x h) (Rps.ext e x r)
end
theorem RFs.ext (e : Emb K g m H) (x : Ext g H g' H') {v : List (List Nat × PV)} {w : List (Str × V)} (h : RFs K g H v w) : RFs K g' H' v w := h.imp fun r => r.ext e x
theorem RKs.ext (e : Emb K g m H) (x : Ext g H g' H') {v : List (PV × PV)} {w : List (Key × V)} (h : RKs K g H v w) : RKs K g' H' v w := h.imp fun r => r.ext e x
theorem RND.ext (e : Emb K g m H) (x : Ext g H g' H') {v : List (PV × PV)} {w : List (NestedKey × Addr × V)} (h : RND K g H v w) : RND K g' H' v w := h.imp fun r => r.ext e x
theorem Rps.length : ∀ {v : List PV} {w : List V}, Rps K g H v w → v.length = w.length
  | _, _, .nil => rfl
  | _, _, .cons _ r => by simp [Rps.length r]
theorem Rps.get : ∀ {v : List PV} {w : List V} {i : Nat} {x : PV}, Rps K g H v w → v[i]? = some x → ∃ y, w[i]? = some y ∧ Rp K g H x y
  | _, _, _, _, .nil, h => by simp at h
  | _, _, 0, _, .cons a _, h => by simp at h; subst h; exact ⟨_, rfl, a⟩
  | _, _, i + 1, x, .cons _ r, h => by
    obtain ⟨y, h1, h2⟩ := Rps.get (i := i) (x := x) r (by simpa using h)
    exact ⟨y, by simpa using h1, h2⟩
theorem Rps.get' : ∀ {v : List PV} {w : List V} {i : Nat} {y : V}, Rps K g H v w → w[i]? = some y → ∃ x, v[i]? = some x ∧ Rp K g H x y
  | _, _, _, _, .nil, h => by simp at h
  | _, _, 0, _, .cons a _, h => by simp at h; subst h; exact ⟨_, rfl, a⟩
  | _, _, i + 1, x, .cons _ r, h => by
    obtain ⟨y, h1, h2⟩ := Rps.get' (i := i) (y := x) r (by simpa using h)
    exact ⟨y, by simpa using h1, h2⟩
theorem Rps.append : ∀ {v v' : List PV} {w w' : List V}, Rps K g H v w → Rps K g H v' w' → Rps K g H (v ++ v') (w ++ w')
  | _, _, _, _, .nil, s => s
  | _, _, _, _, .cons h r, s => .cons h (Rps.append r s)
theorem Rps.take : ∀ {v : List PV} {w : List V} (n : Nat), Rps K g H v w → Rps K g H (v.take n) (w.take n)
  | _, _, 0, _ => .nil
  | _, _, _ + 1, .nil => .nil
  | _, _, n + 1, .cons h r => .cons h (Rps.take n r)
theorem Rps.drop : ∀ {v : List PV} {w : List V} (n : Nat), Rps K g H v w → Rps K g H (v.drop n) (w.drop n)
  | _, _, 0, r => r
  | _, _, _ + 1, .nil => .nil
  | _, _, n + 1, .cons h r => Rps.drop n r
theorem Rps.rev {v : List PV} {w : List V} (h : Rps K g H v w) : Rps K g H v.reverse w.reverse := by
  induction v generalizing w with
  | nil => cases h; exact .nil
  | cons x xs ih =>
    cases h with
    | cons a r => rw [List.reverse_cons, List.reverse_cons]; exact (ih r).append (.cons a .nil)
theorem Rps.set {x : PV} {y : V} (a : Rp K g H x y) : ∀ {v : List PV} {w : List V} (i : Nat), Rps K g H v w → Rps K g H (v.set i x) (w.set i y)
  | _, _, _, .nil => .nil
  | _, _, 0, .cons _ r => .cons a r
  | _, _, i + 1, .cons h r => .cons h (Rps.set a i r)
theorem Rps.rep {v : List PV} {w : List V} (h : Rps K g H v w) : ∀ k : Nat, Rps K g H (List.replicate k v).flatten (List.replicate k w).flatten
  | 0 => .nil
  | k + 1 => by rw [List.replicate_succ, List.replicate_succ, List.flatten_cons, List.flatten_cons]; exact h.append (Rps.rep h k)

/-- a value's list or a list in the memory -/
theorem Emb.look (e : Emb K g m H) {v : PV} {w : V} (r : Rp K g H v w) {xs : List PV} (h : look1 m v = .vl xs) : ∃ a vs, w = .ref a ∧ H a = some (.lst vs) ∧ Rps K g H xs vs := by
  cases r with
  | vl h1 h2 => simp only [look1] at h; cases h; exact ⟨_, _, rfl, (e.ro _ _ h1).1, h2⟩
  | ref hn =>
    simp only [look1] at h
    split at h
    · rename_i ys hy
      cases h
      obtain ⟨a, vs, h1, h2, h3⟩ := e.obj _ _ hy
      rw [hn] at h1; cases h1
      exact ⟨_, vs, rfl, h2, h3⟩
    · cases h
  | _ => simp only [look1] at h; cases h
theorem look1_tup {v : PV} {xs : List PV} (h : look1 m v = .tup xs) : v = .tup xs := by
  cases v with
  | ref n => simp only [look1] at h; split at h <;> cases h
  | _ => simpa only [look1] using h
theorem look1_str {v : PV} {xs : List Nat} (h : look1 m v = .str xs) : v = .str xs := by
  cases v with
  | ref n => simp only [look1] at h; split at h <;> cases h
  | _ => simpa only [look1] using h
theorem look1_int {v : PV} {i : Int} (h : look1 m v = .int i) : v = .int i := by
  cases v with
  | ref n => simp only [look1] at h; split at h <;> cases h
  | _ => simpa only [look1] using h
theorem look1_fz {v : PV} {xs : List PV} (h : look1 m v = .fz xs) : v = .fz xs := by
  cases v with
  | ref n => simp only [look1] at h; split at h <;> cases h
  | _ => simpa only [look1] using h
theorem Emb.fz (e : Emb K g m H) {xs : List PV} {w : V} (r : Rp K g H (.fz xs) w) : ∃ a vs, w = .ref a ∧ SqL K H a vs ∧ Rps K g H xs vs := by
  cases r with
  | fz h1 h2 => exact ⟨_, _, rfl, sqL_mono (fun a u h => (e.ro a u h).1) h1, h2⟩
theorem Rp.tup_inv {xs : List PV} {w : V} (r : Rp K g H (.tup xs) w) : ∃ a vs, w = .ref a ∧ SqT K H a vs ∧ Rps K g H xs vs := by
  cases r with
  | tup h1 h2 => exact ⟨_, _, rfl, h1, h2⟩
theorem Rp.int_inv {i : Int} {w : V} (r : Rp K g H (.int i) w) : w = .int i := by cases r; rfl
theorem Rp.bl_inv {i : Bool} {w : V} (r : Rp K g H (.bl i) w) : w = .bl i := by cases r; rfl
theorem Rp.non_inv {w : V} (r : Rp K g H .non w) : w = .non := by cases r; rfl
theorem Rp.str_inv {l : List Nat} {w : V} (r : Rp K g H (.str l) w) : w = .str ⟨l.toArray⟩ := by cases r; rfl
theorem Rp.ref_inv {n : Nat} {w : V} (r : Rp K g H (.ref n) w) : ∃ a, w = .ref a ∧ g.φ n = some a := by cases r with | ref h => exact ⟨_, rfl, h⟩
end

/-! ### slots -/
structure Sr (K : KW) (g : Gh) (H : Hp) (s : Sl) (σ : L2.St) : Prop where
  len : s.length = σ.length
  at_ : ∀ (i : Nat) (v : PV), s[i]? = some (some v) → ∃ w, σ[i]? = some (some w) ∧ Rp K g H v w
section
variable {K : KW} {g g' : Gh} {m m' : Mm} {H H' : Hp} {s : Sl} {σ : L2.St}
theorem Sr.ext (r : Sr K g H s σ) (e : Emb K g m H) (x : Ext g H g' H') : Sr K g' H' s σ :=
  ⟨r.len, fun i v h => let ⟨w, h1, h2⟩ := r.at_ i v h; ⟨w, h1, h2.ext e x⟩⟩
theorem Sr.set (r : Sr K g H s σ) {v : PV} {w : V} (a : Rp K g H v w) (i : Nat) : Sr K g H (s.set i (some v)) (σ.set i (some w)) := by
  refine ⟨by simp [r.len], fun j u h => ?_⟩
  by_cases hj : i = j
  · subst hj
    by_cases hi : i < s.length
    · rw [List.getElem?_set_self hi] at h
      cases h
      exact ⟨w, List.getElem?_set_self (by rw [← r.len]; exact hi), a⟩
    · rw [List.getElem?_eq_none (by simpa using hi)] at h; cases h
  · rw [List.getElem?_set_ne hj] at h
    rw [List.getElem?_set_ne hj]
    exact r.at_ j u h
theorem Sr.unset (r : Sr K g H s σ) (i : Nat) : Sr K g H (s.set i none) (σ.set i none) := by
  refine ⟨by simp [r.len], fun j u h => ?_⟩
  by_cases hj : i = j
  · subst hj
    by_cases hi : i < s.length
    · rw [List.getElem?_set_self hi] at h; cases h
    · rw [List.getElem?_eq_none (by simpa using hi)] at h; cases h
  · rw [List.getElem?_set_ne hj] at h
    rw [List.getElem?_set_ne hj]
    exact r.at_ j u h
theorem Sr.wipe (r : Sr K g H s σ) : ∀ vs : List Nat, Sr K g H (wipe s vs) (L2.wipe σ vs)
  | [] => r
  | v :: vs => (Sr.wipe r vs).unset v
end

/-! ### results -/
abbrev XC := Exn → Mm → Gh → Hp → Prop
def QR (K : KW) (Ξ : XC) (g : Gh) (H : Hp) {α : Type} (P : α → Prop) : Rs α → Prop
  | .ok a => P a
  | .ex e m => ∀ g' H', Ext g H g' H' → Emb K g' m H' → Ξ e m g' H'
  | .no => False
section
variable {K : KW} {Ξ : XC} {g g' : Gh} {H H' : Hp}
theorem QR.bind {α β : Type} {r : Rs α} {k : α → Rs β} {P : β → Prop} {P' : α → Prop} (h : QR K Ξ g H P (r.bind k)) (f : ∀ a, r = .ok a → QR K Ξ g H P (k a) → P' a) : QR K Ξ g H P' r := by
  cases r with
  | ok a => exact f a rfl h
  | ex e m => exact h
  | no => exact h
theorem QR.imp {α : Type} {r : Rs α} {P P' : α → Prop} (h : QR K Ξ g H P r) (f : ∀ a, r = .ok a → P a → P' a) : QR K Ξ g H P' r := by
  cases r with
  | ok a => exact f a rfl h
  | ex e m => exact h
  | no => exact h
theorem QR.bindAt {α β : Type} {r : Rs α} {k : α → Rs β} {P : β → Prop} {P' : α → Prop} (x : Ext g H g' H') (h : QR K Ξ g H P (r.bind k)) (f : ∀ a, r = .ok a → QR K Ξ g H P (k a) → P' a) : QR K Ξ g' H' P' r := by
  cases r with
  | ok a => exact f a rfl h
  | ex e m => exact fun g2 H2 x2 e2 => h g2 H2 (x.trans x2) e2
  | no => exact h
theorem QR.later {α : Type} {r : Rs α} {P P' : α → Prop} (x : Ext g H g' H') (h : QR K Ξ g H P r) (f : ∀ a, P a → P' a) : QR K Ξ g' H' P' r := by
  cases r with
  | ok a => exact f a h
  | ex e m => exact fun g2 H2 x2 e2 => h g2 H2 (x.trans x2) e2
  | no => exact h
end
abbrev PEnd (K : KW) (g : Gh) (H : Hp) (Q : VK) : PV × Mm → Prop := fun p => ∀ g' H' V, Ext g H g' H' → Emb K g' p.2 H' → Rp K g' H' p.1 V → Q V H'
abbrev PEndA (K : KW) (g : Gh) (H : Hp) (Q : List V → Hp → Prop) : List PV × Mm → Prop := fun p => ∀ g' H' V, Ext g H g' H' → Emb K g' p.2 H' → Rps K g' H' p.1 V → Q V H'
abbrev PEndT (K : KW) (g : Gh) (H : Hp) (Q : Bool → Hp → Prop) : Bool × Mm → Prop := fun p => ∀ g' H', Ext g H g' H' → Emb K g' p.2 H' → Q p.1 H'
def FlOk (K : KW) (g : Gh) (H : Hp) (D : Ends) (σ : L2.St) : Fl → Prop
  | .nx => D.nx σ H
  | .bk => D.bk σ H
  | .ct => D.ct σ H
  | .rt v => ∀ V, Rp K g H v V → D.rt V H
abbrev PEndS (K : KW) (g : Gh) (H : Hp) (D : Ends) : Fl × Sl × Mm → Prop := fun p => ∀ g' H' σ', Ext g H g' H' → Emb K g' p.2.2 H' → Sr K g' H' p.2.1 σ' → FlOk K g' H' D σ' p.1
abbrev QE (K : KW) (Ξ : XC) (g : Gh) (H : Hp) (Q : VK) (r : Rs (PV × Mm)) : Prop := QR K Ξ g H (PEnd K g H Q) r
abbrev QA (K : KW) (Ξ : XC) (g : Gh) (H : Hp) (Q : List V → Hp → Prop) (r : Rs (List PV × Mm)) : Prop := QR K Ξ g H (PEndA K g H Q) r
abbrev QT (K : KW) (Ξ : XC) (g : Gh) (H : Hp) (Q : Bool → Hp → Prop) (r : Rs (Bool × Mm)) : Prop := QR K Ξ g H (PEndT K g H Q) r
abbrev QS (K : KW) (Ξ : XC) (g : Gh) (H : Hp) (D : Ends) (r : Rs (Fl × Sl × Mm)) : Prop := QR K Ξ g H (PEndS K g H D) r
section
variable {K : KW} {Ξ : XC} {g g' : Gh} {H H' : Hp}
theorem QE.later {Q : VK} {r : Rs (PV × Mm)} (x : Ext g H g' H') (h : QE K Ξ g H Q r) : QE K Ξ g' H' Q r := QR.later x h fun _ p g2 H2 V x2 => p g2 H2 V (x.trans x2)
theorem QA.later {Q : List V → Hp → Prop} {r : Rs (List PV × Mm)} (x : Ext g H g' H') (h : QA K Ξ g H Q r) : QA K Ξ g' H' Q r := QR.later x h fun _ p g2 H2 V x2 => p g2 H2 V (x.trans x2)
theorem QT.later {Q : Bool → Hp → Prop} {r : Rs (Bool × Mm)} (x : Ext g H g' H') (h : QT K Ξ g H Q r) : QT K Ξ g' H' Q r := QR.later x h fun _ p g2 H2 x2 => p g2 H2 (x.trans x2)
theorem QS.later {D : Ends} {r : Rs (Fl × Sl × Mm)} (x : Ext g H g' H') (h : QS K Ξ g H D r) : QS K Ξ g' H' D r := QR.later x h fun _ p g2 H2 V x2 => p g2 H2 V (x.trans x2)
end

/-! ### readings -/
def rdE (K : KW) (Ξ : XC) (f : SE) : TE := fun σ H Q => ∃ g s m, Emb K g m H ∧ Sr K g H s σ ∧ QE K Ξ g H Q (f s m)
def rdA (K : KW) (Ξ : XC) (f : SA) : TA := fun σ H Q => ∃ g s m, Emb K g m H ∧ Sr K g H s σ ∧ QA K Ξ g H Q (f s m)
def rdT (K : KW) (Ξ : XC) (f : ST) : TT := fun σ H Q => ∃ g s m, Emb K g m H ∧ Sr K g H s σ ∧ QT K Ξ g H Q (f s m)
def rdS (K : KW) (Ξ : XC) (f : SS) : TS := fun D σ H => ∃ g s m, Emb K g m H ∧ Sr K g H s σ ∧ QS K Ξ g H D (f s m)
/-- by values -/
def rd1 (K : KW) (Ξ : XC) (f : O1) : V → Hp → VK → Prop := fun x H Q => ∃ g m a, Emb K g m H ∧ Rp K g H a x ∧ QE K Ξ g H Q (f a m)
def rd2 (K : KW) (Ξ : XC) (f : O2) : R2 := fun x y H Q => ∃ g m a b, Emb K g m H ∧ Rp K g H a x ∧ Rp K g H b y ∧ QE K Ξ g H Q (f a b m)
def rdN (K : KW) (Ξ : XC) (f : ON) : List V → Hp → VK → Prop := fun xs H Q => ∃ g m as, Emb K g m H ∧ Rps K g H as xs ∧ QE K Ξ g H Q (f as m)

theorem PE_imp {X : Cx} {e : Expr} {t t' : TE} (h : PE X e t) (f : ∀ σ H Q, t' σ H Q → t σ H Q) : PE X e t' := ⟨fun pins s σ H Q I q => h.run pins s σ H Q I (f σ H Q q)⟩
theorem PT_imp {X : Cx} {e : Expr} {t t' : TT} (h : PT X e t) (f : ∀ σ H Q, t' σ H Q → t σ H Q) : PT X e t' := ⟨fun pins s σ H Q I q => h.run pins s σ H Q I (f σ H Q q)⟩
theorem PW_imp {X : Cx} {e : Expr} {t t' : TT} (h : PW X e t) (f : ∀ σ H Q, t' σ H Q → t σ H Q) : PW X e t' := ⟨fun wh pins s σ H Q I q => h.run wh pins s σ H Q I (f σ H Q q)⟩
theorem PA_imp {X : Cx} {e : List Expr} {t t' : TA} (h : PA X e t) (f : ∀ σ H Q, t' σ H Q → t σ H Q) : PA X e t' := ⟨fun pos pins s σ H Q I q => h.run pos pins s σ H Q I (f σ H Q q)⟩
theorem PS_imp {X : Cx} {e : Stmt} {t t' : TS} (h : PS X e t) (f : ∀ D σ H, t' D σ H → t D σ H) : PS X e t' := ⟨fun pins s σ H D I q => h.run pins s σ H D I (f D σ H q)⟩
theorem PSs_imp {X : Cx} {e : List Stmt} {t t' : TS} (h : PSs X e t) (f : ∀ D σ H, t' D σ H → t D σ H) : PSs X e t' := ⟨fun pins s σ H D I q => h.run pins s σ H D I (f D σ H q)⟩
theorem PG_imp {X : Cx} {e : Expr} {t t' : TG} (h : PG X e t) (f : ∀ v σ H Q, t' v σ H Q → t v σ H Q) : PG X e t' := ⟨fun pins s σ H v u Q I r q => h.run pins s σ H v u Q I r (f v σ H Q q)⟩
theorem OpR_imp {X : Cx} {f : Value → Value → Sem Value} {r r' : R2} (h : OpR X f r) (i : ∀ x y H Q, r' x y H Q → r x y H Q) : OpR X f r' := fun pins s σ H x y v u Q I rx ry q => h pins s σ H x y v u Q I rx ry (i _ _ _ _ q)
theorem CallR_imp {X : Cx} {f : Value} {r r' : List V → Hp → VK → Prop} (h : CallR X f r) (i : ∀ xs H Q, r' xs H Q → r xs H Q) : CallR X f r' := fun pins s σ H xs us Q I rx q => h pins s σ H xs us Q I rx (i _ _ _ q)
end TT
end

section
set_option Elab.async false
set_option linter.all false
set_option autoImplicit false
set_option maxRecDepth 100000
/-! TT: new objects, writes, operators by values -/
namespace TT
open PySem PySem.Spec PyProof.Rows L2

section
variable {K : KW} {g g' : Gh} {m m' : Mm} {H H' : Hp}
/-! ### new objects, writes -/
theorem Ext.newTup {p : Addr} {o : HO} (hp : H p = none) (ht : ¬ ∃ n, g.φ n = some p) : Ext g H g (upd H p o) :=
  ⟨fun _ _ h => h, fun _ _ h => h, fun a u h _ _ => by rw [upd_ne (ne_of_none h hp)]; exact h, fun _ _ _ h _ => h, fun _ _ _ _ _ h => h, rfl⟩
theorem Emb.free (e : Emb K g m H) {p : Addr} (hp : H p = none) : ∀ n, g.φ n ≠ some p := fun n h => by
  obtain ⟨_, u, hu, _⟩ := e.dom n p h
  rw [hp] at hu; cases hu
theorem Emb.freeR (e : Emb K g m H) {p : Addr} (hp : H p = none) : g.ro p = none := by
  cases q : g.ro p with
  | none => rfl
  | some u =>
    have := (e.ro p u q).1
    rw [hp] at this; cases this
theorem Emb.new_tup (e : Emb K g m H) {p : Addr} {xs : List PV} {vs : List V} (hp : H p = none) (r : Rps K g H xs vs) :
    Ext g H g (upd H p (.tup vs)) ∧ Emb K g m (upd H p (.tup vs)) ∧ Rp K g (upd H p (.tup vs)) (.tup xs) (.ref p) := by
  have x : Ext g H g (upd H p (.tup vs)) := Ext.newTup hp fun ⟨n, h⟩ => e.free hp n h
  refine ⟨x, ⟨fun n o h => ?_, fun n a h => ?_, e.inj, fun a u h => ?_, e.nt, tabs_new e.tab hp⟩, .tup (.inl (.inl upd_same)) (r.ext e x)⟩
  · have q := e.obj n o h
    cases o with
    | lst ys =>
      obtain ⟨a, ws, h1, h2, h3⟩ := q
      exact ⟨a, ws, h1, by rw [upd_ne (ne_of_none h2 hp)]; exact h2, h3.ext e x⟩
    | dict ys =>
      obtain ⟨a, ws, h1, h2, h3⟩ := q
      exact ⟨a, ws, h1, by rw [upd_ne (ne_of_none h2 hp)]; exact h2, h3.ext e x⟩
    | ins cN ys =>
      obtain ⟨a, cC, cD, ws, h1, cM, h2, h3⟩ := q
      exact ⟨a, cC, cD, ws, h1, cM, by rw [upd_ne (ne_of_none h2 hp)]; exact h2, h3.ext e x⟩
    | dl zs =>
      obtain ⟨a, ob, ws, h1, h2, h3⟩ := q
      exact ⟨a, ob, ws, h1, x.ro _ _ h2, h3.ext e x⟩
    | kd ys =>
      obtain ⟨a, ws, h1, h2, h3⟩ := q
      exact ⟨a, ws, h1, by rw [upd_ne (ne_of_none h2 hp)]; exact h2, h3.ext e x⟩
    | kl zs =>
      obtain ⟨a, ob, ws, h1, h2, h3⟩ := q
      exact ⟨a, ob, ws, h1, x.ro _ _ h2, h3.ext e x⟩
    | dead => trivial
    | tab P l => exact q
  · obtain ⟨h1, u, h2, h3⟩ := e.dom n a h
    exact ⟨h1, u, by rw [upd_ne (ne_of_none h2 hp)]; exact h2, h3⟩
  · obtain ⟨h1, h2⟩ := e.ro a u h
    exact ⟨by rw [upd_ne (ne_of_none h1 hp)]; exact h1, h2⟩
def Gh.addR (g : Gh) (p : Addr) (o : HO) : Gh := ⟨g.φ, upd g.ro p o, g.T⟩
theorem nt_addR {g : Gh} {p : Addr} {vs : List V} (h : ∀ a u, g.ro a = some u → NT u) : ∀ a u, (g.addR p (.lst vs)).ro a = some u → NT u := fun a u z => by
  have z' : upd g.ro p (.lst vs) a = some u := z
  by_cases ha : a = p
  · subst ha; rw [upd_same] at z'; cases z'; exact fun ps z => nomatch z
  · rw [upd_ne ha] at z'; exact h a u z'
theorem Emb.new_vl (e : Emb K g m H) {p : Addr} {xs : List PV} {vs : List V} (hp : H p = none) (r : Rps K g H xs vs) :
    Ext g H (g.addR p (.lst vs)) (upd H p (.lst vs)) ∧ Emb K (g.addR p (.lst vs)) m (upd H p (.lst vs)) ∧ Rp K (g.addR p (.lst vs)) (upd H p (.lst vs)) (.vl xs) (.ref p) := by
  have x : Ext g H (g.addR p (.lst vs)) (upd H p (.lst vs)) :=
    ⟨fun _ _ h => h, fun a u h => by
      have : a ≠ p := fun z => by subst z; rw [e.freeR hp] at h; cases h
      show upd g.ro p _ a = some u
      rw [upd_ne this]; exact h, fun a u h _ _ => by rw [upd_ne (ne_of_none h hp)]; exact h, fun _ _ _ h _ => h, fun a u h _ _ hr => by
      show upd g.ro p _ a = none
      rw [upd_ne (ne_of_none h hp)]; exact hr, rfl⟩
  refine ⟨x, ⟨fun n o h => ?_, fun n a h => ?_, e.inj, fun a u h => ?_, nt_addR e.nt, tabs_new e.tab hp⟩, .vl upd_same (r.ext e x)⟩
  · have q := e.obj n o h
    cases o with
    | lst ys =>
      obtain ⟨a, ws, h1, h2, h3⟩ := q
      exact ⟨a, ws, h1, by rw [upd_ne (ne_of_none h2 hp)]; exact h2, h3.ext e x⟩
    | dict ys =>
      obtain ⟨a, ws, h1, h2, h3⟩ := q
      exact ⟨a, ws, h1, by rw [upd_ne (ne_of_none h2 hp)]; exact h2, h3.ext e x⟩
    | ins cN ys =>
      obtain ⟨a, cC, cD, ws, h1, cM, h2, h3⟩ := q
      exact ⟨a, cC, cD, ws, h1, cM, by rw [upd_ne (ne_of_none h2 hp)]; exact h2, h3.ext e x⟩
    | dl zs =>
      obtain ⟨a, ob, ws, h1, h2, h3⟩ := q
      exact ⟨a, ob, ws, h1, x.ro _ _ h2, h3.ext e x⟩
    | kd ys =>
      obtain ⟨a, ws, h1, h2, h3⟩ := q
      exact ⟨a, ws, h1, by rw [upd_ne (ne_of_none h2 hp)]; exact h2, h3.ext e x⟩
    | kl zs =>
      obtain ⟨a, ob, ws, h1, h2, h3⟩ := q
      exact ⟨a, ob, ws, h1, x.ro _ _ h2, h3.ext e x⟩
    | dead => trivial
    | tab P l => exact q
  · obtain ⟨h1, u, h2, h3⟩ := e.dom n a h
    exact ⟨h1, u, by rw [upd_ne (ne_of_none h2 hp)]; exact h2, h3⟩
  · by_cases ha : a = p
    · subst ha
      have h' : upd g.ro a (.lst vs) a = some u := h
      rw [upd_same] at h'; cases h'
      exact ⟨upd_same, fun n hn => (e.free hp n hn).elim⟩
    · have h' : upd g.ro p (.lst vs) a = some u := h
      rw [upd_ne ha] at h'
      obtain ⟨h1, h2⟩ := e.ro a u h'
      exact ⟨by rw [upd_ne ha]; exact h1, h2⟩
def Gh.addP (g : Gh) (k : Nat) (p : Addr) : Gh := ⟨fun n => if n = k then some p else g.φ n, g.ro, g.T⟩
theorem Emb.fresh_id (e : Emb K g m H) : g.φ m.length = none := by
  cases q : g.φ m.length with
  | none => rfl
  | some a => exact absurd (e.dom _ _ q).1 (Nat.lt_irrefl _)
theorem Emb.new_lst (e : Emb K g m H) {p : Addr} {xs : List PV} {vs : List V} (hp : H p = none) (r : Rps K g H xs vs) :
    Ext g H (g.addP m.length p) (upd H p (.lst vs)) ∧ Emb K (g.addP m.length p) (m ++ [.lst xs]) (upd H p (.lst vs)) ∧ Rp K (g.addP m.length p) (upd H p (.lst vs)) (.ref m.length) (.ref p) := by
  have x : Ext g H (g.addP m.length p) (upd H p (.lst vs)) :=
    ⟨fun n a h => by
      have : n ≠ m.length := fun z => by subst z; rw [e.fresh_id] at h; cases h
      show (if n = m.length then some p else g.φ n) = some a
      rw [if_neg this]; exact h, fun a u h => h, fun a u h _ _ => by rw [upd_ne (ne_of_none h hp)]; exact h, fun a u h hn _ n => by
      show (if n = m.length then some p else g.φ n) ≠ some a
      split
      · intro z; cases z; rw [hp] at h; cases h
      · exact hn n, fun _ _ _ _ _ h => h, rfl⟩
  refine ⟨x, ⟨fun n o h => ?_, fun n a h => ?_, fun n k a h1 h2 => ?_, fun a u h => ?_, e.nt, tabs_new e.tab hp⟩, .ref (by show (if m.length = m.length then some p else _) = _; rw [if_pos rfl])⟩
  · by_cases hn : n < m.length
    · rw [List.getElem?_append_left hn] at h
      have q := e.obj n o h
      cases o with
      | lst ys =>
        obtain ⟨a, ws, h1, h2, h3⟩ := q
        exact ⟨a, ws, x.phi _ _ h1, by rw [upd_ne (ne_of_none h2 hp)]; exact h2, h3.ext e x⟩
      | dict ys =>
        obtain ⟨a, ws, h1, h2, h3⟩ := q
        exact ⟨a, ws, x.phi _ _ h1, by rw [upd_ne (ne_of_none h2 hp)]; exact h2, h3.ext e x⟩
      | ins cN ys =>
        obtain ⟨a, cC, cD, ws, h1, cM, h2, h3⟩ := q
        exact ⟨a, cC, cD, ws, x.phi _ _ h1, cM, by rw [upd_ne (ne_of_none h2 hp)]; exact h2, h3.ext e x⟩
      | dl zs =>
        obtain ⟨a, ob, ws, h1, h2, h3⟩ := q
        exact ⟨a, ob, ws, x.phi _ _ h1, x.ro _ _ h2, h3.ext e x⟩
      | kd ys =>
        obtain ⟨a, ws, h1, h2, h3⟩ := q
        exact ⟨a, ws, x.phi _ _ h1, by rw [upd_ne (ne_of_none h2 hp)]; exact h2, h3.ext e x⟩
      | kl zs =>
        obtain ⟨a, ob, ws, h1, h2, h3⟩ := q
        exact ⟨a, ob, ws, x.phi _ _ h1, x.ro _ _ h2, h3.ext e x⟩
      | dead => trivial
      | tab P l => exact q
    · have hle : m.length ≤ n := Nat.le_of_not_lt hn
      rw [List.getElem?_append_right hle] at h
      have h0 : n - m.length = 0 := by
        cases hk : n - m.length with
        | zero => rfl
        | succ j => rw [hk] at h; simp at h
      rw [h0] at h
      have hnm : n = m.length := by omega
      simp at h
      subst h
      subst hnm
      exact ⟨p, vs, by show (if m.length = m.length then some p else _) = _; rw [if_pos rfl], upd_same, r.ext e x⟩
  · have h' : (if n = m.length then some p else g.φ n) = some a := h
    rw [List.length_append, List.length_singleton]
    split at h'
    · cases h'
      exact ⟨by omega, _, upd_same, .inl trivial⟩
    · obtain ⟨h1, u, h2, h3⟩ := e.dom n a h'
      exact ⟨by omega, u, by rw [upd_ne (ne_of_none h2 hp)]; exact h2, h3⟩
  · have h1' : (if n = m.length then some p else g.φ n) = some a := h1
    have h2' : (if k = m.length then some p else g.φ k) = some a := h2
    split at h1' <;> split at h2'
    · omega
    · cases h1'; exact (e.free hp _ h2').elim
    · cases h2'; exact (e.free hp _ h1').elim
    · exact e.inj n k a h1' h2'
  · obtain ⟨h1, h2⟩ := e.ro a u h
    refine ⟨by rw [upd_ne (ne_of_none h1 hp)]; exact h1, fun n hn => ?_⟩
    have hn' : (if n = m.length then some p else g.φ n) = some a := hn
    split at hn'
    · cases hn'; rw [hp] at h1; cases h1
    · have q := h2 n hn'
      have : n < m.length := (e.dom n a hn').1
      rw [List.getElem?_append_left this]; exact q
/-- a list in the memory is written -/
theorem Emb.wr_lst (e : Emb K g m H) {n : Nat} {a : Addr} {xs ys : List PV} {ws : List V} (hm : m[n]? = some (.lst xs)) (ha : g.φ n = some a) (r : Rps K g H ys ws) :
    Ext g H g (upd H a (.lst ws)) ∧ Emb K g (m.set n (.lst ys)) (upd H a (.lst ws)) := by
  have x : Ext g H g (upd H a (.lst ws)) := ⟨fun _ _ h => h, fun _ _ h => h, fun b u h hb _ => by
    rw [upd_ne (fun z => hb n (by rw [z]; exact ha))]; exact h, fun _ _ _ h _ => h, fun _ _ _ _ _ h => h, rfl⟩
  have hlt : n < m.length := (List.getElem?_eq_some_iff.mp hm).1
  obtain ⟨a0, vs0, p1, p2, _⟩ := e.obj n _ hm
  rw [ha] at p1; cases p1
  refine ⟨x, fun k o h => ?_, fun k b h => ?_, e.inj, fun b u h => ?_, e.nt, tabs_wr e.tab p2 (fun ps z => nomatch z) (fun ps z => nomatch z)⟩
  · by_cases hk : n = k
    · subst hk
      rw [List.getElem?_set_self hlt] at h
      cases h
      exact ⟨a, ws, ha, upd_same, r.ext e x⟩
    · rw [List.getElem?_set_ne hk] at h
      have q := e.obj k o h
      cases o with
      | lst zs =>
        obtain ⟨b, us, h1, h2, h3⟩ := q
        refine ⟨b, us, h1, ?_, h3.ext e x⟩
        rw [upd_ne (fun z => hk (e.inj n k a ha (by rw [← z]; exact h1)))]
        exact h2
      | dict zs =>
        obtain ⟨b, us, h1, h2, h3⟩ := q
        refine ⟨b, us, h1, ?_, h3.ext e x⟩
        rw [upd_ne (fun z => hk (e.inj n k a ha (by rw [← z]; exact h1)))]
        exact h2
      | ins cN zs =>
        obtain ⟨b, cC, cD, us, h1, cM, h2, h3⟩ := q
        refine ⟨b, cC, cD, us, h1, cM, ?_, h3.ext e x⟩
        rw [upd_ne (fun z => hk (e.inj n k a ha (by rw [← z]; exact h1)))]
        exact h2
      | dl zs =>
        obtain ⟨b, ob, us, h1, h2, h3⟩ := q
        exact ⟨b, ob, us, h1, x.ro _ _ h2, h3.ext e x⟩
      | kd zs =>
        obtain ⟨b, us, h1, h2, h3⟩ := q
        refine ⟨b, us, h1, ?_, h3.ext e x⟩
        rw [upd_ne (fun z => hk (e.inj n k a ha (by rw [← z]; exact h1)))]
        exact h2
      | kl zs =>
        obtain ⟨b, ob, us, h1, h2, h3⟩ := q
        exact ⟨b, ob, us, h1, x.ro _ _ h2, h3.ext e x⟩
      | dead => trivial
      | tab P l => exact q
  · obtain ⟨h1, u, h2, h3⟩ := e.dom k b h
    rw [List.length_set]
    by_cases hb : b = a
    · subst hb; exact ⟨h1, _, upd_same, .inl trivial⟩
    · exact ⟨h1, u, by rw [upd_ne hb]; exact h2, h3⟩
  · obtain ⟨h1, h2⟩ := e.ro b u h
    have hb : b ≠ a := fun z => by
      subst z
      have := h2 n ha
      rw [hm] at this; cases this
    refine ⟨by rw [upd_ne hb]; exact h1, fun k hk => ?_⟩
    have q := h2 k hk
    have hkn : n ≠ k := fun z => by subst z; rw [hm] at q; cases q
    rw [List.getElem?_set_ne hkn]; exact q
/-- a list in the memory becomes a value -/
theorem Emb.freeze (e : Emb K g m H) {n : Nat} {a : Addr} {xs : List PV} (hm : m[n]? = some (.lst xs)) (ha : g.φ n = some a) :
    ∃ g', Ext g H g' H ∧ Emb K g' (m.set n .dead) H ∧ Rp K g' H (.vl xs) (.ref a) := by
  obtain ⟨a', vs, h1, h2, h3⟩ := e.obj n _ hm
  rw [ha] at h1; cases h1
  have hlt : n < m.length := (List.getElem?_eq_some_iff.mp hm).1
  have hro : g.ro a = none := by
    cases q : g.ro a with
    | none => rfl
    | some u =>
      have := (e.ro a u q).2 n ha
      rw [hm] at this; cases this
  have x : Ext g H (g.addR a (.lst vs)) H := ⟨fun _ _ h => h, fun b u h => by
    have : b ≠ a := fun z => by subst z; rw [hro] at h; cases h
    show upd g.ro a _ b = some u
    rw [upd_ne this]; exact h, fun _ _ h _ _ => h, fun _ _ _ h _ => h, fun b u h hb _ hr => by
    show upd g.ro a _ b = none
    rw [upd_ne (fun z => hb n (by rw [z]; exact ha))]; exact hr, rfl⟩
  refine ⟨g.addR a (.lst vs), x, ⟨fun k o h => ?_, fun k b h => ?_, e.inj, fun b u h => ?_, nt_addR e.nt, e.tab⟩, .vl upd_same (h3.ext e x)⟩
  · by_cases hk : n = k
    · subst hk
      rw [List.getElem?_set_self hlt] at h
      cases h; trivial
    · rw [List.getElem?_set_ne hk] at h
      have q := e.obj k o h
      cases o with
      | lst zs =>
        obtain ⟨b, us, q1, q2, q3⟩ := q
        exact ⟨b, us, q1, q2, q3.ext e x⟩
      | dict zs =>
        obtain ⟨b, us, q1, q2, q3⟩ := q
        exact ⟨b, us, q1, q2, q3.ext e x⟩
      | ins cN zs =>
        obtain ⟨b, cC, cD, us, q1, cM, q2, q3⟩ := q
        exact ⟨b, cC, cD, us, q1, cM, q2, q3.ext e x⟩
      | dl zs =>
        obtain ⟨b, ob, us, q1, q2, q3⟩ := q
        exact ⟨b, ob, us, q1, x.ro _ _ q2, q3.ext e x⟩
      | kd zs =>
        obtain ⟨b, us, q1, q2, q3⟩ := q
        exact ⟨b, us, q1, q2, q3.ext e x⟩
      | kl zs =>
        obtain ⟨b, ob, us, q1, q2, q3⟩ := q
        exact ⟨b, ob, us, q1, x.ro _ _ q2, q3.ext e x⟩
      | dead => trivial
      | tab P l => exact q
  · obtain ⟨q1, q2⟩ := e.dom k b h
    exact ⟨by rw [List.length_set]; exact q1, q2⟩
  · have h' : upd g.ro a (.lst vs) b = some u := h
    by_cases hb : b = a
    · subst hb
      rw [upd_same] at h'; cases h'
      refine ⟨h2, fun k hk => ?_⟩
      have : k = n := e.inj k n b hk ha
      subst this
      rw [List.getElem?_set_self hlt]; trivial
    · rw [upd_ne hb] at h'
      obtain ⟨q1, q2⟩ := e.ro b u h'
      refine ⟨q1, fun k hk => ?_⟩
      have q := q2 k hk
      by_cases hkn : n = k
      · subst hkn; rw [List.getElem?_set_self hlt]; trivial
      · rw [List.getElem?_set_ne hkn]; exact q
end

/-! ### ends -/
section
variable {K : KW} {Ξ : XC} {g g' : Gh} {m m' : Mm} {H H' : Hp} {Q : VK}
theorem QE.ret {v : PV} {w : V} (e : Emb K g m H) (r : Rp K g H v w) (h : QE K Ξ g H Q (.ok (v, m))) : Q w H := h g H w (Ext.refl _ _) e r
theorem QE.newT {xs : List PV} {vs : List V} (e : Emb K g m H) (r : Rps K g H xs vs) (h : QE K Ξ g H Q (.ok (.tup xs, m))) {p : Addr} (hp : H p = none) : Q (.ref p) (upd H p (.tup vs)) :=
  let ⟨a, b, c⟩ := e.new_tup hp r; h _ _ _ a b c
theorem QE.newL {xs : List PV} {vs : List V} (e : Emb K g m H) (r : Rps K g H xs vs) (h : QE K Ξ g H Q (.ok (.vl xs, m))) {p : Addr} (hp : H p = none) : Q (.ref p) (upd H p (.lst vs)) :=
  let ⟨a, b, c⟩ := e.new_vl hp r; h _ _ _ a b c
theorem QE.newM {xs : List PV} {vs : List V} (e : Emb K g m H) (r : Rps K g H xs vs) (h : QE K Ξ g H Q (.ok (.ref m.length, m ++ [.lst xs]))) {p : Addr} (hp : H p = none) : Q (.ref p) (upd H p (.lst vs)) :=
  let ⟨a, b, c⟩ := e.new_lst hp r; h _ _ _ a b c
end
theorem line_le {n : Nat} (h : n ≤ LINE) : n ≤ sizeLine := Nat.le_trans h (by rw [sizeLine_eq]; decide)
theorem line_lt {n : Nat} (h : n < LINE) : n < sizeLine := Nat.lt_of_lt_of_le h (by rw [sizeLine_eq]; decide)

/-! ### operators -/
section
variable {X : Cx} {Ξ : XC}
theorem op_tAdd : OpR X (binaryOp .Add) (rd2 X.kw Ξ oAdd) := by
  have h := ((op_add (X := X)).or (op_add_str.or (op_catA.or op_cat)))
  refine OpR_imp h fun x y H Q ⟨g, m, a, b, e, ra, rb, q⟩ => ?_
  unfold oAdd at q
  split at q
  · rename_i i j h1 h2
    rw [look1_int h1] at ra
    rw [look1_int h2] at rb
    cases ra.int_inv; cases rb.int_inv
    exact .inl ⟨i, j, rfl, rfl, QE.ret e (.int _) q⟩
  · rename_i xs ys h1 h2
    obtain ⟨a1, vs, rfl, ha, r1⟩ := e.look ra h1
    obtain ⟨b1, ws, rfl, hb, r2⟩ := e.look rb h2
    split at q
    · rename_i hl
      exact .inr (.inr (.inr ⟨a1, b1, vs, ws, rfl, rfl, ha, hb, by rw [← r1.length, ← r2.length]; exact line_le hl, fun p hp => QE.newL e (r1.append r2) q hp⟩))
    · exact q.elim
  · rename_i xs ys h1 h2
    rw [look1_str h1] at ra
    rw [look1_str h2] at rb
    cases ra.str_inv; cases rb.str_inv
    split at q
    · rename_i hl
      refine .inr (.inl ⟨_, _, rfl, rfl, ?_, ?_⟩)
      · show xs.toArray.size + ys.toArray.size ≤ sizeLine
        simpa using line_le hl
      · have := QE.ret e (.str (xs ++ ys)) q
        have ee : (⟨xs.toArray⟩ : Str) ++ (⟨ys.toArray⟩ : Str) = ⟨(xs ++ ys).toArray⟩ := by
          show Str.append _ _ = _
          unfold Str.append
          simp
        rw [ee]; exact this
    · exact q.elim
  · rename_i xs ys h1 h2
    rw [look1_tup h1] at ra
    rw [look1_tup h2] at rb
    obtain ⟨a1, vs, rfl, ha, r1⟩ := ra.tup_inv
    obtain ⟨b1, ws, rfl, hb, r2⟩ := rb.tup_inv
    split at q
    · rename_i hl
      refine .inr (.inr (.inl ⟨a1, b1, vs, ws, rfl, rfl, ha, hb, by rw [← r1.length, ← r2.length]; exact line_le hl, fun z => ?_, fun _ z => ?_, fun _ _ p hp => QE.newT e (r1.append r2) q hp⟩))
      · subst z
        cases r1
        exact QE.ret e (.tup hb r2) q
      · subst z
        cases r2
        rw [List.append_nil] at q
        exact QE.ret e (.tup ha r1) q
    · exact q.elim
  · exact q.elim
theorem op_tSub : OpR X (binaryOp .Sub) (rd2 X.kw Ξ oSub) := by
  refine OpR_imp op_sub fun x y H Q ⟨g, m, a, b, e, ra, rb, q⟩ => ?_
  unfold oSub at q
  split at q
  · cases ra.int_inv; cases rb.int_inv
    exact ⟨_, _, rfl, rfl, QE.ret e (.int _) q⟩
  · exact q.elim
theorem op_tFDiv : OpR X (binaryOp .FloorDiv) (rd2 X.kw Ξ oFDiv) := by
  refine OpR_imp op_fdiv fun x y H Q ⟨g, m, a, b, e, ra, rb, q⟩ => ?_
  unfold oFDiv at q
  split at q
  · cases ra.int_inv; cases rb.int_inv
    split at q
    · rename_i hc
      simp only [Bool.and_eq_true, decide_eq_true_eq] at hc
      exact ⟨_, _, rfl, rfl, hc, QE.ret e (.int _) q⟩
    · exact q.elim
  · exact q.elim
theorem op_tMod : OpR X (binaryOp .Mod) (rd2 X.kw Ξ oMod) := by
  refine OpR_imp op_mod fun x y H Q ⟨g, m, a, b, e, ra, rb, q⟩ => ?_
  unfold oMod at q
  split at q
  · cases ra.int_inv; cases rb.int_inv
    split at q
    · rename_i hc
      simp only [decide_eq_true_eq] at hc
      exact ⟨_, _, rfl, rfl, hc, QE.ret e (.int _) q⟩
    · exact q.elim
  · exact q.elim
theorem op_tPow : OpR X (binaryOp .Pow) (rd2 X.kw Ξ oPow) := by
  refine OpR_imp op_pow fun x y H Q ⟨g, m, a, b, e, ra, rb, q⟩ => ?_
  unfold oPow at q
  split at q
  · cases ra.int_inv; cases rb.int_inv
    split at q
    · rename_i hc
      simp only [Bool.and_eq_true, decide_eq_true_eq] at hc
      exact ⟨_, _, rfl, rfl, ⟨hc.1.1, by omega, hc.2⟩, QE.ret e (.int _) q⟩
    · exact q.elim
  · exact q.elim
theorem op_tCmp {op : CmpOp} {p : Int → Int → Bool} (h : OpR X (compareOp op) (rI0 fun i j => .bl (p i j))) : OpR X (compareOp op) (rd2 X.kw Ξ (oCmp p)) := by
  refine OpR_imp h fun x y H Q ⟨g, m, a, b, e, ra, rb, q⟩ => ?_
  unfold oCmp at q
  split at q
  · cases ra.int_inv; cases rb.int_inv
    exact ⟨_, _, rfl, rfl, QE.ret e (.bl _) q⟩
  · exact q.elim
theorem op_tLt : OpR X (compareOp .Lt) (rd2 X.kw Ξ oLt) := op_tCmp op_lt
theorem op_tLe : OpR X (compareOp .LtE) (rd2 X.kw Ξ oLe) := op_tCmp op_le
theorem op_tGt : OpR X (compareOp .Gt) (rd2 X.kw Ξ oGt) := op_tCmp op_gt
theorem op_tGe : OpR X (compareOp .GtE) (rd2 X.kw Ξ oGe) := op_tCmp op_ge
end
end TT
end

section
set_option Elab.async false
set_option linter.all false
set_option autoImplicit false
set_option maxRecDepth 100000
/-! TT: * of tuples and lists by any small number -/
namespace TT
open PySem PySem.Spec PyProof.Rows L2
set_option maxHeartbeats 4000000
theorem tuple_mulS (l : Addr) (items : Array Value) (n : Nat) (dd : Option Addr) (sl : Array (Option Value)) (x : Int) (u : Tok) (c0 : (decide (x < -(2 ^ 63)) || decide (x ≥ 2 ^ 63)) = false) (c1 : (items.isEmpty || x == 1) = true) :
    Meets (Builtin.«tuple.__mul__» ⟨[.ref l, .int x u], []⟩) (fun _ R s => s.heap.get? l = some { cls := .type "tuple", dict := dd, data := .seq items n, slots := sl } ∧
      R (.ok (.ret (Value.ref l))) s) :=
  .of_wp fun prog w A R s h => by
    obtain ⟨hp, g, d, tk, os⟩ := s
    obtain ⟨hl, h⟩ := h
    have f1 := AutoSeq1.idx_int
    wp_walk using wpAny_loadPart' hl
    repeat (first
      | (refine wpAny_ite_false (decide_eq_false (by rw [c0]; exact Bool.false_ne_true)) ?_; wp_walk using wpAny_loadPart' hl)
      | (refine wpAny_ite_true (decide_eq_true c1) ?_; wp_walk using wpAny_loadPart' hl))
    exact ⟨_, rfl, h⟩
theorem tuple_mulZ (l : Addr) (items : Array Value) (n : Nat) (dd : Option Addr) (sl : Array (Option Value)) (x : Int) (u : Tok) (c0 : (decide (x < -(2 ^ 63)) || decide (x ≥ 2 ^ 63)) = false) (c1 : (items.isEmpty || x == 1) = false) (c2 : (decide (x ≤ 0) || items.isEmpty) = true) :
    Meets (Builtin.«tuple.__mul__» ⟨[.ref l, .int x u], []⟩) (fun _ R s => s.heap.get? l = some { cls := .type "tuple", dict := dd, data := .seq items n, slots := sl } ∧
      R (.ok (.ret (Value.ref s.heap.objs.size))) { s with heap := s.heap.push { cls := Value.type "tuple", data := Data.seq #[] }, toks := s.toks }) :=
  .of_wp fun prog w A R s h => by
    obtain ⟨hp, g, d, tk, os⟩ := s
    obtain ⟨hl, h⟩ := h
    have f1 := AutoSeq1.idx_int
    wp_walk using wpAny_loadPart' hl
    repeat (first
      | (refine wpAny_ite_false (decide_eq_false (by rw [c0]; exact Bool.false_ne_true)) ?_; wp_walk using wpAny_loadPart' hl)
      | (refine wpAny_ite_false (decide_eq_false (by rw [c1]; exact Bool.false_ne_true)) ?_; wp_walk using wpAny_loadPart' hl)
      | (refine wpAny_ite_true (decide_eq_true c2) ?_; wp_walk using wpAny_loadPart' hl))
    exact ⟨_, rfl, h⟩
section
variable {X : Cx} {Ξ : XC}
theorem op_repS : OpR X (binaryOp .Mult) (fun x y H Q => ∃ l k xs, x = .ref l ∧ y = .int k ∧ SqT X.kw H l xs ∧ -1000 ≤ k ∧ k ≤ 1000 ∧ (xs = [] ∨ k = 1) ∧ Q (.ref l) H) := by
  intro pins s σ H x y v u Q I rx ry h
  obtain ⟨l, k, xs, rfl, rfl, hT, h1, h2, hc, q⟩ := h
  cases rx
  obtain ⟨t, rfl⟩ := ry
  obtain ⟨its, r, ⟨⟨cls, dd, data, sl⟩, ho, hc', n, hd⟩, hs⟩ := I.tuple hT
  simp only at hc' hd
  subst hc' hd
  have c0 : (decide (k < -(2 ^ 63)) || decide (k ≥ 2 ^ 63)) = false := by
    rw [decide_eq_false (by omega), decide_eq_false (by omega)] <;> rfl
  have c1 : (its.toArray.isEmpty || k == 1) = true := by
    rcases hc with hc | hc
    · subst hc
      have := r.length
      have e : its = [] := List.eq_nil_of_length_eq_zero this.symm
      subst e; rfl
    · subst hc; simp
  exact wpAny_binaryOp_repeat_ref (T := "tuple") (U := "int") (by decide) ⟨_, ho, rfl⟩ (fun s' => typeIs_int s' k t) noFill_tuple_mul F.fills_int_mul F.slot_int_rmul repeat_tuple F.slot_int_index.lookup
    (call_meets F.slot_int_rmul (typeIs_int s k t) F.entry_int_rmul (F.args_int_rmul_2 _ _) (int_rmul_tuple k t l its.toArray n dd sl)
      ⟨ho, rfl, ⟨_, ho, rfl⟩, call_meets F.slot_tuple_mul ⟨_, ho, rfl⟩ F.entry_tuple_mul (F.args_tuple_mul_2 _ _) (tuple_mulS l its.toArray n dd sl k t c0 c1) ⟨ho, ⟨.ref l, H, I, rfl, q⟩⟩⟩)
theorem op_repZ : OpR X (binaryOp .Mult) (fun x y H Q => ∃ l k xs, x = .ref l ∧ y = .int k ∧ SqT X.kw H l xs ∧ xs ≠ [] ∧ -1000 ≤ k ∧ k ≤ 0 ∧ ∀ p, H p = none → Q (.ref p) (upd H p (.tup []))) := by
  intro pins s σ H x y v u Q I rx ry h
  obtain ⟨l, k, xs, rfl, rfl, hT, hne, h1, h2, q⟩ := h
  cases rx
  obtain ⟨t, rfl⟩ := ry
  obtain ⟨its, r, ⟨⟨cls, dd, data, sl⟩, ho, hc', n, hd⟩, hs⟩ := I.tuple hT
  simp only at hc' hd
  subst hc' hd
  have hi : its.toArray.isEmpty = false := by
    cases its with
    | nil => exact absurd (List.eq_nil_of_length_eq_zero r.length) hne
    | cons a b => rfl
  have c0 : (decide (k < -(2 ^ 63)) || decide (k ≥ 2 ^ 63)) = false := by
    rw [decide_eq_false (by omega), decide_eq_false (by omega)] <;> rfl
  have c1 : (its.toArray.isEmpty || k == 1) = false := by
    rw [hi, Bool.false_or]
    exact beq_eq_false_iff_ne.mpr (by omega)
  have c2 : (decide (k ≤ 0) || its.toArray.isEmpty) = true := by
    rw [decide_eq_true h2]; rfl
  exact wpAny_binaryOp_repeat_ref (T := "tuple") (U := "int") (by decide) ⟨_, ho, rfl⟩ (fun s' => typeIs_int s' k t) noFill_tuple_mul F.fills_int_mul F.slot_int_rmul repeat_tuple F.slot_int_index.lookup
    (call_meets F.slot_int_rmul (typeIs_int s k t) F.entry_int_rmul (F.args_int_rmul_2 _ _) (int_rmul_tuple k t l its.toArray n dd sl)
      ⟨ho, rfl, ⟨_, ho, rfl⟩, call_meets F.slot_tuple_mul ⟨_, ho, rfl⟩ F.entry_tuple_mul (F.args_tuple_mul_2 _ _) (tuple_mulZ l its.toArray n dd sl k t c0 c1 c2) ⟨ho, by
        refine ⟨.ref s.heap.objs.size, _, I.laid (t' := s.toks) (o := .tup []) (fun b ob q => Heap.get?_push_of_some _ q) (Nat.le_refl _) ?_, rfl, q _ (I.hok.fresh (Nat.le_refl _))⟩
        exact ⟨Nat.zero_le _, [], .nil, IsTup.new _ _⟩⟩⟩)
theorem op_tMul : OpR X (binaryOp .Mult) (rd2 X.kw Ξ oMul) := by
  have h := ((op_mul (X := X)).or (op_rep.or (op_repT.or (op_repS.or op_repZ))))
  refine OpR_imp h fun x y H Q ⟨g, m, a, b, e, ra, rb, q⟩ => ?_
  unfold oMul at q
  split at q
  · rename_i i j h1
    rw [look1_int h1] at ra
    cases ra.int_inv; cases rb.int_inv
    split at q
    · rename_i hc
      refine .inl ⟨i, j, rfl, rfl, ?_, QE.ret e (.int _) q⟩
      simp only [within64, Bool.or_eq_true, Bool.and_eq_true, decide_eq_true_eq] at hc
      exact hc
    · exact q.elim
  · rename_i xs k h1
    obtain ⟨a1, vs, rfl, ha, r1⟩ := e.look ra h1
    cases rb.int_inv
    split at q
    · rename_i hc
      simp only [Bool.and_eq_true, decide_eq_true_eq] at hc
      obtain ⟨⟨c1, c2⟩, c3⟩ := hc
      refine .inr (.inl ⟨a1, k, vs, rfl, rfl, ha, by omega, by omega, ?_, fun p hp => QE.newL e (r1.rep k.toNat) q hp⟩)
      rw [← r1.length, sizeLine_eq]
      have : xs.length * k.toNat ≤ 1000 * 1000 := Nat.mul_le_mul c3 (by omega)
      omega
    · exact q.elim
  · rename_i xs k h1
    rw [look1_tup h1] at ra
    obtain ⟨a1, vs, rfl, ha, r1⟩ := ra.tup_inv
    cases rb.int_inv
    split at q
    · rename_i hc
      simp only [Bool.and_eq_true, decide_eq_true_eq] at hc
      obtain ⟨⟨c1, c2⟩, c3⟩ := hc
      by_cases hs : vs = [] ∨ k = 1
      · refine .inr (.inr (.inr (.inl ⟨a1, k, vs, rfl, rfl, ha, c2, c1, hs, ?_⟩)))
        have : rep xs k = xs := by
          unfold rep
          rcases hs with hs | hs
          · subst hs
            cases r1
            simp
          · subst hs
            simp
        rw [this] at q
        exact QE.ret e (.tup ha r1) q
      · have hne : vs ≠ [] := fun z => hs (.inl z)
        have hk : k ≠ 1 := fun z => hs (.inr z)
        by_cases h0 : k ≤ 0
        · refine .inr (.inr (.inr (.inr ⟨a1, k, vs, rfl, rfl, ha, hne, c2, h0, fun p hp => ?_⟩)))
          have hz : k.toNat = 0 := by omega
          have : rep xs k = [] := by unfold rep; rw [hz]; rfl
          rw [this] at q
          exact QE.newT e .nil q hp
        · refine .inr (.inr (.inl ⟨a1, k, vs, rfl, rfl, ha, hne, by omega, c1, by rw [← r1.length]; exact c3, fun p hp => QE.newT e (r1.rep k.toNat) q hp⟩))
    · exact q.elim
  · exact q.elim
end
end TT
end

section
set_option Elab.async false
set_option linter.all false
set_option autoImplicit false
set_option maxRecDepth 100000
/-! TT: ==, !=, in, is -/
namespace TT
open PySem PySem.Spec PyProof.Rows L2
mutual
def toD : PV → PyData
  | .non => .none
  | .bl b => .bool b
  | .int i => .int i
  | .str l => .str ⟨l.toArray⟩
  | .tup xs => .tuple (toDs xs)
  | .vl xs => .list (toDs xs)
  | _ => .none
def toDs : List PV → List PyData
  | [] => []
  | x :: xs => toD x :: toDs xs
end
theorem strEq (x y : List Nat) : ((⟨x.toArray⟩ : Str) == (⟨y.toArray⟩ : Str)) = (x == y) := by
  have a : ((⟨x.toArray⟩ : Str) = ⟨y.toArray⟩) ↔ x = y := by
    constructor
    · intro h
      have := congrArg (fun z : Str => z.cps.toList) h
      simpa using this
    · intro h; rw [h]
  rw [Bool.eq_iff_iff, beq_iff_eq, beq_iff_eq]
  exact a
mutual
theorem eqvD : ∀ (a b : PV) (n k : Nat), a.sh n = true → b.sh k = true → PV.eqv a b = PyData.eqv (toD a) (toD b)
  | .non, b, n, k, _, hb => by cases b <;> first | rfl | (unfold PV.sh at hb; cases k <;> cases hb)
  | .bl x, b, n, k, _, hb => by cases b <;> first | rfl | (unfold PV.sh at hb; cases k <;> cases hb)
  | .int x, b, n, k, _, hb => by cases b <;> first | rfl | (unfold PV.sh at hb; cases k <;> cases hb)
  | .str x, b, n, k, _, hb => by
    cases b with
    | str y => simp only [PV.eqv, toD, PyData.eqv]; exact (strEq x y).symm
    | _ => first | rfl | (unfold PV.sh at hb; cases k <;> cases hb)
  | .tup xs, b, n, k, ha, hb => by
    cases n with
    | zero => cases ha
    | succ n =>
    cases b with
    | tup ys =>
      cases k with
      | zero => cases hb
      | succ k =>
        simp only [PV.eqv, toD, PyData.eqv]
        exact eqvDs xs ys n k (by simpa only [PV.sh] using ha) (by simpa only [PV.sh] using hb)
    | _ => first | rfl | (unfold PV.sh at hb; cases k <;> cases hb)
  | .vl xs, b, n, k, ha, hb => by
    cases n with
    | zero => cases ha
    | succ n =>
    cases b with
    | vl ys =>
      cases k with
      | zero => cases hb
      | succ k =>
        simp only [PV.eqv, toD, PyData.eqv]
        exact eqvDs xs ys n k (by simpa only [PV.sh] using ha) (by simpa only [PV.sh] using hb)
    | _ => first | rfl | (unfold PV.sh at hb; cases k <;> cases hb)
  | .fz _, _, n, _, ha, _ => by cases n <;> cases ha
  | .vd _, _, n, _, ha, _ => by cases n <;> cases ha
  | .ref _, _, n, _, ha, _ => by cases n <;> cases ha
  | .fn _, _, n, _, ha, _ => by cases n <;> cases ha
theorem eqvDs : ∀ (a b : List PV) (n k : Nat), a.all (PV.sh n) = true → b.all (PV.sh k) = true → PV.eqvs a b = PyData.eqvAll (toDs a) (toDs b)
  | [], [], _, _, _, _ => rfl
  | [], _ :: _, _, _, _, _ => rfl
  | _ :: _, [], _, _, _, _ => rfl
  | x :: xs, y :: ys, n, k, ha, hb => by
    simp only [List.all_cons, Bool.and_eq_true] at ha hb
    simp only [PV.eqvs, toDs, PyData.eqvAll]
    rw [eqvD x y n k ha.1 hb.1, eqvDs xs ys n k ha.2 hb.2]
end
mutual
theorem plainD : ∀ (a : PV), (toD a).plain = true
  | .non => rfl
  | .bl _ => rfl
  | .int _ => rfl
  | .str _ => rfl
  | .tup xs => by simp only [toD, PyData.plain]; exact plainDs xs
  | .vl xs => by simp only [toD, PyData.plain]; exact plainDs xs
  | .fz _ => rfl
  | .vd _ => rfl
  | .ref _ => rfl
  | .fn _ => rfl
theorem plainDs : ∀ (a : List PV), PyData.plainAll (toDs a) = true
  | [] => rfl
  | x :: xs => by simp only [toDs, PyData.plainAll, plainD x, plainDs xs, Bool.and_self]
end
mutual
theorem depthD : ∀ (a : PV) (n : Nat), a.sh n = true → (toD a).depth ≤ n
  | .non, _, _ => Nat.zero_le _
  | .bl _, _, _ => Nat.zero_le _
  | .int _, _, _ => Nat.zero_le _
  | .str _, _, _ => Nat.zero_le _
  | .tup xs, n, h => by
    cases n with
    | zero => cases h
    | succ n =>
      simp only [toD, PyData.depth]
      have := depthDs xs n (by simpa only [PV.sh] using h)
      omega
  | .vl xs, n, h => by
    cases n with
    | zero => cases h
    | succ n =>
      simp only [toD, PyData.depth]
      have := depthDs xs n (by simpa only [PV.sh] using h)
      omega
  | .fz _, n, h => by cases n <;> cases h
  | .vd _, n, h => by cases n <;> cases h
  | .ref _, n, h => by cases n <;> cases h
  | .fn _, n, h => by cases n <;> cases h
theorem depthDs : ∀ (a : List PV) (n : Nat), a.all (PV.sh n) = true → PyData.depthAll (toDs a) ≤ n
  | [], _, _ => Nat.zero_le _
  | x :: xs, n, h => by
    simp only [List.all_cons, Bool.and_eq_true] at h
    simp only [toDs, PyData.depthAll]
    have h1 := depthD x n h.1
    have h2 := depthDs xs n h.2
    omega
end
section
variable {K : KW} {g : Gh} {m : Mm} {H : Hp}
mutual
theorem Rp.dp (e : Emb K g m H) : ∀ {v : PV} {w : V} (n : Nat), v.sh n = true → Rp K g H v w → Dp K H w (toD v)
  | _, _, _, _, .non => .non
  | _, _, _, _, .bl b => .bl b
  | _, _, _, _, .int i => .int i
  | _, _, _, _, .str l => .str _
  | _, _, 0, h, .tup _ _ => by cases h
  | _, _, n + 1, h, .tup a r => .tup a (Rps.dp e n (by simpa only [PV.sh] using h) r)
  | _, _, 0, h, .vl _ _ => by cases h
  | _, _, n + 1, h, .vl a r => .lst (SqL.of (e.ro _ _ a).1) (Rps.dp e n (by simpa only [PV.sh] using h) r)
  | _, _, 0, h, .fz _ _ => by cases h
  | _, _, _ + 1, h, .fz _ _ => by cases h
  | _, _, 0, h, .ref _ => by cases h
  | _, _, 0, h, .fn _ => by cases h
  | _, _, _ + 1, h, .ref _ => by cases h
  | _, _, _ + 1, h, .fn _ => by cases h
theorem Rps.dp (e : Emb K g m H) : ∀ {v : List PV} {w : List V} (n : Nat), v.all (PV.sh n) = true → Rps K g H v w → DpAll K H w (toDs v)
  | _, _, _, _, .nil => .nil
  | _, _, n, h, .cons a r => by
    simp only [List.all_cons, Bool.and_eq_true] at h
    exact .cons (Rp.dp e n h.1 a) (Rps.dp e n h.2 r)
end
/-- behind look1 -/
theorem Rp.dp1 (e : Emb K g m H) {v : PV} {w : V} {n : Nat} (h : (look1 m v).sh n = true) (r : Rp K g H v w) : Dp K H w (toD (look1 m v)) := by
  cases r with
  | ref hn =>
    rename_i k a
    simp only [look1] at h ⊢
    split at h
    · rename_i xs hx
      obtain ⟨a', vs, h1, h2, h3⟩ := e.obj _ _ hx
      rw [hn] at h1; cases h1
      simp only [toD]
      cases n with
      | zero => cases h
      | succ n => exact .lst (SqL.of h2) (Rps.dp e n (by simpa only [PV.sh] using h) h3)
    · cases n <;> cases h
  | non => exact .non
  | bl b => exact .bl b
  | int i => exact .int i
  | str l => exact .str _
  | tup a r => exact Rp.dp e n h (.tup a r)
  | vl a r => exact Rp.dp e n h (.vl a r)
  | fz a r => exact Rp.dp e n h (.fz a r)
  | fn a => exact Rp.dp e n h (.fn a)
end
section
variable {X : Cx} {Ξ : XC}
theorem dep64 {n : Nat} (h : n ≤ DEP) : n ≤ 64 := Nat.le_trans h (by decide)
theorem op_tEq (hu : X.A.units + 64 < cLine) : OpR X (compareOp .Eq) (rd2 X.kw Ξ oEq) := by
  intro pins s σ H x y v u Q I rx ry ⟨g, m, a, b, e, ra, rb, q⟩
  unfold oEq at q
  split at q
  · rename_i hc
    simp only [Bool.and_eq_true] at hc
    have da := ra.dp1 e hc.1
    have db := rb.dp1 e hc.2
    obtain ⟨as, r1⟩ := Dp.reads I _ x v da rx
    obtain ⟨bs, r2⟩ := Dp.reads I _ y u db ry
    rw [eqvD _ _ _ _ hc.1 hc.2] at q
    refine SeqAt.eq_plain r1 r2 (plainD _) (plainD _) ?_ ⟨.bl _, H, I, rfl, QE.ret e (.bl _) q⟩
    have := dep64 (depthD _ _ hc.1)
    have h2 : min (toD (look1 m a)).depth (toD (look1 m b)).depth ≤ (toD (look1 m a)).depth := Nat.min_le_left _ _
    omega
  · exact q.elim
theorem op_tNe (hu : X.A.units + 64 < cLine) : OpR X (compareOp .NotEq) (rd2 X.kw Ξ oNe) := by
  intro pins s σ H x y v u Q I rx ry ⟨g, m, a, b, e, ra, rb, q⟩
  unfold oNe at q
  split at q
  · rename_i hc
    simp only [Bool.and_eq_true] at hc
    have da := ra.dp1 e hc.1
    have db := rb.dp1 e hc.2
    obtain ⟨as, r1⟩ := Dp.reads I _ x v da rx
    obtain ⟨bs, r2⟩ := Dp.reads I _ y u db ry
    rw [eqvD _ _ _ _ hc.1 hc.2] at q
    refine SeqAt.ne_plain r1 r2 (plainD _) (plainD _) ?_ ⟨.bl _, H, I, rfl, QE.ret e (.bl _) q⟩
    have := dep64 (depthD _ _ hc.1)
    have h2 : min (toD (look1 m a)).depth (toD (look1 m b)).depth ≤ (toD (look1 m a)).depth := Nat.min_le_left _ _
    omega
  · exact q.elim
theorem any_toDs (a : PV) (k : Nat) (ha : a.sh k = true) : ∀ (xs : List PV) (n : Nat), xs.all (PV.sh n) = true → ((toDs xs).any fun y => PyData.eqv y (toD a)) = xs.any fun y => PV.eqv y a
  | [], _, _ => rfl
  | x :: xs, n, h => by
    simp only [List.all_cons, Bool.and_eq_true] at h
    simp only [toDs, List.any_cons]
    rw [eqvD x a n k h.1 ha, any_toDs a k ha xs n h.2]
theorem look1_of_sh {m : Mm} {a : PV} {k : Nat} (h : a.sh k = true) : look1 m a = a := by
  cases a with
  | ref n => cases k <;> cases h
  | _ => rfl
theorem op_tIn (hu : X.A.units + 64 < cLine) : OpR X (compareOp .In) (rd2 X.kw Ξ (oIn false)) := by
  intro pins s σ H x y v u Q I rx ry ⟨g, m, a, b, e, ra, rb, q⟩
  unfold oIn at q
  split at q
  · rename_i xs h1
    split at q
    · rename_i hc
      simp only [Bool.and_eq_true] at hc
      have hb : (look1 m b).sh (DEP + 1) = true := by rw [h1]; simpa only [PV.sh] using hc.1
      have db := rb.dp1 e hb
      rw [h1] at db
      have da := ra.dp e _ hc.2
      obtain ⟨as, r1⟩ := Dp.reads I _ x v da rx
      obtain ⟨bs, r2⟩ := Dp.reads I _ y u db ry
      simp only [toD] at r2
      refine SeqAt.in_list_data r2 r1 (plainDs _) (plainD _) ?_ ⟨.bl _, H, I, rfl, ?_⟩
      · have := dep64 (depthD _ _ hc.2)
        have h2 := Nat.min_le_right (PyData.depthAll (toDs xs)) (toD a).depth
        have h3 : (toD a).depth ≤ 12 := depthD _ _ hc.2
        omega
      · rw [any_toDs a _ hc.2 xs _ hc.1]
        exact QE.ret e (.bl _) q
    · exact q.elim
  · rename_i xs h1
    split at q
    · rename_i hc
      simp only [Bool.and_eq_true] at hc
      have hb : (look1 m b).sh (DEP + 1) = true := by rw [h1]; simpa only [PV.sh] using hc.1
      have db := rb.dp1 e hb
      rw [h1] at db
      have da := ra.dp e _ hc.2
      obtain ⟨as, r1⟩ := Dp.reads I _ x v da rx
      obtain ⟨bs, r2⟩ := Dp.reads I _ y u db ry
      simp only [toD] at r2
      refine SeqAt.in_tuple_data r2 r1 (plainDs _) (plainD _) ?_ ⟨.bl _, H, I, rfl, ?_⟩
      · have h2 := Nat.min_le_right (PyData.depthAll (toDs xs)) (toD a).depth
        have h3 : (toD a).depth ≤ 12 := depthD _ _ hc.2
        omega
      · rw [any_toDs a _ hc.2 xs _ hc.1]
        exact QE.ret e (.bl _) q
    · exact q.elim
  · rename_i z h1
    rw [look1_str h1] at rb
    cases rb.str_inv
    split at q
    · rename_i c
      cases ra.str_inv
      refine op_in_sign pins s σ H _ _ v u Q I rx ry ⟨c, _, rfl, rfl, ?_⟩
      exact QE.ret e (.bl _) q
    · exact q.elim
  · exact q.elim
theorem op_tNotIn (hu : X.A.units + 64 < cLine) : OpR X (compareOp .NotIn) (rd2 X.kw Ξ (oIn true)) := by
  intro pins s σ H x y v u Q I rx ry ⟨g, m, a, b, e, ra, rb, q⟩
  unfold oIn at q
  split at q
  · rename_i xs h1
    split at q
    · rename_i hc
      simp only [Bool.and_eq_true] at hc
      have hb : (look1 m b).sh (DEP + 1) = true := by rw [h1]; simpa only [PV.sh] using hc.1
      have db := rb.dp1 e hb
      rw [h1] at db
      have da := ra.dp e _ hc.2
      obtain ⟨as, r1⟩ := Dp.reads I _ x v da rx
      obtain ⟨bs, r2⟩ := Dp.reads I _ y u db ry
      simp only [toD] at r2
      refine SeqAt.notIn_list_data r2 r1 (plainDs _) (plainD _) ?_ ⟨.bl _, H, I, rfl, ?_⟩
      · have h2 := Nat.min_le_right (PyData.depthAll (toDs xs)) (toD a).depth
        have h3 : (toD a).depth ≤ 12 := depthD _ _ hc.2
        omega
      · rw [any_toDs a _ hc.2 xs _ hc.1]
        exact QE.ret e (.bl _) q
    · exact q.elim
  · rename_i xs h1
    split at q
    · rename_i hc
      simp only [Bool.and_eq_true] at hc
      have hb : (look1 m b).sh (DEP + 1) = true := by rw [h1]; simpa only [PV.sh] using hc.1
      have db := rb.dp1 e hb
      rw [h1] at db
      have da := ra.dp e _ hc.2
      obtain ⟨as, r1⟩ := Dp.reads I _ x v da rx
      obtain ⟨bs, r2⟩ := Dp.reads I _ y u db ry
      simp only [toD] at r2
      refine SeqAt.notIn_tuple_data r2 r1 (plainDs _) (plainD _) ?_ ⟨.bl _, H, I, rfl, ?_⟩
      · have h2 := Nat.min_le_right (PyData.depthAll (toDs xs)) (toD a).depth
        have h3 : (toD a).depth ≤ 12 := depthD _ _ hc.2
        omega
      · rw [any_toDs a _ hc.2 xs _ hc.1]
        exact QE.ret e (.bl _) q
    · exact q.elim
  · rename_i z h1
    rw [look1_str h1] at rb
    cases rb.str_inv
    split at q
    · rename_i c
      cases ra.str_inv
      refine op_notIn_sign pins s σ H _ _ v u Q I rx ry ⟨c, _, rfl, rfl, ?_⟩
      exact QE.ret e (.bl _) q
    · exact q.elim
  · exact q.elim
end
end TT
end

section
set_option Elab.async false
set_option linter.all false
set_option autoImplicit false
set_option maxRecDepth 100000
/-! TT: subscripts, built-in functions, methods, by values -/
namespace TT
open PySem PySem.Spec PyProof.Rows L2
section
variable {X : Cx} {Ξ : XC}
theorem IxR_imp {r r' : R2} (h : IxR X r) (i : ∀ x y H Q, r' x y H Q → r x y H Q) : IxR X r' := fun va sl pins s σ H x y v u Q I rx ry q hs => h va sl pins s σ H x y v u Q I rx ry (i _ _ _ _ q) hs
theorem ixN_eq : @TT.ixN = @L2.ixN := rfl
theorem Rps.atI {K : KW} {g : Gh} {H : Hp} {xs : List PV} {vs : List V} {k : Int} {x : PV} (r : Rps K g H xs vs) (h : TT.atI xs k = some x) : ∃ v, L2.atI vs k = some v ∧ Rp K g H x v := by
  unfold TT.atI at h
  unfold L2.atI
  rw [ixN_eq, r.length] at h
  cases hj : L2.ixN vs.length k with
  | none => rw [hj] at h; cases h
  | some j =>
    rw [hj] at h
    obtain ⟨v, h1, h2⟩ := r.get (show xs[j]? = some x from h)
    exact ⟨v, by rw [Option.bind_some]; exact h1, h2⟩
theorem ix_t : IxR X (rd2 X.kw Ξ oIx) := by
  refine IxR_imp ix_seq fun x y H Q ⟨g, m, a, b, e, ra, rb, q⟩ => ?_
  unfold oIx at q
  split at q
  · rename_i xs k h1
    obtain ⟨a1, vs, rfl, ha, r1⟩ := e.look ra h1
    cases rb.int_inv
    split at q
    · rename_i v hv
      obtain ⟨w, h2, r2⟩ := r1.atI hv
      exact .inl ⟨a1, vs, k, w, rfl, rfl, SqL.of ha, h2, QE.ret e r2 q⟩
    · exact q.elim
  · rename_i xs k h1
    rw [look1_fz h1] at ra
    obtain ⟨a1, vs, rfl, ha, r1⟩ := e.fz ra
    cases rb.int_inv
    split at q
    · rename_i v hv
      obtain ⟨w, h2, r2⟩ := r1.atI hv
      exact .inl ⟨a1, vs, k, w, rfl, rfl, ha, h2, QE.ret e r2 q⟩
    · exact q.elim
  · rename_i xs k h1
    rw [look1_tup h1] at ra
    obtain ⟨a1, vs, rfl, ha, r1⟩ := ra.tup_inv
    cases rb.int_inv
    split at q
    · rename_i v hv
      obtain ⟨w, h2, r2⟩ := r1.atI hv
      exact .inr (.inl ⟨a1, vs, k, w, rfl, rfl, ha, h2, QE.ret e r2 q⟩)
    · exact q.elim
  · rename_i z k h1
    rw [look1_str h1] at ra
    cases ra.str_inv
    cases rb.int_inv
    split at q
    · rename_i hl
      split at q
      · rename_i c hv
        refine .inr (.inr ⟨_, k, c, rfl, rfl, ?_, hv, ?_⟩)
        · show z.toArray.size ≤ sizeLine
          simpa using line_le hl
        · exact QE.ret e (.str [c]) q
      · exact q.elim
    · exact q.elim
  · exact q.elim
theorem sIx_eq : @TT.sIx = @HT.sIx := by
  funext n d o
  cases o with
  | none => rfl
  | some v => unfold TT.sIx HT.sIx; rfl
theorem cutV_rp {K : KW} {g : Gh} {H : Hp} {xs : List PV} {vs : List V} (lo hi : Option Int) (r : Rps K g H xs vs) : Rps K g H (cutL xs lo hi) (cutV vs lo hi) := by
  unfold cutL cutV
  rw [sIx_eq, r.length]
  exact (r.drop _).take _
theorem cutS_str (z : List Nat) (lo hi : Option Int) : cutS ⟨z.toArray⟩ lo hi = ⟨(cutL z lo hi).toArray⟩ := by
  unfold cutS cutL
  rw [sIx_eq]
  rfl
theorem SlR_imp {r r' : V → Option Int → Option Int → Hp → VK → Prop} (h : SlR X r) (i : ∀ x l u H Q, r' x l u H Q → r x l u H Q) : SlR X r' := fun pins s σ H x v vl vu lo hi sl Q I rx hs pl pu q => h pins s σ H x v vl vu lo hi sl Q I rx hs pl pu (i _ _ _ _ _ q)
def rdSl (K : KW) (Ξ : XC) : V → Option Int → Option Int → Hp → VK → Prop := fun x lo hi H Q => ∃ g m a, Emb K g m H ∧ Rp K g H a x ∧ QE K Ξ g H Q (oSlice lo hi a m)
theorem sl_t : SlR X (rdSl X.kw Ξ) := by
  refine SlR_imp ((sl_list (X := X)).or (sl_tupA.or sl_str)) fun x lo hi H Q ⟨g, m, a, e, ra, q⟩ => ?_
  unfold oSlice at q
  split at q
  · rename_i xs h1
    obtain ⟨a1, vs, rfl, ha, r1⟩ := e.look ra h1
    exact .inl ⟨a1, vs, rfl, SqL.of ha, fun p hp => QE.newL e (cutV_rp lo hi r1) q hp⟩
  · rename_i xs h1
    rw [look1_tup h1] at ra
    obtain ⟨a1, vs, rfl, ha, r1⟩ := ra.tup_inv
    refine .inr (.inl ⟨a1, vs, rfl, ha, fun hw => ?_, fun _ p hp => QE.newT e (cutV_rp lo hi r1) q hp⟩)
    have : cutL xs lo hi = xs := by
      unfold cutL
      rw [sIx_eq, r1.length, hw.1, hw.2, List.drop_zero, Nat.sub_zero, ← r1.length, List.take_length]
    rw [this] at q
    exact QE.ret e (.tup ha r1) q
  · rename_i z h1
    rw [look1_str h1] at ra
    cases ra.str_inv
    split at q
    · rename_i hl
      refine .inr (.inr ⟨_, rfl, ?_, ?_⟩)
      · show z.toArray.size ≤ sizeLine
        simpa using line_le hl
      · rw [cutS_str]
        exact QE.ret e (.str _) q
    · exact q.elim
  · exact q.elim

/-! ### o[i] = v -/
theorem PSet_imp {r r' : TSet} (h : PSet X r) (i : ∀ o k v H Q, r' o k v H Q → r o k v H Q) : PSet X r' := fun pins s σ H o k v ov iv u Q I ro ri rv q => h pins s σ H o k v ov iv u Q I ro ri rv (i _ _ _ _ _ q)
def rdSet (K : KW) (Ξ : XC) : TSet := fun o i v H Q => ∃ g m a k y, Emb K g m H ∧ Rp K g H a o ∧ Rp K g H k i ∧ Rp K g H y v ∧ QR K Ξ g H (fun m' => ∀ g' H', Ext g H g' H' → Emb K g' m' H' → Q H') (oSet a k y m)
theorem set_t : PSet X (rdSet X.kw Ξ) := by
  refine PSet_imp set_list fun o i v H Q ⟨g, m, a, k, y, e, ra, rk, ry, q⟩ => ?_
  unfold oSet at q
  split at q
  · rename_i n j
    obtain ⟨a1, rfl, hn⟩ := ra.ref_inv
    cases rk.int_inv
    split at q
    · rename_i xs hx
      obtain ⟨a2, vs, h1, h2, h3⟩ := e.obj _ _ hx
      rw [hn] at h1; cases h1
      split at q
      · rename_i j' hj
        obtain ⟨x', e'⟩ := e.wr_lst hx hn (h3.set ry j')
        refine ⟨a1, vs, j, j', rfl, rfl, h2, ?_, q _ _ x' e'⟩
        rw [← h3.length]; exact hj
      · exact q.elim
    · exact q.elim
  · exact q.elim

/-! ### built-in functions -/
theorem call_tLen : CallR X (.builtin "len") (rdN X.kw Ξ fLen) := by
  refine CallR_imp ((call_len_seq (X := X)).or call_len_str) fun xs H Q ⟨g, m, as, e, ra, q⟩ => ?_
  unfold fLen at q
  split at q
  · rename_i a
    cases ra with
    | cons r1 r2 =>
      cases r2
      split at q
      · rename_i ys h1
        obtain ⟨a1, vs, rfl, ha, r1'⟩ := e.look r1 h1
        exact .inl ⟨a1, vs, rfl, .inl (SqL.of ha), by rw [← r1'.length]; exact QE.ret e (.int _) q⟩
      · rename_i ys h1
        rw [look1_fz h1] at r1
        obtain ⟨a1, vs, rfl, ha, r1'⟩ := e.fz r1
        exact .inl ⟨a1, vs, rfl, .inl ha, by rw [← r1'.length]; exact QE.ret e (.int _) q⟩
      · rename_i ys h1
        rw [look1_tup h1] at r1
        obtain ⟨a1, vs, rfl, ha, r1'⟩ := r1.tup_inv
        exact .inl ⟨a1, vs, rfl, .inr ha, by rw [← r1'.length]; exact QE.ret e (.int _) q⟩
      · rename_i z h1
        rw [look1_str h1] at r1
        cases r1.str_inv
        split at q
        · rename_i hl
          refine .inr ⟨_, rfl, ?_, ?_⟩
          · show z.toArray.size ≤ sizeLine
            simpa using line_le hl
          · have : ((⟨z.toArray⟩ : Str).length : Int) = (z.length : Int) := by simp [Str.length]
            rw [this]
            exact QE.ret e (.int _) q
        · exact q.elim
      · exact q.elim
  · exact q.elim
theorem call_tInt : CallR X (.type "int") (rdN X.kw Ξ fInt) := by
  refine CallR_imp call_int1 fun xs H Q ⟨g, m, as, e, ra, q⟩ => ?_
  unfold fInt at q
  split at q
  · cases ra with
    | cons r1 r2 =>
      cases r2
      cases r1.int_inv
      exact .inl ⟨_, rfl, QE.ret e (.int _) q⟩
  · cases ra with
    | cons r1 r2 =>
      cases r2
      cases r1.bl_inv
      exact .inr ⟨_, rfl, QE.ret e (.int _) q⟩
  · exact q.elim
theorem call_tMax (hc : X.calm = true) : CallR X (.builtin "max") (rdN X.kw Ξ fMax) := by
  refine CallR_imp (call_max2 hc) fun xs H Q ⟨g, m, as, e, ra, q⟩ => ?_
  unfold fMax at q
  split at q
  · cases ra with
    | cons r1 r2 =>
      cases r2 with
      | cons r2 r3 =>
        cases r3
        cases r1.int_inv; cases r2.int_inv
        exact ⟨_, _, rfl, QE.ret e (.int _) q⟩
  · exact q.elim
theorem call_tMin (hc : X.calm = true) : CallR X (.builtin "min") (rdN X.kw Ξ fMin) := by
  refine CallR_imp (call_min2 hc) fun xs H Q ⟨g, m, as, e, ra, q⟩ => ?_
  unfold fMin at q
  split at q
  · cases ra with
    | cons r1 r2 =>
      cases r2 with
      | cons r2 r3 =>
        cases r3
        cases r1.int_inv; cases r2.int_inv
        exact ⟨_, _, rfl, QE.ret e (.int _) q⟩
  · exact q.elim
theorem call_tList : CallR X (.type "list") (rdN X.kw Ξ fList) := by
  refine CallR_imp call_list_of fun xs H Q ⟨g, m, as, e, ra, q⟩ => ?_
  unfold fList at q
  split at q
  · rename_i a
    cases ra with
    | cons r1 r2 =>
      cases r2
      split at q
      · rename_i ys h1
        obtain ⟨a1, vs, rfl, ha, r1'⟩ := e.look r1 h1
        exact ⟨a1, vs, rfl, .inl (SqL.of ha), fun p hp => QE.newL e r1' q hp⟩
      · rename_i ys h1
        rw [look1_tup h1] at r1
        obtain ⟨a1, vs, rfl, ha, r1'⟩ := r1.tup_inv
        exact ⟨a1, vs, rfl, .inr ha, fun p hp => QE.newL e r1' q hp⟩
      · exact q.elim
  · exact q.elim
theorem call_tTuple : CallR X (.type "tuple") (rdN X.kw Ξ fTuple) := by
  refine CallR_imp call_tuple_of fun xs H Q ⟨g, m, as, e, ra, q⟩ => ?_
  unfold fTuple at q
  split at q
  · rename_i a
    cases ra with
    | cons r1 r2 =>
      cases r2
      split at q
      · rename_i ys h1
        obtain ⟨a1, vs, rfl, ha, r1'⟩ := e.look r1 h1
        exact ⟨a1, vs, rfl, .inl ⟨SqL.of ha, fun p hp => QE.newT e r1' q hp⟩⟩
      · rename_i ys h1
        rw [look1_tup h1] at r1
        obtain ⟨a1, vs, rfl, ha, r1'⟩ := r1.tup_inv
        exact ⟨a1, vs, rfl, .inr ⟨ha, QE.ret e (.tup ha r1') q⟩⟩
      · exact q.elim
  · exact q.elim
theorem bools_rp {K : KW} {g : Gh} {H : Hp} : ∀ {xs : List PV} {vs : List V} {bs : List Bool}, bools xs = some bs → Rps K g H xs vs → vs = bs.map V.bl
  | [], _, _, h, r => by cases h; cases r; rfl
  | .bl b :: xs, _, bs, h, r => by
    simp only [bools] at h
    cases hq : bools xs with
    | none => rw [hq] at h; cases h
    | some cs =>
      rw [hq] at h
      cases h
      cases r with
      | cons r1 r2 =>
        cases r1.bl_inv
        rw [bools_rp hq r2]; rfl
  | .non :: _, _, _, h, _ => by simp [bools] at h
  | .int _ :: _, _, _, h, _ => by simp [bools] at h
  | .str _ :: _, _, _, h, _ => by simp [bools] at h
  | .tup _ :: _, _, _, h, _ => by simp [bools] at h
  | .vl _ :: _, _, _, h, _ => by simp [bools] at h
  | .fz _ :: _, _, _, h, _ => by simp [bools] at h
  | .vd _ :: _, _, _, h, _ => by simp [bools] at h
  | .ref _ :: _, _, _, h, _ => by simp [bools] at h
theorem call_tAll (hc : X.calm = true) : CallR X (.builtin "all") (rdN X.kw Ξ fAll) := by
  refine CallR_imp (cr_all hc) fun xs H Q ⟨g, m, as, e, ra, q⟩ => ?_
  unfold fAll at q
  split at q
  · rename_i a
    cases ra with
    | cons r1 r2 =>
      cases r2
      split at q
      · rename_i ys h1
        obtain ⟨a1, vs, rfl, ha, r1'⟩ := e.look r1 h1
        split at q
        · rename_i bs hb
          have ev := bools_rp hb r1'
          subst ev
          exact ⟨a1, bs, rfl, SqL.of ha, QE.ret e (.bl _) q⟩
        · exact q.elim
      · exact q.elim
  · exact q.elim

/-! ### isinstance -/
def Ty.name : Ty → String
  | .tInt => "int" | .tStr => "str" | .tBool => "bool" | .tTup => "tuple" | .tList => "list"
theorem kitAll : ∀ (a : String) (t : Ty), a ∈ ["NoneType", "bool", "int", "str", "tuple", "list"] → kitB a t.name = some (match a, t with
    | "bool", .tInt => true | "bool", .tBool => true | "int", .tInt => true | "str", .tStr => true | "tuple", .tTup => true | "list", .tList => true | _, _ => false) := by
  intro a t h
  simp only [List.mem_cons, List.mem_nil_iff, or_false] at h
  rcases h with rfl | rfl | rfl | rfl | rfl | rfl <;> cases t <;> decide +kernel
theorem call_tIsA (t : Ty) : CallR X (.builtin "isinstance") (fun xs H Q => ∃ x, xs = [x, .ty t.name] ∧ rd1 X.kw Ξ (oIsA t) x H Q) := by
  refine CallR_imp call_isi fun xs H Q ⟨x, ex, g, m, a, e, ra, q⟩ => ?_
  subst ex
  unfold oIsA at q
  split at q
  · rename_i b hb
    have fin : Q (.bl b) H := QE.ret e (.bl b) q
    have go : ∀ (n : String) (r : Bool), n ∈ ["NoneType", "bool", "int", "str", "tuple", "list"] → TyX X.kw H x (.type n) → kitB n t.name = some r → r = b → rIsi X.kw [x, .ty t.name] H Q := fun n r hn ty hk hr => by
      subst hr
      exact ⟨x, .ty t.name, .type n, .type t.name, r, rfl, .ty _, ty, kit_ty hk, fin⟩
    cases ra with
    | non =>
      have hk := kitAll "NoneType" t (by decide)
      refine go "NoneType" false (by decide) (.base .non) ?_ ?_
      · rw [hk]; cases t <;> rfl
      · cases t <;> (simp only [look1, isA] at hb; exact Option.some.inj hb)
    | bl c =>
      have hk := kitAll "bool" t (by decide)
      cases t <;> (simp only [look1, isA] at hb; exact go "bool" _ (by decide) (.base (.bl c)) hk (Option.some.inj hb))
    | int i =>
      have hk := kitAll "int" t (by decide)
      cases t <;> (simp only [look1, isA] at hb; exact go "int" _ (by decide) (.base (.int i)) hk (Option.some.inj hb))
    | str l =>
      have hk := kitAll "str" t (by decide)
      cases t <;> (simp only [look1, isA] at hb; exact go "str" _ (by decide) (.base (.str _)) hk (Option.some.inj hb))
    | @tup p vs ys h r =>
      have hk := kitAll "tuple" t (by decide)
      have ty : TyX X.kw H (.ref p) (.type "tuple") := by
        rcases h with (h | ⟨o, h⟩) | ⟨o, its, n, h1, h2, _⟩
        · exact .base (.tup h)
        · exact .fTuple h
        · exact .kTuple h1 h2
      cases t <;> (simp only [look1, isA] at hb; exact go "tuple" _ (by decide) ty hk (Option.some.inj hb))
    | vl h r =>
      have hk := kitAll "list" t (by decide)
      cases t <;> (simp only [look1, isA] at hb; exact go "list" _ (by decide) (.base (.lst (e.ro _ _ h).1)) hk (Option.some.inj hb))
    | @fz p vs ys h r =>
      have hk := kitAll "list" t (by decide)
      have ty : TyX X.kw H (.ref p) (.type "list") := by
        rcases h with (h | ⟨o, h⟩) | ⟨o, its, n, h1, h2, _⟩
        · exact .base (.lst (e.ro _ _ h).1)
        · exact .base (.frz (e.ro _ _ h).1)
        · exact .kList h1 h2
      cases t <;> (simp only [look1, isA] at hb; exact go "list" _ (by decide) ty hk (Option.some.inj hb))
    | ref hn =>
      have hk := kitAll "list" t (by decide)
      simp only [look1] at hb
      split at hb
      · rename_i ys hy
        obtain ⟨a', vs, h1, h2, h3⟩ := e.obj _ _ hy
        rw [hn] at h1; cases h1
        cases t <;> (simp only [isA] at hb; exact go "list" _ (by decide) (.base (.lst h2)) hk (Option.some.inj hb))
      · cases t <;> simp only [isA] at hb <;> cases hb
    | fn a => cases t <;> simp only [look1, isA] at hb <;> cases hb
  · exact q.elim

/-! ### methods -/
def rdM (K : KW) (Ξ : XC) (f : PV → List PV → Mm → Rs (PV × Mm)) : V → List V → Hp → VK → Prop := fun x xs H Q => ∃ g m a as, Emb K g m H ∧ Rp K g H a x ∧ Rps K g H as xs ∧ QE K Ξ g H Q (f a as m)
theorem MtR_imp {id : String} {r r' : V → List V → Hp → VK → Prop} (h : MtR X id r) (i : ∀ x xs H Q, r' x xs H Q → r x xs H Q) : MtR X id r' := fun pins s σ H x xs v us Q I rx rv q => h pins s σ H x xs v us Q I rx rv (i _ _ _ _ q)
theorem mt_tAppend : MtR X "list.append" (rdM X.kw Ξ mAppend) := by
  refine MtR_imp mt_append fun x xs H Q ⟨g, m, a, as, e, ra, rs, q⟩ => ?_
  unfold mAppend at q
  split at q
  · rename_i n v
    obtain ⟨a1, rfl, hn⟩ := ra.ref_inv
    cases rs with
    | cons r1 r2 =>
      cases r2
      split at q
      · rename_i ys hy
        obtain ⟨a2, vs, h1, h2, h3⟩ := e.obj _ _ hy
        rw [hn] at h1; cases h1
        split at q
        · rename_i hl
          obtain ⟨x', e'⟩ := e.wr_lst hy hn (h3.append (.cons r1 .nil))
          exact ⟨a1, vs, _, rfl, rfl, h2, by rw [← h3.length]; exact line_lt hl, q _ _ _ x' e' .non⟩
        · exact q.elim
      · exact q.elim
  · exact q.elim
end
end TT
end

section
set_option Elab.async false
set_option linter.all false
set_option autoImplicit false
set_option maxRecDepth 100000
/-! TT: expressions, tests, targets, statements -/
namespace TT
open PySem PySem.Spec PyProof.Rows L2
section
variable {X : Cx} {Ξ : XC} {a b c e o : Expr} {es : List Expr} {pos : Pos} {fa fb fc : SE} {ft fu : ST} {K : KW} {g : Gh} {H : Hp}

/-! ### constants, names -/
theorem se_of {v : PV} {w : V} {e : Expr} (h : PE X e (tC w)) (r : ∀ g H, Rp X.kw g H v w) : PE X e (rdE X.kw Ξ (eC v)) :=
  PE_imp h fun σ H Q ⟨g, s, m, em, sr, q⟩ => QE.ret em (r g H) q
theorem se_int {i : Int} {j pos} : PE X (.Constant (.int i) j pos) (rdE X.kw Ξ (eC (.int i))) := se_of pe_int fun _ _ => .int i
theorem se_bl {i : Bool} {j pos} : PE X (.Constant (.bool i) j pos) (rdE X.kw Ξ (eC (.bl i))) := se_of pe_bl fun _ _ => .bl i
theorem se_non {j pos} : PE X (.Constant .none j pos) (rdE X.kw Ξ (eC .non)) := se_of pe_non fun _ _ => .non
theorem se_str (l : List Nat) {x : Str} {j pos} (h : x = ⟨l.toArray⟩ := by rfl) : PE X (.Constant (.str x) j pos) (rdE X.kw Ξ (eC (.str l))) := by
  subst h; exact se_of pe_str fun _ _ => .str l
theorem se_var (i : Nat) {x : Str} {pos : Pos} (hN : X.N[i]? = some x := by rfl) (hv : Vis X.env.scope x := by first | exact Or.inl rfl | exact Or.inr (Or.inl rfl) | exact Or.inr (Or.inr rfl)) (hd : (x == ("__debug__" : Str)) = false := by decide)
    (hcd : (x == ("__classdict__" : Str)) = false := by decide) : PE X (.Name x pos) (rdE X.kw Ξ (eVar i)) :=
  PE_imp (pe_var hN hv hd hcd) fun σ H Q ⟨g, s, m, em, sr, q⟩ => by
    unfold eVar at q
    split at q
    · rename_i v hv
      obtain ⟨w, h1, h2⟩ := sr.at_ i v hv
      exact ⟨w, h1, QE.ret em h2 q⟩
    · exact q.elim
/-- a name of the module -/
theorem se_glob {x : Str} {v : PV} {w : V} {u : Value} {pos : Pos} (hg : Gl X x) (hm : X.mg x = some u) (r : RelV w u) (rp : ∀ g H, Rp X.kw g H v w) (hd : (x == ("__debug__" : Str)) = false := by decide) : PE X (.Name x pos) (rdE X.kw Ξ (eC v)) :=
  se_of (pe_glob hg hm r hd) rp

/-! ### by values -/
theorem rd_e2 {f : O2} {σ : L2.St} {H : Hp} {Q : VK} (h : rdE K Ξ (e2 f fa fb) σ H Q) : tOp (rd2 K Ξ f) (rdE K Ξ fa) (rdE K Ξ fb) σ H Q := by
  obtain ⟨g, s, m, em, sr, q⟩ := h
  refine ⟨g, s, m, em, sr, QR.bind q fun p hp q1 g1 H1 V x1 e1 r1 => ?_⟩
  refine ⟨g1, s, p.2, e1, sr.ext em x1, QR.bind (QE.later x1 q1) fun p2 hp2 q2 g2 H2 W x2 e2 r2 => ?_⟩
  exact ⟨g2, p2.2, p.1, p2.1, e2, r1.ext e1 x2, r2, QE.later x2 q2⟩
theorem rd_e1 {f : O1} {σ : L2.St} {H : Hp} {Q : VK} (h : rdE K Ξ (e1 f fa) σ H Q) : rdE K Ξ fa σ H fun x H1 => rd1 K Ξ f x H1 Q := by
  obtain ⟨g, s, m, em, sr, q⟩ := h
  exact ⟨g, s, m, em, sr, QR.bind q fun p hp q1 g1 H1 V x1 e1 r1 => ⟨g1, p.2, p.1, e1, r1, QE.later x1 q1⟩⟩
theorem se_bin {op : Operator} {f : O2} (h : OpR X (binaryOp op) (rd2 X.kw Ξ f)) (ha : PE X a (rdE X.kw Ξ fa)) (hb : PE X b (rdE X.kw Ξ fb)) : PE X (.BinOp a op b pos) (rdE X.kw Ξ (e2 f fa fb)) :=
  PE_imp (pe_op h ha hb) fun _ _ _ => rd_e2
theorem se_cmp {op : CmpOp} {f : O2} (h : OpR X (compareOp op) (rd2 X.kw Ξ f)) (ha : PE X a (rdE X.kw Ξ fa)) (hb : PE X b (rdE X.kw Ξ fb)) (hm : behindInMarks op b = false) : PE X (.Compare a [op] [b] pos) (rdE X.kw Ξ (e2 f fa fb)) :=
  PE_imp (pe_cmpR h ha hb hm) fun _ _ _ => rd_e2
theorem st_of {f : SE} {e : Expr} {t : TE} {σ : L2.St} {H : Hp} {Q : Bool → Hp → Prop} (i : ∀ Q, rdE K Ξ f σ H Q → t σ H Q) (h : rdT K Ξ (tV f) σ H Q) : t σ H fun x H1 => ∃ k, x = .bl k ∧ Q k H1 := by
  obtain ⟨g, s, m, em, sr, q⟩ := h
  refine i _ ⟨g, s, m, em, sr, QR.bind q fun p hp q1 g1 H1 V x1 e1 r1 => ?_⟩
  obtain ⟨v, m1⟩ := p
  cases v with
  | bl k =>
    cases r1.bl_inv
    exact ⟨k, rfl, q1 g1 H1 x1 e1⟩
  | _ => exact q1.elim
theorem st_cmp {op : CmpOp} {f : O2} (h : OpR X (compareOp op) (rd2 X.kw Ξ f)) (ha : PE X a (rdE X.kw Ξ fa)) (hb : PE X b (rdE X.kw Ξ fb)) (hm : behindInMarks op b = false) : PT X (.Compare a [op] [b] pos) (rdT X.kw Ξ (tV (e2 f fa fb))) :=
  PT_imp (pt_cmpR h ha hb hm) fun σ H Q q => st_of (e := a) (fun _ => rd_e2) q
/-- an expression that gives a truth value, as a test -/
theorem st_val (h : PE X e (rdE X.kw Ξ fa)) (he : ∀ whole, isTrue e X.env whole = (do let v ← whole; standAt e.pos; holding [v] (truthy v)) := by intro _; rfl) : PT X e (rdT X.kw Ξ (tV fa)) :=
  PT_imp (pt_val h he) fun σ H Q q => st_of (e := e) (fun _ h => h) q
/-- the truth of any value -/
theorem st_tru (h : PE X e (rdE X.kw Ξ fa)) (he : ∀ whole, isTrue e X.env whole = (do let v ← whole; standAt e.pos; holding [v] (truthy v)) := by intro _; rfl) : PT X e (rdT X.kw Ξ (tT fa)) :=
  PT_imp (pt_truth h he) fun σ H Q ⟨g, s, m, em, sr, q⟩ => by
    refine ⟨g, s, m, em, sr, QR.bind q fun p hp q1 g1 H1 V x1 e1 r1 => ?_⟩
    obtain ⟨v, m1⟩ := p
    simp only at q1
    split at q1
    · rename_i k hk
      have fin := q1 g1 H1 x1 e1
      refine ⟨k, ?_, fin⟩
      cases r1 with
      | non => simp only [tru] at hk; cases hk; rfl
      | bl c => simp only [tru] at hk; cases hk; rfl
      | int i => simp only [tru] at hk; cases hk; rfl
      | str l =>
        simp only [tru] at hk
        split at hk
        · rename_i hl
          cases hk
          refine ⟨?_, ?_⟩
          · show l.toArray.size ≤ sizeLine
            simpa using line_le hl
          · show (!l.isEmpty) = (((l.toArray.size : Nat) : Int) != 0)
            cases l with
            | nil => rfl
            | cons x r =>
              have : ((((x :: r).toArray.size : Nat) : Int) != 0) = true := by
                rw [List.size_toArray, List.length_cons]
                exact bne_iff_ne.mpr (by omega)
              rw [this]; rfl
        · cases hk
      | tup hh r =>
        simp only [tru] at hk; cases hk
        refine .inr (.inl ⟨_, hh, ?_⟩)
        have := r.length
        rename_i vs xs
        cases xs <;> cases vs <;> simp_all
      | vl hh r =>
        simp only [tru] at hk; cases hk
        refine .inl ⟨_, SqL.of (e1.ro _ _ hh).1, ?_⟩
        have := r.length
        rename_i vs xs
        cases xs <;> cases vs <;> simp_all
      | fz hh r => simp only [tru] at hk; cases hk
      | fn a => simp only [tru] at hk; cases hk
      | ref hn =>
        simp only [tru] at hk
        split at hk
        · rename_i ys hy
          cases hk
          obtain ⟨a', vs, h1, h2, h3⟩ := e1.obj _ _ hy
          rw [hn] at h1; cases h1
          refine .inl ⟨_, SqL.of h2, ?_⟩
          have := h3.length
          cases ys <;> cases vs <;> simp_all
        · cases hk
    · exact q1.elim
theorem se_neg (ha : PE X a (rdE X.kw Ξ fa)) : PE X (.UnaryOp .USub a pos) (rdE X.kw Ξ (e1 oNeg fa)) :=
  PE_imp (pe_un un_neg ha) fun σ H Q q => by
    obtain ⟨g, s, m, em, sr, q⟩ := q
    refine ⟨g, s, m, em, sr, QR.bind q fun p hp q1 g1 H1 V x1 e1 r1 => ?_⟩
    obtain ⟨v, m1⟩ := p
    simp only [oNeg] at q1
    split at q1
    · cases r1.int_inv
      exact ⟨_, rfl, QE.ret e1 (.int _) (QE.later x1 q1)⟩
    · exact q1.elim
/-- is None, is not None -/
theorem se_isN {j pos'} (ha : PE X a (rdE X.kw Ξ fa)) : PE X (.Compare a [.Is] [.Constant .none j pos'] pos) (rdE X.kw Ξ (e1 (oIs false .non) fa)) :=
  PE_imp (pe_cmp (pc_isN ha)) fun σ H Q q => by
    obtain ⟨g, s, m, em, sr, q⟩ := q
    refine ⟨g, s, m, em, sr, QR.bind q fun p hp q1 g1 H1 V x1 e1 r1 => ?_⟩
    have e := QE.later x1 q1
    obtain ⟨v, m1⟩ := p
    cases r1 <;> exact QE.ret e1 (.bl _) e
theorem se_notN {j pos'} (ha : PE X a (rdE X.kw Ξ fa)) : PE X (.Compare a [.IsNot] [.Constant .none j pos'] pos) (rdE X.kw Ξ (e1 (oIs true .non) fa)) :=
  PE_imp (pe_cmp (pc_notN ha)) fun σ H Q q => by
    obtain ⟨g, s, m, em, sr, q⟩ := q
    refine ⟨g, s, m, em, sr, QR.bind q fun p hp q1 g1 H1 V x1 e1 r1 => ?_⟩
    have e := QE.later x1 q1
    obtain ⟨v, m1⟩ := p
    cases r1 <;> exact QE.ret e1 (.bl _) e
theorem st_isN {j pos'} (ha : PE X a (rdE X.kw Ξ fa)) : PT X (.Compare a [.Is] [.Constant .none j pos'] pos) (rdT X.kw Ξ (tV (e1 (oIs false .non) fa))) :=
  PT_imp (pt_cmp (pc_isN ha)) fun σ H Q q => by
    obtain ⟨g, s, m, em, sr, q⟩ := q
    refine ⟨g, s, m, em, sr, QR.bind (QR.bind q fun p hp q1 => q1) fun p hp q1 g1 H1 V x1 e1 r1 => ?_⟩
    obtain ⟨v, m1⟩ := p
    cases r1 <;> exact ⟨_, rfl, q1 g1 H1 x1 e1⟩
theorem st_notN {j pos'} (ha : PE X a (rdE X.kw Ξ fa)) : PT X (.Compare a [.IsNot] [.Constant .none j pos'] pos) (rdT X.kw Ξ (tV (e1 (oIs true .non) fa))) :=
  PT_imp (pt_cmp (pc_notN ha)) fun σ H Q q => by
    obtain ⟨g, s, m, em, sr, q⟩ := q
    refine ⟨g, s, m, em, sr, QR.bind (QR.bind q fun p hp q1 => q1) fun p hp q1 g1 H1 V x1 e1 r1 => ?_⟩
    obtain ⟨v, m1⟩ := p
    cases r1 <;> exact ⟨_, rfl, q1 g1 H1 x1 e1⟩
/-- is True, is False of a truth value -/
theorem se_isB {k : Bool} {j pos'} (ha : PE X a (rdE X.kw Ξ fa)) : PE X (.Compare a [.Is] [.Constant (.bool k) j pos'] pos) (rdE X.kw Ξ (e1 (oIs false (.bl k)) fa)) :=
  PE_imp (pe_cmpR op_isBl ha pe_bl (nomark _)) fun σ H Q q => by
    obtain ⟨g, s, m, em, sr, q⟩ := q
    refine ⟨g, s, m, em, sr, QR.bind q fun p hp q1 g1 H1 V x1 e1 r1 => ?_⟩
    have e := QE.later x1 q1
    obtain ⟨v, m1⟩ := p
    cases v with
    | bl c =>
      cases r1.bl_inv
      refine ⟨c, k, rfl, rfl, ?_⟩
      have : (if c == k then (!false : Bool) else false) = decide (c = k) := by cases c <;> cases k <;> rfl
      simp only [oIs, this] at e
      exact QE.ret e1 (.bl _) e
    | _ => exact e.elim

/-! ### arguments, displays -/
theorem sa_nil : PA X [] (rdA X.kw Ξ aNil) := PA_imp pa_nil fun σ H Q ⟨g, s, m, em, sr, q⟩ => q g H [] (Ext.refl _ _) em .nil
theorem sa_cons {f : SA} (ha : PE X e (rdE X.kw Ξ fa)) (hr : PA X es (rdA X.kw Ξ f)) (hs : starEach (e :: es) X.env = (false, eval e X.env) :: starEach es X.env := by rfl) : PA X (e :: es) (rdA X.kw Ξ (aCons fa f)) :=
  PA_imp (pa_cons ha hr hs) fun σ H Q ⟨g, s, m, em, sr, q⟩ => by
    refine ⟨g, s, m, em, sr, QR.bind q fun p hp q1 g1 H1 V x1 e1 r1 => ?_⟩
    refine ⟨g1, s, p.2, e1, sr.ext em x1, QR.bind (QA.later x1 q1) fun p2 hp2 q2 g2 H2 W x2 e2 r2 => ?_⟩
    exact q2 g2 H2 _ x2 e2 (.cons (r1.ext e1 x2) r2)
theorem rps_small {xs : List PV} {vs : List V} (r : Rps K g H xs vs) (n : Nat) (h : xs.length ≤ n) (hn : n ≤ sizeLine) : vs.length ≤ sizeLine := by rw [← r.length]; exact Nat.le_trans h hn
theorem se_tup {f : SA} {x1} (h : PA X es (rdA X.kw Ξ f)) (hl : ∀ s m xs m', f s m = .ok (xs, m') → xs.length = es.length) (hn : es.length ≤ 1000 := by decide) : PE X (.Tuple es x1 pos) (rdE X.kw Ξ (eTup f)) :=
  PE_imp (pe_tup h) fun σ H Q ⟨g, s, m, em, sr, q⟩ => by
    refine ⟨g, s, m, em, sr, QR.bind q fun p hp q1 g1 H1 V x1 e1 r1 => ?_⟩
    refine ⟨rps_small r1 1000 ?_ (by rw [sizeLine_eq]; decide), fun p' hp' => QE.newT e1 r1 (QE.later x1 q1) hp'⟩
    rw [hl s m p.1 p.2 hp]; exact hn
theorem se_lst {f : SA} (h : PA X es (rdA X.kw Ξ f)) (hl : ∀ s m xs m', f s m = .ok (xs, m') → xs.length = es.length) (hn : es.length ≤ 1000 := by decide) : PE X (.List es pos) (rdE X.kw Ξ (eLst f)) :=
  PE_imp (pe_lst h) fun σ H Q ⟨g, s, m, em, sr, q⟩ => by
    refine ⟨g, s, m, em, sr, QR.bind q fun p hp q1 g1 H1 V x1 e1 r1 => ?_⟩
    refine ⟨rps_small r1 1000 ?_ (by rw [sizeLine_eq]; decide), fun p' hp' => QE.newL e1 r1 (QE.later x1 q1) hp'⟩
    rw [hl s m p.1 p.2 hp]; exact hn
theorem se_lstM {f : SA} (h : PA X es (rdA X.kw Ξ f)) (hl : ∀ s m xs m', f s m = .ok (xs, m') → xs.length = es.length) (hn : es.length ≤ 1000 := by decide) : PE X (.List es pos) (rdE X.kw Ξ (eLstM f)) :=
  PE_imp (pe_lst h) fun σ H Q ⟨g, s, m, em, sr, q⟩ => by
    refine ⟨g, s, m, em, sr, QR.bind q fun p hp q1 g1 H1 V x1 e1 r1 => ?_⟩
    refine ⟨rps_small r1 1000 ?_ (by rw [sizeLine_eq]; decide), fun p' hp' => QE.newM e1 r1 (QE.later x1 q1) hp'⟩
    rw [hl s m p.1 p.2 hp]; exact hn
end
/-- arguments come one for each expression -/
theorem al_nil : ∀ s m xs m', aNil s m = .ok (xs, m') → xs.length = ([] : List Expr).length := by
  intro s m xs m' h; cases h; rfl
theorem al_cons {fa : SE} {f : SA} {e : Expr} {es : List Expr} (h : ∀ s m xs m', f s m = .ok (xs, m') → xs.length = es.length) : ∀ s m xs m', aCons fa f s m = .ok (xs, m') → xs.length = (e :: es).length := by
  intro s m xs m' q
  obtain ⟨p, h1, h2⟩ := Rs.bind_eq_ok q
  obtain ⟨p2, h3, h4⟩ := Rs.bind_eq_ok h2
  cases h4
  rw [List.length_cons, h _ _ _ _ h3, List.length_cons]
section
variable {X : Cx} {Ξ : XC} {a b c e o : Expr} {es : List Expr} {pos : Pos} {fa fb fc : SE} {ft fu : ST} {K : KW}
/-! ### calls of built-ins -/
theorem rd_eN {f : ON} {fs : SA} {σ : L2.St} {H : Hp} {Q : VK} (h : rdE K Ξ (eN f fs) σ H Q) : tCB (rdN K Ξ f) (rdA K Ξ fs) σ H Q := by
  obtain ⟨g, s, m, em, sr, q⟩ := h
  exact ⟨g, s, m, em, sr, QR.bind q fun p hp q1 g1 H1 V x1 e1 r1 => ⟨g1, p.2, p.1, e1, r1, QE.later x1 q1⟩⟩
theorem se_callB {x : Str} {p : Pos} {id : String} {f : ON} {fs : SA} (hc : CallR X (.builtin id) (rdN X.kw Ξ f)) (hg : Gl X x) (hm : X.mg x = none) (hv : bootBuiltins x = some (.builtin id)) (ha : PA X (e :: es) (rdA X.kw Ξ fs)) (hn : x ≠ "__name__" := by decide) (hdb : (x == ("__debug__" : Str)) = false := by decide)
    (he : starEach (e :: es) X.env = (false, eval e X.env) :: starEach es X.env := by rfl) (hpl : (backTo pos (starEach es X.env)).any (·.1) = false := by rfl) : PE X (.Call (.Name x p) (e :: es) [] pos) (rdE X.kw Ξ (eN f fs)) :=
  PE_imp (pe_callB hc hg hm hv ha hn hdb he hpl) fun _ _ _ => rd_eN
theorem se_callTy {x : Str} {p : Pos} {T : String} {f : ON} {fs : SA} (hc : CallR X (.type T) (rdN X.kw Ξ f)) (hg : Gl X x) (hm : X.mg x = none) (hv : bootBuiltins x = some (.type T)) (ha : PA X (e :: es) (rdA X.kw Ξ fs)) (hn : x ≠ "__name__" := by decide) (hdb : (x == ("__debug__" : Str)) = false := by decide)
    (he : starEach (e :: es) X.env = (false, eval e X.env) :: starEach es X.env := by rfl) (hpl : (backTo pos (starEach es X.env)).any (·.1) = false := by rfl) : PE X (.Call (.Name x p) (e :: es) [] pos) (rdE X.kw Ξ (eN f fs)) :=
  PE_imp (pe_callTy hc hg hm hv ha hn hdb he hpl) fun _ _ _ => rd_eN
/-- isinstance(x, T) -/
theorem se_isA {x y : Str} {p p2 : Pos} (t : Ty) (hg : Gl X x) (hm : X.mg x = none) (hv : bootBuiltins x = some (.builtin "isinstance")) (ha : PE X a (rdE X.kw Ξ fa)) (hg2 : Gl X y) (hm2 : X.mg y = none) (hv2 : bootBuiltins y = some (.type t.name)) (hn : x ≠ "__name__" := by decide) (hdb : (x == ("__debug__" : Str)) = false := by decide)
    (hn2 : y ≠ "__name__" := by decide) (hdb2 : (y == ("__debug__" : Str)) = false := by decide) (hs : starEach [a, .Name y p2] X.env = (false, eval a X.env) :: starEach [.Name y p2] X.env := by rfl) :
    PE X (.Call (.Name x p) [a, .Name y p2] [] pos) (rdE X.kw Ξ (e1 (oIsA t) fa)) :=
  PE_imp (pe_callB (call_tIsA t) hg hm hv (pa_cons ha (pa_cons (pe_bltn (v := .ty t.name) hg2 hm2 hv2 rfl hn2 hdb2) pa_nil) hs) hn hdb hs) fun σ H Q ⟨g, s, m, em, sr, q⟩ =>
    ⟨g, s, m, em, sr, QR.bind q fun p hp q1 g1 H1 V x1 e1 r1 => ⟨V, rfl, g1, p.2, p.1, e1, r1, QE.later x1 q1⟩⟩

/-! ### subscripts -/
theorem se_ix (ha : PE X a (rdE X.kw Ξ fa)) (hb : PE X b (rdE X.kw Ξ fb)) (hs : PlainIx b := by exact fun _ _ => rfl) : PE X (.Subscript a b pos) (rdE X.kw Ξ (e2 oIx fa fb)) :=
  PE_imp (pe_ix ix_t ha hb hs) fun _ _ _ => rd_e2
/-- a[lo:hi] -/
theorem rd_part {f : SE} {σ : L2.St} {H : Hp} {Q : Option Int → Hp → Prop} (h : rdE K Ξ f σ H fun x H1 => ∃ i, x = .int i ∧ Q (some i) H1) : tPart (rdE K Ξ f) σ H Q := h
theorem se_sl0 {p2 : Pos} (ha : PE X a (rdE X.kw Ξ fa)) : PE X (.Subscript a (.Slice none none none p2) pos) (rdE X.kw Ξ (e1 (oSlice none none) fa)) :=
  PE_imp (pe_slice sl_t ha po_none po_none) fun σ H Q ⟨g, s, m, em, sr, q⟩ => by
    exact ⟨g, s, m, em, sr, QR.bind q fun p hp q1 g1 H1 V x1 e1 r1 => ⟨g1, p.2, p.1, e1, r1, QE.later x1 q1⟩⟩
theorem se_slL {p2 : Pos} (ha : PE X a (rdE X.kw Ξ fa)) (hb : PE X b (rdE X.kw Ξ fb)) : PE X (.Subscript a (.Slice (some b) none none p2) pos) (rdE X.kw Ξ (eSlL fb fa)) :=
  PE_imp (pe_slice sl_t ha (po_some hb) po_none) fun σ H Q ⟨g, s, m, em, sr, q⟩ => by
    refine ⟨g, s, m, em, sr, QR.bind q fun p hp q1 g1 H1 V x1 e1 r1 => ?_⟩
    refine ⟨g1, s, p.2, e1, sr.ext em x1, QR.bind (QE.later x1 q1) fun p2 hp2 q2 g2 H2 W x2 e2 r2 => ?_⟩
    obtain ⟨l, m2⟩ := p2
    cases l with
    | int i => cases r2.int_inv; exact ⟨i, rfl, g2, m2, p.1, e2, r1.ext e1 x2, QE.later x2 q2⟩
    | _ => exact q2.elim
theorem se_slH {p2 : Pos} (ha : PE X a (rdE X.kw Ξ fa)) (hb : PE X b (rdE X.kw Ξ fb)) : PE X (.Subscript a (.Slice none (some b) none p2) pos) (rdE X.kw Ξ (eSlH fb fa)) :=
  PE_imp (pe_slice sl_t ha po_none (po_some hb)) fun σ H Q ⟨g, s, m, em, sr, q⟩ => by
    refine ⟨g, s, m, em, sr, QR.bind q fun p hp q1 g1 H1 V x1 e1 r1 => ?_⟩
    refine ⟨g1, s, p.2, e1, sr.ext em x1, QR.bind (QE.later x1 q1) fun p2 hp2 q2 g2 H2 W x2 e2 r2 => ?_⟩
    obtain ⟨l, m2⟩ := p2
    cases l with
    | int i => cases r2.int_inv; exact ⟨i, rfl, g2, m2, p.1, e2, r1.ext e1 x2, QE.later x2 q2⟩
    | _ => exact q2.elim
theorem se_slLH {p2 : Pos} (ha : PE X a (rdE X.kw Ξ fa)) (hb : PE X b (rdE X.kw Ξ fb)) (hc : PE X c (rdE X.kw Ξ fc)) : PE X (.Subscript a (.Slice (some b) (some c) none p2) pos) (rdE X.kw Ξ (eSlLH fb fc fa)) :=
  PE_imp (pe_slice sl_t ha (po_some hb) (po_some hc)) fun σ H Q ⟨g, s, m, em, sr, q⟩ => by
    refine ⟨g, s, m, em, sr, QR.bind q fun p hp q1 g1 H1 V x1 e1 r1 => ?_⟩
    refine ⟨g1, s, p.2, e1, sr.ext em x1, QR.bind (QE.later x1 q1) fun p2 hp2 q2 g2 H2 W x2 e2 r2 => ?_⟩
    obtain ⟨l, m2⟩ := p2
    cases l with
    | int i =>
      cases r2.int_inv
      refine ⟨i, rfl, g2, s, m2, e2, (sr.ext em x1).ext e1 x2, QR.bind (QE.later x2 q2) fun p3 hp3 q3 g3 H3 U x3 e3 r3 => ?_⟩
      obtain ⟨u, m3⟩ := p3
      cases u with
      | int j => cases r3.int_inv; exact ⟨j, rfl, g3, m3, p.1, e3, (r1.ext e1 x2).ext e2 x3, QE.later x3 q3⟩
      | _ => exact q3.elim
    | _ => exact q2.elim
/-- methods of built-in types -/
def Tag.name : Tag → String
  | .list => "list" | .str => "str"
theorem tyV_of {g : Gh} {m : Mm} {H : Hp} {t : Tag} {v : PV} {w : V} (e : Emb K g m H) (h : tyOk m t v = true) (r : Rp K g H v w) : tyV K t.name w H := by
  cases t <;> cases r <;> simp only [tyOk] at h <;> first | cases h | skip
  · rename_i hh rr
    exact .inl ⟨rfl, _, SqL.of (e.ro _ _ hh).1⟩
  · rename_i hn
    split at h
    · rename_i ys hy
      obtain ⟨a', vs, h1, h2, h3⟩ := e.obj _ _ hy
      rw [hn] at h1; cases h1
      exact .inl ⟨rfl, _, SqL.of h2⟩
    · cases h
  · rfl
theorem se_meth {t : Tag} {id : String} {name : Str} {apos cpos : Pos} {f : PV → List PV → Mm → Rs (PV × Mm)} {fs : SA} {fo : SE} (pa : PlainAttrs t.name) (slot : Slot t.name name id) (hty : typeOf (.builtin id) = pure (.type "method_descriptor")) (hm : MtR X id (rdM X.kw Ξ f)) (ho : PE X o (rdE X.kw Ξ fo)) (ha : PA X (e :: es) (rdA X.kw Ξ fs))
    (hbase : attributeBase o name X.env (eval o X.env) = eval o X.env := by rfl)
    (hfew : ((backTo cpos (starEach (e :: es) X.env)).all (fun x => !x.1) && (backToKw cpos (keywordEach [] X.env)).all (fun x => x.1.isSome)
      && decide ((e :: es).length + ([] : List Keyword).length + (if ([] : List Keyword).isEmpty then 0 else 1) < 30)) = true := by rfl)
    (hline : (apos.endLine == cpos.line) = true := by rfl) (hs : starEach (e :: es) X.env = (false, eval e X.env) :: starEach es X.env := by rfl) (hplain : (backTo cpos (starEach es X.env)).any (·.1) = false := by rfl) :
    PE X (.Call (.Attribute o name apos) (e :: es) [] cpos) (rdE X.kw Ξ (eM t f fo fs)) :=
  PE_imp (pe_bm pa slot hty hm ho ha hbase hfew hline hs hplain) fun σ H Q ⟨g, s, m, em, sr, q⟩ => by
    refine ⟨g, s, m, em, sr, QR.bind q fun p hp q1 g1 H1 V x1 e1 r1 => ?_⟩
    obtain ⟨v, m1⟩ := p
    simp only at q1
    by_cases hty : tyOk m1 t v = true
    · rw [if_pos hty] at q1
      refine ⟨tyV_of e1 hty r1, g1, s, m1, e1, sr.ext em x1, QR.bind (QE.later x1 q1) fun p2 hp2 q2 g2 H2 W x2 e2 r2 => ?_⟩
      exact ⟨g2, p2.2, v, p2.1, e2, r1.ext e1 x2, r2, QE.later x2 q2⟩
    · rw [if_neg hty] at q1; exact q1.elim

/-! ### and, or, not, conditional expressions -/
theorem se_and1 {op pos} (h : PE X a (rdE X.kw Ξ fa)) : PE X (.BoolOp op [a] pos) (rdE X.kw Ξ fa) := pe_one h
theorem se_and {rest : List Expr} (ha : PE X a (rdE X.kw Ξ fa)) (hb : PE X (.BoolOp .And (b :: rest) pos) (rdE X.kw Ξ fb)) : PE X (.BoolOp .And (a :: b :: rest) pos) (rdE X.kw Ξ (eAnd fa fb)) :=
  PE_imp (pe_and ha hb) fun σ H Q ⟨g, s, m, em, sr, q⟩ => by
    refine ⟨g, s, m, em, sr, QR.bind q fun p hp q1 g1 H1 V x1 e1 r1 => ?_⟩
    obtain ⟨v, m1⟩ := p
    cases v with
    | bl k =>
      cases r1.bl_inv
      refine ⟨k, rfl, ?_⟩
      cases k with
      | true => exact iteT ⟨g1, s, m1, e1, sr.ext em x1, QE.later x1 q1⟩
      | false => exact iteF (QE.ret e1 (.bl false) (QE.later x1 q1))
    | _ => exact q1.elim
theorem se_or {rest : List Expr} (ha : PE X a (rdE X.kw Ξ fa)) (hb : PE X (.BoolOp .Or (b :: rest) pos) (rdE X.kw Ξ fb)) : PE X (.BoolOp .Or (a :: b :: rest) pos) (rdE X.kw Ξ (eOr fa fb)) :=
  PE_imp (pe_or ha hb) fun σ H Q ⟨g, s, m, em, sr, q⟩ => by
    refine ⟨g, s, m, em, sr, QR.bind q fun p hp q1 g1 H1 V x1 e1 r1 => ?_⟩
    obtain ⟨v, m1⟩ := p
    cases v with
    | bl k =>
      cases r1.bl_inv
      refine ⟨k, rfl, ?_⟩
      cases k with
      | false => exact iteF ⟨g1, s, m1, e1, sr.ext em x1, QE.later x1 q1⟩
      | true => exact iteT (QE.ret e1 (.bl true) (QE.later x1 q1))
    | _ => exact q1.elim
theorem se_not (ha : PE X a (rdE X.kw Ξ fa)) : PE X (.UnaryOp .Not a pos) (rdE X.kw Ξ (eNot fa)) :=
  PE_imp (pe_not ha) fun σ H Q ⟨g, s, m, em, sr, q⟩ => by
    refine ⟨g, s, m, em, sr, QR.bind q fun p hp q1 g1 H1 V x1 e1 r1 => ?_⟩
    obtain ⟨v, m1⟩ := p
    cases v with
    | bl k =>
      cases r1.bl_inv
      exact ⟨k, rfl, QE.ret e1 (.bl _) (QE.later x1 q1)⟩
    | _ => exact q1.elim
theorem sw_and1 {pos} (h : PT X a (rdT X.kw Ξ ft)) : PW X (.BoolOp .And [a] pos) (rdT X.kw Ξ ft) := pw_and1 h
theorem sw_or1 {pos} (h : PT X a (rdT X.kw Ξ ft)) : PW X (.BoolOp .Or [a] pos) (rdT X.kw Ξ ft) := pw_or1 h
theorem sw_and {rest : List Expr} (ha : PT X a (rdT X.kw Ξ ft)) (hb : PW X (.BoolOp .And (b :: rest) pos) (rdT X.kw Ξ fu)) : PW X (.BoolOp .And (a :: b :: rest) pos) (rdT X.kw Ξ (tAnd ft fu)) :=
  PW_imp (pw_and ha hb) fun σ H Q ⟨g, s, m, em, sr, q⟩ => by
    refine ⟨g, s, m, em, sr, QR.bind q fun p hp q1 g1 H1 x1 e1 => ?_⟩
    obtain ⟨k, m1⟩ := p
    cases k with
    | true => exact iteT ⟨g1, s, m1, e1, sr.ext em x1, QT.later x1 q1⟩
    | false => exact iteF (q1 g1 H1 x1 e1)
theorem sw_or {rest : List Expr} (ha : PT X a (rdT X.kw Ξ ft)) (hb : PW X (.BoolOp .Or (b :: rest) pos) (rdT X.kw Ξ fu)) : PW X (.BoolOp .Or (a :: b :: rest) pos) (rdT X.kw Ξ (tOr ft fu)) :=
  PW_imp (pw_or ha hb) fun σ H Q ⟨g, s, m, em, sr, q⟩ => by
    refine ⟨g, s, m, em, sr, QR.bind q fun p hp q1 g1 H1 x1 e1 => ?_⟩
    obtain ⟨k, m1⟩ := p
    cases k with
    | false => exact iteF ⟨g1, s, m1, e1, sr.ext em x1, QT.later x1 q1⟩
    | true => exact iteT (q1 g1 H1 x1 e1)
theorem st_w (h : PW X e (rdT X.kw Ξ ft)) : PT X e (rdT X.kw Ξ ft) := h.pt
theorem st_not (ha : PT X a (rdT X.kw Ξ ft)) : PT X (.UnaryOp .Not a pos) (rdT X.kw Ξ (tNot ft)) :=
  PT_imp (pt_not ha) fun σ H Q ⟨g, s, m, em, sr, q⟩ => by
    refine ⟨g, s, m, em, sr, QR.bind q fun p hp q1 g1 H1 x1 e1 => ?_⟩
    exact q1 g1 H1 x1 e1
theorem se_if (hc : PT X c (rdT X.kw Ξ ft)) (ha : PE X a (rdE X.kw Ξ fa)) (hb : PE X b (rdE X.kw Ξ fb)) : PE X (.IfExp c a b pos) (rdE X.kw Ξ (eIf ft fa fb)) :=
  PE_imp (pe_ifExp hc ha hb) fun σ H Q ⟨g, s, m, em, sr, q⟩ => by
    refine ⟨g, s, m, em, sr, QR.bind q fun p hp q1 g1 H1 x1 e1 => ?_⟩
    obtain ⟨k, m1⟩ := p
    cases k with
    | true => exact iteT ⟨g1, s, m1, e1, sr.ext em x1, QE.later x1 q1⟩
    | false => exact iteF ⟨g1, s, m1, e1, sr.ext em x1, QE.later x1 q1⟩
/-- a < b < c -/
theorem rd_chain {r r' : R2} {f f' : O2} {σ : L2.St} {H : Hp} {Q : VK} (hr : ∀ x y H Q, rd2 K Ξ f x y H Q → r x y H Q) (hr' : ∀ x y H Q, rd2 K Ξ f' x y H Q → r' x y H Q) (h : rdE K Ξ (eChain f f' fa fb fc) σ H Q) : tChain r r' (rdE K Ξ fa) (rdE K Ξ fb) (rdE K Ξ fc) σ H Q := by
  obtain ⟨g, s, m, em, sr, q⟩ := h
  refine ⟨g, s, m, em, sr, QR.bind q fun p hp q1 g1 H1 V x1 e1 r1 => ?_⟩
  refine ⟨g1, s, p.2, e1, sr.ext em x1, QR.bind (QE.later x1 q1) fun p2 hp2 q2 g2 H2 W x2 e2 r2 => ?_⟩
  have q2' := QE.later x2 q2
  refine hr _ _ _ _ ⟨g2, p2.2, p.1, p2.1, e2, r1.ext e1 x2, r2, QR.bind q2' fun p3 hp3 q3 g3 H3 Z x3 e3 r3 => ?_⟩
  obtain ⟨z, m3⟩ := p3
  cases z with
  | bl k =>
    cases r3.bl_inv
    refine ⟨k, rfl, ?_⟩
    cases k with
    | true =>
      refine iteT ⟨g3, s, m3, e3, ((sr.ext em x1).ext e1 x2).ext e2 x3, QR.bind (QE.later x3 q3) fun p4 hp4 q4 g4 H4 U x4 e4 r4 => ?_⟩
      exact hr' _ _ _ _ ⟨g4, p4.2, p2.1, p4.1, e4, (r2.ext e2 x3).ext e3 x4, r4, QE.later x4 q4⟩
    | false => exact iteF (QE.ret e3 (.bl false) (QE.later x3 q3))
  | _ => exact q3.elim
theorem se_chain {op op' : CmpOp} {f f' : O2} (h : OpR X (compareOp op) (rd2 X.kw Ξ f)) (h' : OpR X (compareOp op') (rd2 X.kw Ξ f')) (ha : PE X a (rdE X.kw Ξ fa)) (hb : PE X b (rdE X.kw Ξ fb)) (hc : PE X c (rdE X.kw Ξ fc))
    (hm : lastMarks [op, op'] [b, c] = false := by with_unfolding_all rfl) : PE X (.Compare a [op, op'] [b, c] pos) (rdE X.kw Ξ (eChain f f' fa fb fc)) :=
  PE_imp (pe_chain h h' ha hb hc hm) fun σ H Q q => rd_chain (fun _ _ _ _ h => h) (fun _ _ _ _ h => h) q
theorem st_chain {op op' : CmpOp} {f f' : O2} (h : OpR X (compareOp op) (rd2 X.kw Ξ f)) (h' : OpR X (compareOp op') (rd2 X.kw Ξ f')) (ha : PE X a (rdE X.kw Ξ fa)) (hb : PE X b (rdE X.kw Ξ fb)) (hc : PE X c (rdE X.kw Ξ fc))
    (hm : lastMarks [op, op'] [b, c] = false := by with_unfolding_all rfl) : PT X (.Compare a [op, op'] [b, c] pos) (rdT X.kw Ξ (tV (eChain f f' fa fb fc))) :=
  PT_imp (pt_chain h h' ha hb hc hm) fun σ H Q q => st_of (e := a) (fun _ h => rd_chain (fun _ _ _ _ h => h) (fun _ _ _ _ h => h) h) q
end
end TT
end

section
set_option Elab.async false
set_option linter.all false
set_option autoImplicit false
set_option maxRecDepth 100000
/-! TT: targets, statements, loops, comprehensions -/
namespace TT
open PySem PySem.Spec PyProof.Rows L2
/-- behind a target, a ghost step -/
abbrev PEndG (K : KW) (g : Gh) (H : Hp) (Q : L2.St → Hp → Prop) : Sl × Mm → Prop := fun p => ∀ g' H' σ', Ext g H g' H' → Emb K g' p.2 H' → Sr K g' H' p.1 σ' → Q σ' H'
abbrev QG (K : KW) (Ξ : XC) (g : Gh) (H : Hp) (Q : L2.St → Hp → Prop) (r : Rs (Sl × Mm)) : Prop := QR K Ξ g H (PEndG K g H Q) r
theorem QG.later {K : KW} {Ξ : XC} {g g' : Gh} {H H' : Hp} {Q : L2.St → Hp → Prop} {r : Rs (Sl × Mm)} (x : Ext g H g' H') (h : QG K Ξ g H Q r) : QG K Ξ g' H' Q r := QR.later x h fun _ p g2 H2 V x2 => p g2 H2 V (x.trans x2)
def rdG (K : KW) (Ξ : XC) (f : SG) : TG := fun v σ H Q => ∃ g s m pv, Emb K g m H ∧ Sr K g H s σ ∧ Rp K g H pv v ∧ QG K Ξ g H Q (f pv s m)
/-- names one after another -/
def rdGs (K : KW) (Ξ : XC) (is : List Nat) : TGs := fun vs σ H Q => ∃ g s m pvs, Emb K g m H ∧ Sr K g H s σ ∧ Rps K g H pvs vs ∧ ∃ s', gNames is pvs s = some s' ∧ ∀ σ', Sr K g H s' σ' → Q σ' H
section
variable {X : Cx} {Ξ : XC} {a b c e o : Expr} {es : List Expr} {pos : Pos} {fa fb fc : SE} {ft : ST} {K : KW}
theorem sg_name (i : Nat) {x : Str} (hN : X.N.Nodup) (hi : X.N[i]? = some x := by rfl) (hx : Loc X.env.scope x := by first | exact Or.inl rfl | exact Or.inr rfl) (hf : X.fn x = true ∨ X.env.scope.names.lookup x = some .local := by first | exact .inl rfl | exact .inr rfl | assumption) : PG X (.Name x pos) (rdG X.kw Ξ (gName i)) :=
  PG_imp (pg_name hN hi hx hf) fun v σ H Q ⟨g, s, m, pv, em, sr, rv, q⟩ => q g H _ (Ext.refl _ _) em (sr.set rv i)
theorem gNames_len : ∀ (is : List Nat) (vs : List PV) (s s' : Sl), gNames is vs s = some s' → vs.length = is.length
  | [], [], _, _, _ => rfl
  | [], _ :: _, _, _, h => by cases h
  | _ :: _, [], _, _, h => by cases h
  | _ :: is, _ :: vs, s, s', h => by rw [List.length_cons, List.length_cons, gNames_len is vs _ s' h]
theorem sgs_nil : PGs X [] (rdGs X.kw Ξ []) := ⟨fun pins s σ H vs us Q I r ⟨g, sl, m, pvs, em, sr, rs, s', h, q⟩ => by
  cases pvs with
  | nil => cases h; cases rs; exact pgs_nil.run pins s σ H [] us Q I r ⟨rfl, q σ sr⟩
  | cons => cases h⟩
theorem sgs_cons {is : List Nat} (i : Nat) {x : Str} {p : Pos} (hN : X.N.Nodup) (h2 : PGs X es (rdGs X.kw Ξ is)) (hi : X.N[i]? = some x := by rfl) (hx : Loc X.env.scope x := by first | exact Or.inl rfl | exact Or.inr rfl) (hf : X.fn x = true ∨ X.env.scope.names.lookup x = some .local := by first | exact .inl rfl | exact .inr rfl | assumption)
    (hs : (assignEach (.Name x p :: es) X.env).map (·.2) = assign (.Name x p) X.env :: (assignEach es X.env).map (·.2) := by rfl) : PGs X (.Name x p :: es) (rdGs X.kw Ξ (i :: is)) :=
  ⟨fun pins s σ H vs us Q I r ⟨g, sl, m, pvs, em, sr, rs, s', h, q⟩ => by
    cases pvs with
    | nil => cases h
    | cons pv pvs =>
      cases rs with
      | cons r1 r2 =>
        exact (pgs_cons (pg_name hN hi hx hf) h2 hs).run pins s σ H _ us Q I r ⟨_, _, rfl, g, _, m, pvs, em, sr.set r1 i, r2, s', h, q⟩⟩
theorem sg_tup {is : List Nat} {k : Nat} (n : Nat) (hc : X.calm = true) (h : PGs X es (rdGs X.kw Ξ is)) (hl : is.length = n := by rfl) (hn : (assignEach es X.env).length = n := by rfl) (hst : (assignEach es X.env).findIdx? (·.1) = none := by rfl) : PG X (.Tuple es k pos) (rdG X.kw Ξ (gTup is)) :=
  PG_imp (pg_tup hc h hn hst) fun v σ H Q ⟨g, s, m, pv, em, sr, rv, q⟩ => by
    unfold gTup at q
    split at q
    · rename_i vs
      obtain ⟨a, ws, rfl, ha, r1⟩ := rv.tup_inv
      split at q
      · rename_i s' hs
        have hlen : vs.length = n := by rw [← hl]; exact gNames_len _ _ _ _ hs
        exact ⟨a, ws, rfl, ha, by rw [← r1.length]; exact hlen, g, s, m, vs, em, sr, r1, s', hs, fun σ' sr' => q g H σ' (Ext.refl _ _) em sr'⟩
      · exact q.elim
    · exact q.elim
theorem sg_sub (ho : PE X o (rdE X.kw Ξ fa)) (hi : PE X e (rdE X.kw Ξ fb)) (ha : ∀ v, assign (.Subscript o e pos) X.env v = (do
      let ov ← holding [v] (eval o X.env)
      let iv ← holding [v, ov] (eval e X.env)
      standAt pos
      holding [v, ov, iv] (setItem ov iv v)
      release [v, ov, iv] []) := by intro _; rfl) : PG X (.Subscript o e pos) (rdG X.kw Ξ (gSub fa fb)) :=
  PG_imp (pg_sub ho hi set_t ha) fun v σ H Q ⟨g, s, m, pv, em, sr, rv, q⟩ => by
    refine ⟨g, s, m, em, sr, QR.bind q fun p hp q1 g1 H1 V x1 e1 r1 => ?_⟩
    refine ⟨g1, s, p.2, e1, sr.ext em x1, QR.bind (QG.later x1 q1) fun p2 hp2 q2 g2 H2 W x2 e2 r2 => ?_⟩
    refine ⟨g2, p2.2, p.1, p2.1, pv, e2, r1.ext e1 x2, r2, (rv.ext em x1).ext e1 x2, QR.bind (QG.later x2 q2) fun m3 hm3 q3 g3 H3 x3 e3 => ?_⟩
    exact q3 g3 H3 σ x3 e3 ((((sr.ext em x1).ext e1 x2)).ext e2 x3)

/-! ### statements -/
section
variable {st : Stmt} {rest : List Stmt} {f h : SS}
theorem QS_nx {g : Gh} {H : Hp} {m : Mm} {s : Sl} {σ : L2.St} {D : Ends} (em : Emb K g m H) (sr : Sr K g H s σ) (q : QS K Ξ g H D (.ok (.nx, s, m))) : D.nx σ H := q g H σ (Ext.refl _ _) em sr
theorem rd_seq {t u : TS} {D : Ends} {σ : L2.St} {H : Hp} (ht : ∀ D σ H, rdS K Ξ f D σ H → t D σ H) (hu : ∀ D σ H, rdS K Ξ h D σ H → u D σ H) (q : rdS K Ξ (sSeq f h) D σ H) : tSeq t u D σ H := by
  obtain ⟨g, s, m, em, sr, q⟩ := q
  refine ht _ _ _ ⟨g, s, m, em, sr, QR.bind q fun p hp q1 g1 H1 σ1 x1 e1 r1 => ?_⟩
  obtain ⟨fl, s1, m1⟩ := p
  cases fl with
  | nx => exact hu D σ1 H1 ⟨g1, s1, m1, e1, r1, QS.later x1 q1⟩
  | bk => exact q1 g1 H1 σ1 x1 e1 r1
  | ct => exact q1 g1 H1 σ1 x1 e1 r1
  | rt v => exact q1 g1 H1 σ1 x1 e1 r1
theorem ss_nil : PSs X [] (rdS X.kw Ξ sSkip) := PSs_imp pss_nil fun D σ H ⟨g, s, m, em, sr, q⟩ => QS_nx em sr q
theorem ss_cons (h1 : PS X st (rdS X.kw Ξ f)) (h2 : PSs X rest (rdS X.kw Ξ h)) : PSs X (st :: rest) (rdS X.kw Ξ (sSeq f h)) :=
  PSs_imp (pss_cons h1 h2) fun D σ H q => rd_seq (fun _ _ _ h => h) (fun _ _ _ h => h) q
theorem ss_one (h1 : PS X st (rdS X.kw Ξ f)) : PSs X [st] (rdS X.kw Ξ f) := pss_one h1
/-- a ghost step ahead of the rest: the list in slot i is changed no more -/
theorem frz_step {K : KW} {g : Gh} {m : Mm} {H : Hp} {s : Sl} {σ : L2.St} {i n : Nat} {xs : List PV} (em : Emb K g m H) (sr : Sr K g H s σ) (h1 : s[i]? = some (some (.ref n))) (h2 : m[n]? = some (.lst xs)) :
    ∃ g', Ext g H g' H ∧ Emb K g' (m.set n .dead) H ∧ Sr K g' H (s.set i (some (.vl xs))) σ := by
  obtain ⟨w, hw, rw'⟩ := sr.at_ i _ h1
  obtain ⟨a, rfl, hn⟩ := rw'.ref_inv
  obtain ⟨g', x, e', rv⟩ := em.freeze h2 hn
  refine ⟨g', x, e', ⟨by rw [List.length_set]; exact sr.len, fun j v hv => ?_⟩⟩
  by_cases hj : i = j
  · subst hj
    have hi : i < s.length := (List.getElem?_eq_some_iff.mp h1).1
    rw [List.getElem?_set_self hi] at hv
    cases hv
    exact ⟨_, hw, rv⟩
  · rw [List.getElem?_set_ne hj] at hv
    obtain ⟨u, h3, h4⟩ := sr.at_ j v hv
    exact ⟨u, h3, h4.ext em x⟩
theorem ss_frz {sts : List Stmt} (i : Nat) (h1 : PSs X sts (rdS X.kw Ξ f)) : PSs X sts (rdS X.kw Ξ (sSeq (sFrz i) f)) :=
  PSs_imp h1 fun D σ H ⟨g, s, m, em, sr, q⟩ => by
    simp only [sSeq, sFrz] at q
    split at q
    · rename_i n hn
      split at q
      · rename_i xs hx
        obtain ⟨g', x, e', sr'⟩ := frz_step em sr hn hx
        exact ⟨g', _, _, e', sr', QS.later x q⟩
      · exact q.elim
    · exact q.elim
theorem ss_expr (he : PE X e (rdE X.kw Ξ fa)) (hs : swapsWith e none pos.line X.env = pure false := by rfl) : PS X (.Expr e pos) (rdS X.kw Ξ (sExpr fa)) :=
  PS_imp (ps_expr he hs) fun D σ H ⟨g, s, m, em, sr, q⟩ =>
    ⟨g, s, m, em, sr, QR.bind q fun p hp q1 g1 H1 V x1 e1 r1 => QS_nx e1 (sr.ext em x1) (QS.later x1 q1)⟩
theorem ss_ret (he : PE X e (rdE X.kw Ξ fa)) : PS X (.Return (some e) pos) (rdS X.kw Ξ (sRet fa)) :=
  PS_imp (ps_ret he) fun D σ H ⟨g, s, m, em, sr, q⟩ =>
    ⟨g, s, m, em, sr, QR.bind q fun p hp q1 g1 H1 V x1 e1 r1 => q1 g1 H1 σ x1 e1 (sr.ext em x1) V r1⟩
theorem ss_retN : PS X (.Return none pos) (rdS X.kw Ξ sRetN) :=
  PS_imp ps_retN fun D σ H ⟨g, s, m, em, sr, q⟩ => q g H σ (Ext.refl _ _) em sr _ .non
theorem ss_pass : PS X (.Pass pos) (rdS X.kw Ξ sSkip) := PS_imp ps_pass fun D σ H ⟨g, s, m, em, sr, q⟩ => QS_nx em sr q
theorem ss_break : PS X (.Break pos) (rdS X.kw Ξ sBreak) := PS_imp ps_break fun D σ H ⟨g, s, m, em, sr, q⟩ => q g H σ (Ext.refl _ _) em sr
theorem ss_cont : PS X (.Continue pos) (rdS X.kw Ξ sCont) := PS_imp ps_continue fun D σ H ⟨g, s, m, em, sr, q⟩ => q g H σ (Ext.refl _ _) em sr
theorem ss_never : PS X st (rdS X.kw Ξ sNever) := PS_imp ps_never fun D σ H ⟨g, s, m, em, sr, q⟩ => q.elim
theorem ss_if {c : Expr} {b1 b2 : List Stmt} (hc : PT X c (rdT X.kw Ξ ft)) (ha : PSs X b1 (rdS X.kw Ξ f)) (hb : PSs X b2 (rdS X.kw Ξ h)) : PS X (.If c b1 b2 pos) (rdS X.kw Ξ (sIf ft f h)) :=
  PS_imp (ps_if hc ha hb) fun D σ H ⟨g, s, m, em, sr, q⟩ => by
    refine ⟨g, s, m, em, sr, QR.bind q fun p hp q1 g1 H1 x1 e1 => ?_⟩
    obtain ⟨k, m1⟩ := p
    cases k with
    | true => exact iteT ⟨g1, s, m1, e1, sr.ext em x1, QS.later x1 q1⟩
    | false => exact iteF ⟨g1, s, m1, e1, sr.ext em x1, QS.later x1 q1⟩
theorem ss_asg {tg : Expr} {fg : SG} (he : PE X e (rdE X.kw Ξ fa)) (hg : PG X tg (rdG X.kw Ξ fg)) (hs : swapsWithSole [tg] e pos.line X.env = pure false := by rfl) (hw : swappedStores [tg] e X.env = pure none := by rfl)
    (h1 : (assignEach [tg] X.env).map (·.2) = [assign tg X.env] := by rfl) : PS X (.Assign [tg] e pos) (rdS X.kw Ξ (sAsg fa fg)) :=
  PS_imp (ps_asg he hg hs hw h1) fun D σ H ⟨g, s, m, em, sr, q⟩ => by
    refine ⟨g, s, m, em, sr, QR.bind q fun p hp q1 g1 H1 V x1 e1 r1 => ?_⟩
    refine ⟨g1, s, p.2, p.1, e1, sr.ext em x1, r1, QR.bind (QS.later x1 q1) fun p2 hp2 q2 g2 H2 σ2 x2 e2 r2 => ?_⟩
    exact QS_nx e2 r2 (QS.later x2 q2)
theorem ss_set (i : Nat) {x : Str} {pos' : Pos} (hN : X.N.Nodup) (he : PE X e (rdE X.kw Ξ fa)) (hi : X.N[i]? = some x := by rfl) (hx : Loc X.env.scope x := by first | exact Or.inl rfl | exact Or.inr rfl) (hs : swapsWith e (some (.Name x pos')) pos.line X.env = pure false := by rfl) (hf : X.fn x = true ∨ X.env.scope.names.lookup x = some .local := by first | exact .inl rfl | exact .inr rfl | assumption) :
    PS X (.Assign [.Name x pos'] e pos) (rdS X.kw Ξ (sAsg fa (gName i))) :=
  PS_imp (ps_set hN hi hx he hs hf) fun D σ H ⟨g, s, m, em, sr, q⟩ => by
    refine ⟨g, s, m, em, sr, QR.bind q fun p hp q1 g1 H1 V x1 e1 r1 => ?_⟩
    exact QS_nx e1 ((sr.ext em x1).set r1 i) (QS.later x1 q1)
theorem ss_par2 (i j : Nat) {x y : Str} {px py pt : Pos} {kt k2 pt2} {fs : SA} (hc : X.calm = true) (hN : X.N.Nodup) (ha : PA X [a, b] (rdA X.kw Ξ fs)) (hi : X.N[i]? = some x := by rfl) (hj : X.N[j]? = some y := by rfl) (hij : i ≠ j := by decide)
    (hx : X.env.scope.names.lookup x = some .local := by rfl) (hy : X.env.scope.names.lookup y = some .local := by rfl)
    (hw : swappedStores [.Tuple [.Name x px, .Name y py] kt pt] (.Tuple [a, b] k2 pt2) X.env = pure (some [x, y]) := by rfl)
    (hs : swapsWithSole [.Tuple [.Name x px, .Name y py] kt pt] (.Tuple [a, b] k2 pt2) pos.line X.env = pure false := by rfl) :
    PS X (.Assign [.Tuple [.Name x px, .Name y py] kt pt] (.Tuple [a, b] k2 pt2) pos) (rdS X.kw Ξ (sPar2 i j fs)) :=
  PS_imp (ps_par hc hN hi hj hij hx hy ha hw hs) fun D σ H ⟨g, s, m, em, sr, q⟩ => by
    refine ⟨g, s, m, em, sr, QR.bind q fun p hp q1 g1 H1 V x1 e1 r1 => ?_⟩
    obtain ⟨xs, m1⟩ := p
    simp only at q1
    split at q1
    · rename_i u v
      cases r1 with
      | cons ra rb => cases rb with
        | cons rb rc =>
          cases rc
          exact ⟨_, _, rfl, QS_nx e1 (((sr.ext em x1).set ra i).set rb j) (QS.later x1 q1)⟩
    · exact q1.elim
theorem ss_par3 (i j l : Nat) {x y z : Str} {px py pz pt : Pos} {kt k2 pt2} {fs : SA} (hc : X.calm = true) (hN : X.N.Nodup) (ha : PA X [a, b, c] (rdA X.kw Ξ fs)) (hi : X.N[i]? = some x := by rfl) (hj : X.N[j]? = some y := by rfl) (hl : X.N[l]? = some z := by rfl) (hij : i ≠ j := by decide) (hil : i ≠ l := by decide) (hjl : j ≠ l := by decide)
    (hx : X.env.scope.names.lookup x = some .local := by rfl) (hy : X.env.scope.names.lookup y = some .local := by rfl) (hz : X.env.scope.names.lookup z = some .local := by rfl)
    (hw : swappedStores [.Tuple [.Name x px, .Name y py, .Name z pz] kt pt] (.Tuple [a, b, c] k2 pt2) X.env = pure (some [x, y, z]) := by rfl)
    (hs : swapsWithSole [.Tuple [.Name x px, .Name y py, .Name z pz] kt pt] (.Tuple [a, b, c] k2 pt2) pos.line X.env = pure false := by rfl) :
    PS X (.Assign [.Tuple [.Name x px, .Name y py, .Name z pz] kt pt] (.Tuple [a, b, c] k2 pt2) pos) (rdS X.kw Ξ (sPar3 i j l fs)) :=
  PS_imp (ps_par3 hc hN hi hj hl hij hil hjl hx hy hz ha hw hs) fun D σ H ⟨g, s, m, em, sr, q⟩ => by
    refine ⟨g, s, m, em, sr, QR.bind q fun p hp q1 g1 H1 V x1 e1 r1 => ?_⟩
    obtain ⟨xs, m1⟩ := p
    simp only at q1
    split at q1
    · cases r1 with
      | cons ra rb => cases rb with
        | cons rb rc => cases rc with
          | cons rc rd =>
            cases rd
            exact ⟨_, _, _, rfl, QS_nx e1 ((((sr.ext em x1).set ra i).set rb j).set rc l) (QS.later x1 q1)⟩
    · exact q1.elim

/-! ### while -/
theorem ss_while {body : List Stmt} (hp : PassesOwn (model X.prog X.w) X.A X.env X.xe) (hc : PT X c (rdT X.kw Ξ ft)) (hb : PSs X body (rdS X.kw Ξ f)) : PS X (.While c body [] pos) (rdS X.kw Ξ (sWhile ft f)) :=
  PS_imp (ps_while hp hc hb) fun D σ H ⟨g, s, m, em, sr, q⟩ => by
    refine ⟨fun n σ H => ∃ g s m, Emb X.kw g m H ∧ Sr X.kw g H s σ ∧ QS X.kw Ξ g H D (whileF ft f n s m), ⟨FUEL, g, s, m, em, sr, q⟩, ?_⟩
    rintro n σ1 H1 ⟨g1, s1, m1, e1, r1, q1⟩
    cases n with
    | zero => exact q1.elim
    | succ n =>
      refine ⟨g1, s1, m1, e1, r1, QR.bind q1 fun p hp q2 g2 H2 x2 e2 => ?_⟩
      obtain ⟨k, m2⟩ := p
      cases k with
      | false => exact iteF (QS_nx e2 (r1.ext e1 x2) (QS.later x2 q2))
      | true =>
        refine iteT ⟨fun σ' H' => ∃ g s m, Emb X.kw g m H' ∧ Sr X.kw g H' s σ' ∧ QS X.kw Ξ g H' D (whileF ft f n s m), fun σ' H' hN => ⟨n, Nat.lt_succ_self _, hN⟩, ?_⟩
        refine ⟨g2, s1, m2, e2, r1.ext e1 x2, QR.bind (QS.later x2 q2) fun p3 hp3 q3 g3 H3 σ3 x3 e3 r3 => ?_⟩
        obtain ⟨fl, s3, m3⟩ := p3
        cases fl with
        | nx => exact ⟨g3, s3, m3, e3, r3, QS.later x3 q3⟩
        | ct => exact ⟨g3, s3, m3, e3, r3, QS.later x3 q3⟩
        | bk => exact QS_nx e3 r3 (QS.later x3 q3)
        | rt v => exact q3 g3 H3 σ3 x3 e3 r3

/-! ### for -/
/-- the iterator walks these items, whatever the heap becomes -/
structure Wk (K : KW) (g : Gh) (H : Hp) (xs : List PV) (J : It) : Prop where
  go : ∀ g' m' H' i, Ext g H g' H' → Emb K g' m' H' → i < xs.length → J.go i H' ∧ ∀ x H2, J.yld i H' x H2 → ∃ g2 v, Ext g' H' g2 H2 ∧ Emb K g2 m' H2 ∧ xs[i]? = some v ∧ Rp K g2 H2 v x
  stop : ∀ g' m' H' i, Ext g H g' H' → Emb K g' m' H' → xs.length ≤ i → J.stop i H'
def rdI (K : KW) (Ξ : XC) (it : SI) : TI := fun σ H R => ∃ g s m, Emb K g m H ∧ Sr K g H s σ ∧ QR K Ξ g H (fun p => ∀ g' H' J, Ext g H g' H' → Emb K g' p.2 H' → Wk K g' H' p.1 J → R J H') (it s m)
theorem PI_imp {tg iter : Expr} {t t' : TI} (h : PI X tg iter t) (i : ∀ σ H R, t' σ H R → t σ H R) : PI X tg iter t' := ⟨fun pins s σ H R I q => h.run pins s σ H R I (i σ H R q)⟩
theorem ss_for {tg iter : Expr} {body : List Stmt} {it : SI} {fg : SG} (hp : PassesOwn (model X.prog X.w) X.A X.env X.xe) (hc : X.calm = true) (hi : PI X tg iter (rdI X.kw Ξ it)) (hg : PG X tg (rdG X.kw Ξ fg)) (hb : PSs X body (rdS X.kw Ξ f))
    (hs : ∀ x, foldedSetIterable iter X.env x = pure x := by intro _; rfl) : PS X (.For tg iter body [] pos) (rdS X.kw Ξ (sFor it fg f)) :=
  PS_imp (ps_for hp hc hi hg hb hs) fun D σ H ⟨g, s, m, em, sr, q⟩ => by
    refine ⟨g, s, m, em, sr, QR.bind q fun p hp q1 g1 H1 J x1 e1 wk => ?_⟩
    obtain ⟨xs, m1⟩ := p
    refine ⟨fun i n σ H => ∃ g s m, Ext g1 H1 g H ∧ Emb X.kw g m H ∧ Sr X.kw g H s σ ∧ n = xs.length - i ∧ QS X.kw Ξ g H D (forL fg f (xs.drop i) s m), ⟨xs.length, g1, s, m1, Ext.refl _ _, e1, sr.ext em x1, by simp, QS.later x1 (by simpa using q1)⟩, ?_⟩
    rintro i n σ2 H2 ⟨g2, s2, m2, x2, e2, r2, rfl, q2⟩
    by_cases hlt : i < xs.length
    · obtain ⟨h1, h2⟩ := wk.go g2 m2 H2 i x2 e2 hlt
      refine .inr ⟨h1, fun σ' H' => ∃ g s m, Ext g1 H1 g H' ∧ Emb X.kw g m H' ∧ Sr X.kw g H' s σ' ∧ QS X.kw Ξ g H' D (forL fg f (xs.drop (i + 1)) s m), ?_, ?_⟩
      · rintro σ' H' ⟨g', s', m', hx, he, hr, hq⟩
        exact ⟨xs.length - (i + 1), by omega, g', s', m', hx, he, hr, rfl, hq⟩
      · intro x H3 hy
        obtain ⟨g3, v, x3, e3, hv, rv⟩ := h2 x H3 hy
        have hd : xs.drop i = v :: xs.drop (i + 1) := by
          rw [List.drop_eq_getElem_cons hlt]
          rw [List.getElem?_eq_getElem hlt] at hv
          cases hv; rfl
        rw [hd] at q2
        refine ⟨g3, s2, m2, v, e3, r2.ext e2 x3, rv, QR.bind (QS.later x3 q2) fun p4 hp4 q4 g4 H4 σ4 x4 e4 r4 => ?_⟩
        refine ⟨g4, p4.1, p4.2, e4, r4, QR.bind (QS.later x4 q4) fun p5 hp5 q5 g5 H5 σ5 x5 e5 r5 => ?_⟩
        obtain ⟨fl, s5, m5⟩ := p5
        have xx : Ext g1 H1 g5 H5 := ((x2.trans x3).trans x4).trans x5
        cases fl with
        | nx => exact ⟨g5, s5, m5, xx, e5, r5, QS.later x5 q5⟩
        | ct => exact ⟨g5, s5, m5, xx, e5, r5, QS.later x5 q5⟩
        | bk => exact QS_nx e5 r5 (QS.later x5 q5)
        | rt v => exact q5 g5 H5 σ5 x5 e5 r5
    · have hle : xs.length ≤ i := Nat.le_of_not_lt hlt
      refine .inl ⟨wk.stop g2 m2 H2 i x2 e2 hle, ?_⟩
      rw [List.drop_of_length_le hle] at q2
      exact QS_nx e2 r2 q2

/-! what is walked -/
theorem wk_vl {g : Gh} {H : Hp} {xs : List PV} {a : Addr} {vs : List V} (ha : g.ro a = some (.lst vs)) (r : Rps K g H xs vs) {m : Mm} (em : Emb K g m H) : Wk K g H xs (Itl K a) := by
  refine ⟨fun g' m' H' i x' e' hi => ?_, fun g' m' H' i x' e' hi => ?_⟩
  · have h1 : H' a = some (.lst vs) := (e'.ro _ _ (x'.ro _ _ ha)).1
    have r' := r.ext em x'
    have hlt : i < vs.length := by rw [← r.length]; exact hi
    refine ⟨⟨vs, vs[i], SqL.of h1, List.getElem?_eq_getElem hlt⟩, fun x H2 ⟨e2, hy⟩ => ?_⟩
    subst e2
    have hx := hy vs (SqL.of h1)
    obtain ⟨v, hv, rv⟩ := r'.get' hx
    exact ⟨g', v, Ext.refl _ _, e', hv, rv⟩
  · have h1 : H' a = some (.lst vs) := (e'.ro _ _ (x'.ro _ _ ha)).1
    exact ⟨vs, SqL.of h1, by rw [← r.length]; exact hi⟩
theorem wk_tup {g : Gh} {H : Hp} {xs : List PV} {a : Addr} {vs : List V} (ha : SqT K H a vs) (r : Rps K g H xs vs) {m : Mm} (em : Emb K g m H) : Wk K g H xs (Itt K a) := by
  refine ⟨fun g' m' H' i x' e' hi => ?_, fun g' m' H' i x' e' hi => ?_⟩
  · have h1 := em.sqT x' ha
    have r' := r.ext em x'
    have hlt : i < vs.length := by rw [← r.length]; exact hi
    refine ⟨⟨vs, vs[i], h1, List.getElem?_eq_getElem hlt⟩, fun x H2 ⟨e2, hy⟩ => ?_⟩
    subst e2
    have hx := hy vs h1
    obtain ⟨v, hv, rv⟩ := r'.get' hx
    exact ⟨g', v, Ext.refl _ _, e', hv, rv⟩
  · exact ⟨vs, em.sqT x' ha, by rw [← r.length]; exact hi⟩
theorem rngL_len : ∀ (n : Nat) (lo : Int), (rngL lo n).length = n
  | 0, _ => rfl
  | n + 1, lo => by rw [rngL, List.length_cons, rngL_len n]
theorem rngL_get : ∀ (n : Nat) (lo : Int) (i : Nat), i < n → (rngL lo n)[i]? = some (.int (lo + i))
  | 0, _, i, h => absurd h (Nat.not_lt_zero i)
  | n + 1, lo, 0, _ => by simp [rngL]
  | n + 1, lo, i + 1, h => by
    rw [rngL, List.getElem?_cons_succ, rngL_get n (lo + 1) i (Nat.lt_of_succ_lt_succ h)]
    have : lo + 1 + (i : Int) = lo + ((i + 1 : Nat) : Int) := by omega
    rw [this]
theorem wk_rng {g : Gh} {H : Hp} {lo : Int} {n : Nat} : Wk K g H (rngL lo n) (Itr lo n) := by
  refine ⟨fun g' m' H' i x' e' hi => ?_, fun g' m' H' i x' e' hi => ?_⟩
  · rw [rngL_len] at hi
    refine ⟨hi, fun x H2 ⟨e2, hy⟩ => ?_⟩
    subst e2
    subst hy
    exact ⟨g', _, Ext.refl _ _, e', rngL_get n lo i hi, .int _⟩
  · rw [rngL_len] at hi; exact hi
variable {tg : Expr}
/-- a list, by a value -/
theorem si_list (h : PE X e (rdE X.kw Ξ fa)) : PI X tg e (rdI X.kw Ξ (iL fa)) :=
  PI_imp (pi_list h) fun σ H R ⟨g, s, m, em, sr, q⟩ => by
    refine ⟨g, s, m, em, sr, QR.bind q fun p hp q1 g1 H1 V x1 e1 r1 => ?_⟩
    obtain ⟨v, m1⟩ := p
    cases v with
    | vl xs => cases r1 with
      | vl ha rr => exact ⟨_, rfl, ⟨_, SqL.of (e1.ro _ _ ha).1⟩, q1 g1 H1 _ x1 e1 (wk_vl ha rr e1)⟩
    | _ => exact q1.elim
theorem si_tup (h : PE X e (rdE X.kw Ξ fa)) : PI X tg e (rdI X.kw Ξ (iT fa)) :=
  PI_imp (pi_tup h) fun σ H R ⟨g, s, m, em, sr, q⟩ => by
    refine ⟨g, s, m, em, sr, QR.bind q fun p hp q1 g1 H1 V x1 e1 r1 => ?_⟩
    obtain ⟨v, m1⟩ := p
    cases v with
    | tup xs => cases r1 with
      | tup ha rr => exact ⟨_, rfl, ⟨_, ha⟩, q1 g1 H1 _ x1 e1 (wk_tup ha rr e1)⟩
    | _ => exact q1.elim
theorem si_rng1 {p p2 : Pos} (hg : Gl X "range") (hm : X.mg "range" = none) (h : PE X e (rdE X.kw Ξ fa)) (hs : starEach [e] X.env = [(false, eval e X.env)] := by rfl) : PI X tg (.Call (.Name "range" p) [e] [] p2) (rdI X.kw Ξ (TT.iRng1 fa)) :=
  PI_imp (pi_range1 hg hm (pa_cons h pa_nil hs) hs) fun σ H R ⟨g, s, m, em, sr, q⟩ => by
    refine ⟨g, s, m, em, sr, QR.bind q fun p hp q1 g1 H1 V x1 e1 r1 => ?_⟩
    obtain ⟨v, m1⟩ := p
    cases v with
    | int j =>
      cases r1.int_inv
      simp only at q1
      split at q1
      · rename_i hc
        simp only [Bool.and_eq_true, decide_eq_true_eq] at hc
        have p62 : P62 = 2 ^ 62 := by decide
        rw [p62] at hc
        exact ⟨j, rfl, hc.1, hc.2, q1 g1 H1 _ x1 e1 wk_rng⟩
      · exact q1.elim
    | _ => exact q1.elim
theorem si_rng2 {p p2 : Pos} (hg : Gl X "range") (hm : X.mg "range" = none) (h : PE X a (rdE X.kw Ξ fa)) (h' : PE X b (rdE X.kw Ξ fb)) (hs : starEach [a, b] X.env = [(false, eval a X.env), (false, eval b X.env)] := by rfl) (hs2 : starEach [b] X.env = [(false, eval b X.env)] := by rfl) : PI X tg (.Call (.Name "range" p) [a, b] [] p2) (rdI X.kw Ξ (TT.iRng2 fa fb)) :=
  PI_imp (pi_range2 hg hm (pa_cons h (pa_cons h' pa_nil hs2) (by rw [hs, hs2])) hs hs2) fun σ H R ⟨g, s, m, em, sr, q⟩ => by
    refine ⟨g, s, m, em, sr, QR.bind q fun p hp q1 g1 H1 V x1 e1 r1 => ?_⟩
    refine ⟨g1, s, p.2, e1, sr.ext em x1, QR.bind (QR.later x1 q1 fun _ q g' H' J x => q g' H' J (x1.trans x)) fun p2 hp2 q2 g2 H2 W x2 e2 r2 => ?_⟩
    obtain ⟨v, m1⟩ := p
    obtain ⟨u, m2⟩ := p2
    simp only at q2
    split at q2
    · rename_i i j
      cases r1.int_inv; cases r2.int_inv
      split at q2
      · rename_i hc
        simp only [Bool.and_eq_true, decide_eq_true_eq] at hc
        have p62 : P62 = 2 ^ 62 := by decide
        rw [p62] at hc
        exact ⟨i, j, rfl, ⟨hc.1.1.1, hc.1.1.2, hc.1.2, hc.2⟩, q2 g2 H2 _ x2 e2 wk_rng⟩
      · exact q2.elim
    · exact q2.elim
end
end
end TT
end

section
set_option Elab.async false
set_option linter.all false
set_option autoImplicit false
set_option maxRecDepth 100000
/-! TT: comprehensions, calls, defs -/
namespace TT
open PySem PySem.Spec PyProof.Rows L2
abbrev X0 : XC := fun _ _ _ _ => False
section
variable {X : Cx} {Ξ : XC} {a b c e o : Expr} {es : List Expr} {pos : Pos} {fa fb fc : SE} {ft : ST} {K : KW}
theorem QR.nx {g : Gh} {H : Hp} {α : Type} {P : α → Prop} {r : Rs α} (h : QR K Ξ g H P r.nx) : QR K X0 g H P r := by
  cases r with
  | ok a => exact h
  | ex e m => exact h.elim
  | no => exact h
theorem QR.nxAt {g g1 : Gh} {H H1 : Hp} {α β : Type} {r : Rs α} {k : α → Rs β} {P : β → Prop} {P' : α → Prop} (h : QR K Ξ g1 H1 P (r.nx.bind k)) (f : ∀ a, r = .ok a → QR K Ξ g1 H1 P (k a) → P' a) : QR K X0 g H P' r := by
  cases r with
  | ok a => exact f a rfl h
  | ex e m => exact h.elim
  | no => exact h

/-! ### comprehensions -/
mutual
theorem Rp.mono {g g' : Gh} {H H' : Hp} (h1 : ∀ n a, g.φ n = some a → g'.φ n = some a) (h2 : ∀ a u, g.ro a = some u → g'.ro a = some u) (h3 : ∀ a xs, SqT K H a xs → SqT K H' a xs) : ∀ {v : PV} {w : V}, Rp K g H v w → Rp K g' H' v w
  | _, _, .non => .non
  | _, _, .bl b => .bl b
  | _, _, .int i => .int i
  | _, _, .str l => .str l
  | _, _, .tup h r => .tup (h3 _ _ h) (Rps.mono h1 h2 h3 r)
  | _, _, .vl h r => .vl (h2 _ _ h) (Rps.mono h1 h2 h3 r)
  | _, _, .fz h r => .fz (sqL_mono h2 h) (Rps.mono h1 h2 h3 r)
  | _, _, .ref h => .ref (h1 _ _ h)
  | _, _, .fn a => .fn a
theorem Rps.mono {g g' : Gh} {H H' : Hp} (h1 : ∀ n a, g.φ n = some a → g'.φ n = some a) (h2 : ∀ a u, g.ro a = some u → g'.ro a = some u) (h3 : ∀ a xs, SqT K H a xs → SqT K H' a xs) : ∀ {v : List PV} {w : List V}, Rps K g H v w → Rps K g' H' v w
  | _, _, .nil => .nil
  | _, _, .cons h r => .cons (Rp.mono h1 h2 h3 h) (Rps.mono h1 h2 h3 r)
end
theorem Emb.other {g : Gh} {m : Mm} {H : Hp} (e : Emb K g m H) {D : Addr} {o : HO} (h1 : ∀ n, g.φ n ≠ some D) (h2 : g.ro D = none) (h3 : ∀ xs, ¬ Rd H D (.tup xs)) (h4 : LamX.Tabs g.T (upd H D o)) : Emb K g m (upd H D o) ∧ ∀ {v w}, Rp K g H v w → Rp K g (upd H D o) v w := by
  have hT : ∀ a xs, SqT K H a xs → SqT K (upd H D o) a xs := fun a xs h => by
    rcases h with h | h
    · have : a ≠ D := fun z => h3 xs (by rw [← z]; exact h)
      rcases h with h | ⟨ob, h⟩
      · exact .inl (.inl (by rw [upd_ne this]; exact h))
      · exact .inl (.inr ⟨ob, by rw [upd_ne this]; exact h⟩)
    · exact .inr h
  have key : ∀ (v : PV) (w : V), Rp K g H v w → Rp K g (upd H D o) v w := fun v w r => r.mono (fun _ _ h => h) (fun _ _ h => h) hT
  have keys : ∀ (v : List PV) (w : List V), Rps K g H v w → Rps K g (upd H D o) v w := fun v w r => r.mono (fun _ _ h => h) (fun _ _ h => h) hT
  refine ⟨⟨fun n ob h => ?_, fun n a h => ?_, e.inj, fun a u h => ?_, e.nt, h4⟩, fun {v w} r => key v w r⟩
  · have q := e.obj n ob h
    cases ob with
    | lst ys =>
      obtain ⟨a, ws, q1, q2, q3⟩ := q
      exact ⟨a, ws, q1, by rw [upd_ne (fun z => h1 n (by rw [← z]; exact q1))]; exact q2, keys _ _ q3⟩
    | dict ys =>
      obtain ⟨a, ws, q1, q2, q3⟩ := q
      exact ⟨a, ws, q1, by rw [upd_ne (fun z => h1 n (by rw [← z]; exact q1))]; exact q2, q3.imp (key _ _)⟩
    | ins cN ys =>
      obtain ⟨a, cC, cD, ws, q1, cM, q2, q3⟩ := q
      exact ⟨a, cC, cD, ws, q1, cM, by rw [upd_ne (fun z => h1 n (by rw [← z]; exact q1))]; exact q2, q3.imp (key _ _)⟩
    | dl ys =>
      obtain ⟨a, o, ws, q1, q2, q3⟩ := q
      exact ⟨a, o, ws, q1, q2, q3.imp (key _ _)⟩
    | kd ys =>
      obtain ⟨a, ws, q1, q2, q3⟩ := q
      exact ⟨a, ws, q1, by rw [upd_ne (fun z => h1 n (by rw [← z]; exact q1))]; exact q2, q3.imp (key _ _)⟩
    | kl ys =>
      obtain ⟨a, o, ws, q1, q2, q3⟩ := q
      exact ⟨a, o, ws, q1, q2, q3.imp (key _ _)⟩
    | dead => trivial
    | tab P l => exact q
  · obtain ⟨q1, u, q2, q3⟩ := e.dom n a h
    exact ⟨q1, u, by rw [upd_ne (fun z => h1 n (by rw [← z]; exact h))]; exact q2, q3⟩
  · obtain ⟨q1, q2⟩ := e.ro a u h
    exact ⟨by rw [upd_ne (fun z => by rw [z, h2] at h; cases h)]; exact q1, q2⟩
theorem Ext.other {g g' : Gh} {H H' : Hp} {D : Addr} {o : HO} (x : Ext g H g' H') (hD : H D = none) : Ext g H g' (upd H' D o) :=
  ⟨x.phi, x.ro, fun a u h n t => by rw [upd_ne (ne_of_none h hD)]; exact x.fr a u h n t, x.old, x.oldr, x.T⟩
theorem rps_of_rp {g : Gh} {H H' : Hp} (f : ∀ {v w}, Rp K g H v w → Rp K g H' v w) : ∀ {v : List PV} {w : List V}, Rps K g H v w → Rps K g H' v w
  | _, _, .nil => .nil
  | _, _, .cons a b => .cons (f a) (rps_of_rp f b)
theorem sr_of_rp {g : Gh} {H H' : Hp} {s : Sl} {σ : L2.St} (f : ∀ {v w}, Rp K g H v w → Rp K g H' v w) (r : Sr K g H s σ) : Sr K g H' s σ :=
  ⟨r.len, fun i v h => let ⟨w, h1, h2⟩ := r.at_ i v h; ⟨w, h1, f h2⟩⟩
/-- a comprehension's reading, from its function -/
theorem rd_lc {own : List Nat} {it : SI} {fg : SG} {ft : ST} {fe : SE} {tg : TG} {σ : L2.St} {H : Hp} {Q : VK}
    (hw : ∀ (v : V) (σ : L2.St) (H : Hp) (Q : L2.St → Hp → Prop), rdG K X0 fg v (L2.wipe σ own) H Q → tg v (L2.wipe σ own) H fun (σ2 : L2.St) H2 => L2.wipe σ2 own = L2.wipe σ own ∧ Q σ2 H2)
    (h : rdE K Ξ (eLc own it fg ft fe) σ H Q) : tLc (rdI K Ξ it) tg (rdT K X0 ft) (rdE K X0 fe) own σ H Q := by
  obtain ⟨g, s, m, em, sr, q⟩ := h
  refine ⟨g, s, m, em, sr, QR.bind q fun p hp q1 g1 H1 J x1 e1 wk => ?_⟩
  obtain ⟨xs, m1⟩ := p
  intro D hD
  have q1' : QE K Ξ g1 H1 Q ((lcL fg ft fe (TT.wipe s own) xs m1 []).bind fun p => Rs.ok (PV.vl p.1, p.2)) := QE.later x1 q1
  have e0 := e1.other (o := .lst []) (fun n => e1.free hD n) (e1.freeR hD) (fun xs h => by rcases h with h | ⟨ob, h⟩ <;> rw [hD] at h <;> cases h) (tabs_new e1.tab hD)
  refine ⟨fun i n H => ∃ g m acc ws, Ext g1 H1 g H ∧ Emb K g m H ∧ Sr K g H (TT.wipe s own) (L2.wipe σ own) ∧ H D = some (.lst ws) ∧ Rps K g H acc ws ∧ (∀ n, g.φ n ≠ some D) ∧ g.ro D = none ∧ n = xs.length - i ∧
      QE K Ξ g1 H1 Q ((lcL fg ft fe (TT.wipe s own) (xs.drop i) m acc).bind fun p => Rs.ok (PV.vl p.1, p.2)), ⟨xs.length, g1, m1, [], [], (Ext.refl _ _).other hD, e0.1, sr_of_rp e0.2 ((sr.ext em x1).wipe own), upd_same, .nil, fun n => e1.free hD n, e1.freeR hD, by simp, by simpa using q1'⟩, ?_⟩
  rintro i n H2 ⟨g2, m2, acc, ws, x2, e2, r2, hD2, ra, f1, f2, rfl, q2⟩
  by_cases hlt : i < xs.length
  · obtain ⟨h1, h2⟩ := wk.go g2 m2 H2 i x2 e2 hlt
    refine .inr ⟨h1, fun H' => ∃ g m acc ws, Ext g1 H1 g H' ∧ Emb K g m H' ∧ Sr K g H' (TT.wipe s own) (L2.wipe σ own) ∧ H' D = some (.lst ws) ∧ Rps K g H' acc ws ∧ (∀ n, g.φ n ≠ some D) ∧ g.ro D = none ∧
      QE K Ξ g1 H1 Q ((lcL fg ft fe (TT.wipe s own) (xs.drop (i + 1)) m acc).bind fun p => Rs.ok (PV.vl p.1, p.2)), ?_, ?_⟩
    · rintro H' ⟨g', m', acc', ws', hx, he, hr, hd, ha, hf1, hf2, hq⟩
      exact ⟨xs.length - (i + 1), by omega, g', m', acc', ws', hx, he, hr, hd, ha, hf1, hf2, rfl, hq⟩
    · intro x H3 hy
      obtain ⟨g3, v, x3, e3, hv, rv⟩ := h2 x H3 hy
      have hd : xs.drop i = v :: xs.drop (i + 1) := by
        rw [List.drop_eq_getElem_cons hlt]
        rw [List.getElem?_eq_getElem hlt] at hv
        cases hv; rfl
      rw [hd] at q2
      simp only [lcL] at q2
      -- the bind of the whole
      have reb : ∀ {α β γ : Type} (r : Rs α) (k : α → Rs β) (l : β → Rs γ), (r.bind k).bind l = r.bind fun a => (k a).bind l := fun r k l => by cases r <;> rfl
      rw [reb] at q2
      have nL : ∀ {zs : List V}, NT (.lst zs) := fun ps z => nomatch z
      have r3 := r2.ext e2 x3
      have a3 := ra.ext e2 x3
      have d3 := x3.fr _ _ hD2 f1 nL
      have f13 := x3.old _ _ hD2 f1 nL
      have f23 := x3.oldr _ _ hD2 f1 nL f2
      have xx3 := x2.trans x3
      refine hw x σ H3 _ ⟨g3, _, m2, v, e3, r3, rv, QR.nxAt q2 fun p4 hp4 q4 g4 H4 σ4 x4 e4 r4 => ?_⟩
      obtain ⟨s4, m4⟩ := p4
      simp only at q4
      rw [reb] at q4
      have a4 := a3.ext e3 x4
      have d4 := x4.fr _ _ d3 f13 nL
      have f14 := x4.old _ _ d3 f13 nL
      have f24 := x4.oldr _ _ d3 f13 nL f23
      have w4 := r3.ext e3 x4
      have xx4 := xx3.trans x4
      refine ⟨g4, s4, m4, e4, r4, QR.nxAt q4 fun p5 hp5 q5 g5 H5 x5 e5 => ?_⟩
      obtain ⟨k, m5⟩ := p5
      have a5 := a4.ext e4 x5
      have d5 := x5.fr _ _ d4 f14 nL
      have f15 := x5.old _ _ d4 f14 nL
      have f25 := x5.oldr _ _ d4 f14 nL f24
      have w5 := w4.ext e4 x5
      have xx5 := xx4.trans x5
      cases k with
      | false =>
        refine iteF ⟨g5, m5, acc, ws, xx5, e5, w5, d5, a5, f15, f25, ?_⟩
        simpa using q5
      | true =>
        simp only [if_true] at q5
        rw [reb] at q5
        refine iteT ⟨g5, s4, m5, e5, r4.ext e4 x5, QR.nxAt q5 fun p6 hp6 q6 g6 H6 y x6 e6 ry => ?_⟩
        obtain ⟨pv, m6⟩ := p6
        simp only at q6
        have a6 := a5.ext e5 x6
        have d6 := x6.fr _ _ d5 f15 nL
        have f16 := x6.old _ _ d5 f15 nL
        have f26 := x6.oldr _ _ d5 f15 nL f25
        have w6 := w5.ext e5 x6
        have xx6 := xx5.trans x6
        by_cases hl : acc.length < LINE
        · rw [if_pos hl] at q6
          have hno : ∀ xs, ¬ Rd H6 D (.tup xs) := fun xs h => by rcases h with h | ⟨ob, h⟩ <;> rw [d6] at h <;> cases h
          have e7 := e6.other (o := .lst (ws ++ [y])) f16 f26 hno (tabs_wr e6.tab d6 nL (fun _ z => nomatch z))
          refine ⟨ws, d6, by rw [← ra.length]; exact line_lt hl, g6, m6, acc ++ [pv], ws ++ [y], xx6.other hD, e7.1, sr_of_rp e7.2 w6, upd_same, rps_of_rp e7.2 (a6.append (.cons ry .nil)), f16, f26, q6⟩
        · rw [if_neg hl] at q6
          exact q6.elim
  · have hle : xs.length ≤ i := Nat.le_of_not_lt hlt
    refine .inl ⟨wk.stop g2 m2 H2 i x2 e2 hle, ?_⟩
    rw [List.drop_of_length_le hle] at q2
    have q3 : QE K Ξ g1 H1 Q (.ok (.vl acc, m2)) := q2
    have hro : ∀ a u, g2.ro a = some u → (g2.addR D (.lst ws)).ro a = some u := fun a u h => by
      have : a ≠ D := fun z => by subst z; rw [f2] at h; cases h
      show upd g2.ro D _ a = some u
      rw [upd_ne this]; exact h
    have x3 : Ext g1 H1 (g2.addR D (.lst ws)) H2 := ⟨x2.phi, fun a u h => hro a u (x2.ro a u h), x2.fr, x2.old, fun a u h hn ht hr => by
      show upd g2.ro D _ a = none
      rw [upd_ne (ne_of_none h hD)]
      exact x2.oldr a u h hn ht hr, x2.T⟩
    have e3 : Emb K (g2.addR D (.lst ws)) m2 H2 := by
      refine ⟨fun n ob h => ?_, e2.dom, e2.inj, fun a u h => ?_, nt_addR e2.nt, e2.tab⟩
      · have q := e2.obj n ob h
        cases ob with
        | lst ys =>
          obtain ⟨a, us, q1, q2, q3⟩ := q
          exact ⟨a, us, q1, q2, Rps.mono (g := g2) (g' := g2.addR D (.lst ws)) (fun _ _ h => h) hro (fun _ _ h => h) q3⟩
        | dict ys =>
          obtain ⟨a, us, q1, q2, q3⟩ := q
          exact ⟨a, us, q1, q2, RKs.imp (g' := g2.addR D (.lst ws)) (fun r => Rp.mono (g := g2) (g' := g2.addR D (.lst ws)) (fun _ _ h => h) hro (fun _ _ h => h) r) q3⟩
        | ins cN ys =>
          obtain ⟨a, cC, cD, us, q1, cM, q2, q3⟩ := q
          exact ⟨a, cC, cD, us, q1, cM, q2, RFs.imp (g' := g2.addR D (.lst ws)) (fun r => Rp.mono (g := g2) (g' := g2.addR D (.lst ws)) (fun _ _ h => h) hro (fun _ _ h => h) r) q3⟩
        | dl ys =>
          obtain ⟨a, o, us, q1, q2, q3⟩ := q
          exact ⟨a, o, us, q1, hro _ _ q2, RKs.imp (g' := g2.addR D (.lst ws)) (fun r => Rp.mono (g := g2) (g' := g2.addR D (.lst ws)) (fun _ _ h => h) hro (fun _ _ h => h) r) q3⟩
        | kd ys =>
          obtain ⟨a, us, q1, q2, q3⟩ := q
          exact ⟨a, us, q1, q2, RND.imp (g' := g2.addR D (.lst ws)) (fun r => Rp.mono (g := g2) (g' := g2.addR D (.lst ws)) (fun _ _ h => h) hro (fun _ _ h => h) r) q3⟩
        | kl ys =>
          obtain ⟨a, o, us, q1, q2, q3⟩ := q
          exact ⟨a, o, us, q1, hro _ _ q2, RND.imp (g' := g2.addR D (.lst ws)) (fun r => Rp.mono (g := g2) (g' := g2.addR D (.lst ws)) (fun _ _ h => h) hro (fun _ _ h => h) r) q3⟩
        | dead => trivial
        | tab P l => exact q
      · have h' : upd g2.ro D (.lst ws) a = some u := h
        by_cases ha : a = D
        · subst ha
          rw [upd_same] at h'; cases h'
          exact ⟨hD2, fun n hn => (f1 n hn).elim⟩
        · rw [upd_ne ha] at h'
          exact e2.ro a u h'
    exact q3 _ _ _ x3 e3 (.vl upd_same (Rps.mono (g := g2) (g' := g2.addR D (.lst ws)) (fun _ _ h => h) hro (fun _ _ h => h) ra))
theorem wipe_set {σ : L2.St} {i : Nat} {x : Option V} : ∀ {own : List Nat}, i ∈ own → L2.wipe ((L2.wipe σ own).set i x) own = L2.wipe σ own := by
  intro own hi
  apply List.ext_getElem?
  intro j
  have hw : ∀ (σ : L2.St) (own : List Nat) (j : Nat), (L2.wipe σ own)[j]? = if j ∈ own then (if j < σ.length then some none else none) else σ[j]? := by
    intro σ own
    induction own with
    | nil => intro j; simp [L2.wipe]
    | cons v vs ih =>
      intro j
      unfold L2.wipe
      by_cases hv : v = j
      · subst hv
        simp only [List.mem_cons, true_or, if_true]
        by_cases hl : v < σ.length
        · rw [List.getElem?_set_self (by rw [L2.wipe_length]; exact hl), if_pos hl]
        · rw [List.getElem?_eq_none (by rw [List.length_set, L2.wipe_length]; omega), if_neg hl]
      · rw [List.getElem?_set_ne hv, ih j]
        simp only [List.mem_cons, Ne.symm hv, false_or]
  rw [hw, hw]
  by_cases hj : j ∈ own
  · rw [if_pos hj, if_pos hj, List.length_set, L2.wipe_length]
  · rw [if_neg hj, if_neg hj, List.getElem?_set_ne (fun z => hj (by rw [← z]; exact hi)), hw, if_neg hj]
/-- [e for x in xs if t], one name -/
theorem rd_lcN {own : List Nat} {it : SI} {i : Nat} {ft : ST} {fe : SE} (hi : i ∈ own) {σ : L2.St} {H : Hp} {Q : VK}
    (h : rdE K Ξ (eLc own it (TT.gName i) ft fe) σ H Q) : tLc (rdI K Ξ it) (L2.gName i) (rdT K X0 ft) (rdE K X0 fe) own σ H Q :=
  rd_lc (fun v σ H Q ⟨g, s, m, pv, em, sr, rv, q⟩ =>
    ⟨wipe_set hi, q g H _ (Ext.refl _ _) em (sr.set rv i)⟩) h
theorem se_lc {elt iter : Expr} {ifs : List Expr} {scope : Scope} {own : List (Str × Nat)} {oi : List Nat} {x : Str} {px : Pos} {it : SI} (i : Nat) {fe : SE} (hc : X.calm = true) (hN : X.N.Nodup) (hi : PI X (.Name x px) iter (rdI X.kw Ξ it)) (ok : BlkOk X.N X.env.scope scope own)
    (hg : ∀ (s : Shared) (H : Hp) (C : Addr) (cl : List (Str × Addr)) (fp : List Addr), PG (X.blk s H scope (compEnvC scope cl C X.env) fp) (.Name x px) (L2.gName i)) (ht : ∀ (s : Shared) (H : Hp) (C : Addr) (cl : List (Str × Addr)) (fp : List Addr), PTs (X.blk s H scope (compEnvC scope cl C X.env) fp) ifs (rdT X.kw X0 ft))
    (he : ∀ (s : Shared) (H : Hp) (C : Addr) (cl : List (Str × Addr)) (fp : List Addr), PE (X.blk s H scope (compEnvC scope cl C X.env) fp) elt (rdE X.kw X0 fe)) (hs : ∀ x, foldedSetIterable iter X.env x = pure x := by intro _; rfl) (ho : own.map (·.2) = oi := by rfl) (hm : i ∈ own.map (·.2) := by decide) :
    PE X (.ListComp elt [⟨.Name x px, iter, ifs, 0⟩] scope pos) (rdE X.kw Ξ (eLc oi it (TT.gName i) ft fe)) := by
  subst ho
  exact PE_imp (pe_lc hc hN hi ok hg ht he hs) fun σ H Q h => rd_lcN hm h
/-- y = [..] -/
theorem ss_setLc {elt iter : Expr} {ifs : List Expr} {scope : Scope} {own : List (Str × Nat)} {oi : List Nat} {x y : Str} {px py spos : Pos} {it : SI} (iy i : Nat) {fe : SE} (hc : X.calm = true) (hN : X.N.Nodup) (hi : PI X (.Name x px) iter (rdI X.kw Ξ it)) (ok : BlkOk X.N X.env.scope scope own)
    (hg : ∀ (s : Shared) (H : Hp) (C : Addr) (cl : List (Str × Addr)) (fp : List Addr), PG (X.blk s H scope (compEnvC scope cl C X.env) fp) (.Name x px) (L2.gName i)) (ht : ∀ (s : Shared) (H : Hp) (C : Addr) (cl : List (Str × Addr)) (fp : List Addr), PTs (X.blk s H scope (compEnvC scope cl C X.env) fp) ifs (rdT X.kw X0 ft))
    (he : ∀ (s : Shared) (H : Hp) (C : Addr) (cl : List (Str × Addr)) (fp : List Addr), PE (X.blk s H scope (compEnvC scope cl C X.env) fp) elt (rdE X.kw X0 fe)) (hsw : swapsWith (.ListComp elt [⟨.Name x px, iter, ifs, 0⟩] scope pos) (some (.Name y py)) spos.line X.env = pure true)
    (hy : X.N[iy]? = some y := by rfl) (hyl : X.env.scope.names.lookup y = some .local := by rfl) (hs : ∀ x, foldedSetIterable iter X.env x = pure x := by intro _; rfl) (ho : own.map (·.2) = oi := by rfl) (hm : i ∈ own.map (·.2) := by decide) :
    PS X (.Assign [.Name y py] (.ListComp elt [⟨.Name x px, iter, ifs, 0⟩] scope pos) spos) (rdS X.kw Ξ (sAsg (eLc oi it (TT.gName i) ft fe) (TT.gName iy))) := by
  subst ho
  exact PS_imp (ps_setLc hc hN hy hyl hsw hi ok hg ht he hs) fun D σ H ⟨g, s, m, em, sr, q⟩ => by
    refine rd_lcN (Ξ := Ξ) hm ⟨g, s, m, em, sr, QR.bind q fun p hp q1 g1 H1 V x1 e1 r1 => ?_⟩
    exact QS_nx e1 ((sr.ext em x1).set r1 iy) (QS.later x1 q1)
theorem sts_nil : PTs X [] (rdT X.kw Ξ TT.tYes) := ⟨fun pins s σ H Q I ⟨g, sl, m, em, sr, q⟩ => pts_nil.run pins s σ H Q I (q g H (Ext.refl _ _) em)⟩
theorem sts_one (h : PT X c (rdT X.kw Ξ ft)) : PTs X [c] (rdT X.kw Ξ ft) := pts_one h

/-! ### defs -/
/-- what a def promises: by the whole memory -/
def spI (K : KW) (n : Nat) (F : IF) : Sp := fun vs H Q _ => ∃ g m as, as.length = n ∧ Emb K g m H ∧ Rps K g H as vs ∧ QE K X0 g H Q (cI F as m)
/-- .. by values -/
def spP (K : KW) (n : Nat) (F : PF) : Sp := fun vs H Q _ => ∃ g m as, as.length = n ∧ Emb K g m H ∧ Rps K g H as vs ∧ QE K X0 g H Q (cP F as m)
theorem spI_len {K : KW} {n : Nat} {F : IF} {vs : List V} {H : Hp} {Q : VK} {E : XK} (h : spI K n F vs H Q E) : vs.length = n := by
  obtain ⟨g, m, as, hl, _, r, _⟩ := h
  rw [← r.length, hl]
theorem start_sr {g : Gh} {H : Hp} {N : List Str} {as : List PV} {vs : List V} (r : Rps K g H as vs) (hl : as.length ≤ N.length) : Sr K g H (startS N.length as) (L2.start N vs) := by
  refine ⟨?_, fun i v h => ?_⟩
  · unfold startS L2.start
    simp [r.length]
  · unfold startS at h
    unfold L2.start
    by_cases hi : i < as.length
    · rw [List.getElem?_append_left (by simpa using hi), List.getElem?_map] at h
      cases q : as[i]? with
      | none => rw [q] at h; cases h
      | some u =>
        rw [q] at h; cases h
        obtain ⟨w, h1, h2⟩ := r.get q
        refine ⟨w, ?_, h2⟩
        rw [List.getElem?_append_left (by simp [← r.length]; exact hi), List.getElem?_map, h1]
        rfl
    · rw [List.getElem?_append_right (by simpa using hi), List.getElem?_replicate] at h
      split at h <;> cases h
/-- from a body's function to the body's reading -/
theorem body_rd {g : Gh} {m : Mm} {H : Hp} {N : List Str} {as : List PV} {vs : List V} {Q : VK} {b : SS} (em : Emb K g m H) (r : Rps K g H as vs) (hN : as.length ≤ N.length) (q : QE K X0 g H Q (cI (bodyI N.length as.length b) as m)) :
    rdS K X0 b { nx := fun _ H' => Q .non H', rt := Q } (L2.start N vs) H := by
  refine ⟨g, startS N.length as, m, em, start_sr r hN, ?_⟩
  unfold cI bodyI at q
  rw [if_pos rfl] at q
  cases hr : b (startS N.length as) m with
  | ok p =>
    obtain ⟨fl, s, m1⟩ := p
    rw [hr] at q
    cases fl with
    | nx => exact fun g1 H1 σ1 x1 e1 r1 => q g1 H1 .non x1 e1 .non
    | rt v => exact fun g1 H1 σ1 x1 e1 r1 V rv => q g1 H1 V x1 e1 rv
    | bk => exact q.elim
    | ct => exact q.elim
  | ex e m1 => rw [hr] at q; exact q.elim
  | no => rw [hr] at q; exact q.elim
section
variable {P : Program} {w : World} {mg : Str → Option Value} {base : Heap}
/-- THE RULE for a def, by its body's function -/
theorem defI {x qual : Str} {st : Stmt} {f : Addr} {fd : FuncData} {N ps : List Str} {k : Nat} {b : SS} (F : Fun K x qual st f fd) (S : FnScope N ps (defScope st)) (hN : ps.length ≤ N.length)
    (hbody : ∀ (cdv : Value) (A : Around) (outer : List Env) (s : Shared) (H : Hp) (E : XK), Room k (A.deeper (envOfC qual (defScope st) s.heap.objs.size f cdv)) →
      PSs (cxOf CX0 P w K mg base N qual (defScope st) f cdv A outer s H E).nox (defBody st) (rdS K X0 b)) : FnOk P w K mg base CX0 (k + 1) f fd ps (spI K ps.length (bodyI N.length ps.length b)) :=
  F.ok S (fun _ _ _ _ h => spI_len h) fun cdv A outer s H vs Q E hr ⟨g, m, as, hl, em, r, q⟩ => ⟨_, hbody cdv A outer s H E hr, body_rd em r (by rw [hl]; exact hN) (by rw [hl]; exact q)⟩
end
end
end TT
end

section
set_option Elab.async false
set_option linter.all false
set_option autoImplicit false
set_option maxRecDepth 100000
/-! TT: defs by values, calls, walks over zip, more built-ins -/
namespace TT
open PySem PySem.Spec PyProof.Rows L2
section
variable {K : KW} {g g' : Gh} {m m' : Mm} {H H' : Hp}
mutual
/-- a value without refs does not lean on where the memory stands -/
theorem Rp.pure {φ' : Nat → Option Addr} : ∀ {v : PV} {w : V}, v.pu = true → Rp K g H v w → Rp K ⟨φ', g.ro, g.T⟩ H v w
  | _, _, _, .non => .non
  | _, _, _, .bl b => .bl b
  | _, _, _, .int i => .int i
  | _, _, _, .str l => .str l
  | _, _, h, .tup a r => .tup a (Rps.pure (by simpa only [PV.pu] using h) r)
  | _, _, h, .vl a r => .vl a (Rps.pure (by simpa only [PV.pu] using h) r)
  | _, _, h, .fz a r => .fz a (Rps.pure (by simpa only [PV.pu] using h) r)
  | _, _, h, .ref _ => by simp only [PV.pu] at h; cases h
  | _, _, _, .fn a => .fn a
theorem Rps.pure {φ' : Nat → Option Addr} : ∀ {v : List PV} {w : List V}, pus v = true → Rps K g H v w → Rps K ⟨φ', g.ro, g.T⟩ H v w
  | _, _, _, .nil => .nil
  | _, _, h, .cons a r => by
    simp only [pus, Bool.and_eq_true] at h
    exact .cons (Rp.pure h.1 a) (Rps.pure h.2 r)
end
open Classical in
/-- all that lives in the memory is read only from now on -/
noncomputable def roAll (g : Gh) (H : Hp) : Hp := fun a => match g.ro a with
  | some u => some u
  | none => if (∃ n, g.φ n = some a) ∧ ∀ ps, H a ≠ some (.tbl ps) then H a else none
theorem roAll_old {a : Addr} {u : HO} (h : g.ro a = some u) : roAll g H a = some u := by unfold roAll; rw [h]
theorem roAll_new (e : Emb K g m H) {a : Addr} {n : Nat} {u : HO} (h : g.φ n = some a) (hu : H a = some u) (ht : NT u) : roAll g H a = some u := by
  unfold roAll
  cases q : g.ro a with
  | some v =>
    have := (e.ro a v q).1
    rw [hu] at this; cases this; rfl
  | none => simp only; rw [if_pos ⟨⟨n, h⟩, fun ps z => ht ps (by rw [hu] at z; exact Option.some.inj z)⟩, hu]
theorem roAll_inv {a : Addr} {u : HO} (h : roAll g H a = some u) : g.ro a = some u ∨ (g.ro a = none ∧ ((∃ n, g.φ n = some a) ∧ ∀ ps, H a ≠ some (.tbl ps)) ∧ H a = some u) := by
  unfold roAll at h
  split at h
  · rename_i v hv; cases h; exact .inl hv
  · rename_i hv
    split at h
    · rename_i hc; exact .inr ⟨hv, hc, h⟩
    · cases h
theorem frzs_rp (e : Emb K g m H) {f : PV → Option PV} {φ' : Nat → Option Addr} (hf : ∀ v w v', Rp K g H v w → f v = some v' → Rp K ⟨φ', roAll g H, g.T⟩ H v' w) : ∀ {xs : List PV} {ws : List V} {ys : List PV}, Rps K g H xs ws → frz.frzs f xs = some ys → Rps K ⟨φ', roAll g H, g.T⟩ H ys ws
  | [], _, _, .nil, h => by cases h; exact .nil
  | x :: xs, _, ys, .cons a r, h => by
    simp only [frz.frzs] at h
    split at h
    · rename_i y zs h1 h2
      cases h
      exact .cons (hf _ _ _ a h1) (frzs_rp e hf r h2)
    · cases h
theorem frz_rp (e : Emb K g m H) {φ' : Nat → Option Addr} : ∀ (k : Nat) (v : PV) (w : V) (v' : PV), Rp K g H v w → frz k m v = some v' → Rp K ⟨φ', roAll g H, g.T⟩ H v' w
  | 0, v, w, v', r, h => by
    unfold frz at h
    split at h
    · rename_i hp
      cases h
      exact Rp.mono (g := ⟨φ', g.ro, g.T⟩) (g' := ⟨φ', roAll g H, g.T⟩) (fun _ _ h => h) (fun _ _ h => roAll_old h) (fun _ _ h => h) (Rp.pure (φ' := φ') hp r)
    · cases h
  | k + 1, v, w, v', r, h => by
    unfold frz at h
    split at h
    · rename_i hp
      cases h
      exact Rp.mono (g := ⟨φ', g.ro, g.T⟩) (g' := ⟨φ', roAll g H, g.T⟩) (fun _ _ h => h) (fun _ _ h => roAll_old h) (fun _ _ h => h) (Rp.pure (φ' := φ') hp r)
    · split at h
      · rename_i n
        split at h
        · rename_i xs hx
          obtain ⟨a, rfl, hn⟩ := r.ref_inv
          obtain ⟨a', vs, h1, h2, h3⟩ := e.obj _ _ hx
          rw [hn] at h1; cases h1
          cases hq : frz.frzs (frz k m) xs with
          | none => rw [hq] at h; cases h
          | some ys =>
            rw [hq] at h; cases h
            exact .vl (roAll_new e hn h2 (fun _ z => nomatch z)) (frzs_rp e (fun v w v' r h => frz_rp e k v w v' r h) h3 hq)
        · cases h
      · rename_i xs _
        obtain ⟨a, vs, rfl, ha, r1⟩ := r.tup_inv
        cases hq : frz.frzs (frz k m) xs with
        | none => rw [hq] at h; cases h
        | some ys =>
          rw [hq] at h; cases h
          exact .tup ha (frzs_rp e (fun v w v' r h => frz_rp e k v w v' r h) r1 hq)
      · cases h
/-- behind a def that was run in a memory of its own -/
theorem after_own {φ₀ : Gh} (e : Emb K g m H) (h0 : φ₀ = ⟨fun _ => none, g.ro, g.T⟩) {g1 : Gh} {m1 : Mm} {H1 : Hp} (x : Ext φ₀ H g1 H1) (e1 : Emb K g1 m1 H1) :
    Ext g H ⟨g.φ, roAll g1 H1, g.T⟩ H1 ∧ Emb K ⟨g.φ, roAll g1 H1, g.T⟩ m H1 := by
  subst h0
  have fr : ∀ a u, H a = some u → NT u → H1 a = some u := fun a u h => x.fr a u h (fun n z => nomatch z)
  have out : ∀ a u, H a = some u → NT u → ∀ n, g1.φ n ≠ some a := fun a u h => x.old a u h (fun n z => nomatch z)
  have xx : Ext g H ⟨g.φ, roAll g1 H1, g.T⟩ H1 := by
    refine ⟨fun _ _ h => h, fun a u h => roAll_old (x.ro a u h), fun a u h _ t => fr a u h t, fun a u h hn _ => hn, fun a u h hn ht hr => ?_, rfl⟩
    have q := x.oldr a u h (fun n z => nomatch z) ht hr
    show roAll g1 H1 a = none
    cases z : roAll g1 H1 a with
    | none => rfl
    | some v =>
      rcases roAll_inv z with z | ⟨_, ⟨⟨n, z⟩, _⟩, _⟩
      · rw [q] at z; cases z
      · exact (out a u h ht n z).elim
  refine ⟨xx, ⟨fun n o h => ?_, fun n a h => ?_, e.inj, fun a u h => ?_, fun a u h => ?_, by have t := e1.tab; rw [x.T] at t; exact t⟩⟩
  · have q := e.obj n o h
    cases o with
    | lst ys =>
      obtain ⟨a, ws, q1, q2, q3⟩ := q
      exact ⟨a, ws, q1, fr _ _ q2 (fun _ z => nomatch z), q3.ext e xx⟩
    | dict ys =>
      obtain ⟨a, ws, q1, q2, q3⟩ := q
      exact ⟨a, ws, q1, fr _ _ q2 (fun _ z => nomatch z), q3.ext e xx⟩
    | ins cN ys =>
      obtain ⟨a, cC, cD, ws, q1, cM, q2, q3⟩ := q
      exact ⟨a, cC, cD, ws, q1, cM, fr _ _ q2 (fun _ z => nomatch z), q3.ext e xx⟩
    | dl ys =>
      obtain ⟨a, o, ws, q1, q2, q3⟩ := q
      exact ⟨a, o, ws, q1, xx.ro _ _ q2, q3.ext e xx⟩
    | kd ys =>
      obtain ⟨a, ws, q1, q2, q3⟩ := q
      exact ⟨a, ws, q1, fr _ _ q2 kd_nt, q3.ext e xx⟩
    | kl ys =>
      obtain ⟨a, o, ws, q1, q2, q3⟩ := q
      exact ⟨a, o, ws, q1, xx.ro _ _ q2, q3.ext e xx⟩
    | dead => trivial
    | tab P l => exact q
  · obtain ⟨q1, u, q2, q3⟩ := e.dom n a h
    exact ⟨q1, u, fr _ _ q2 (nt_mutl q3), q3⟩
  · have h' : roAll g1 H1 a = some u := h
    have key : H1 a = some u := by
      rcases roAll_inv h' with z | ⟨_, _, z⟩
      · exact (e1.ro a u z).1
      · exact z
    refine ⟨key, fun n hn => ?_⟩
    have hn' : g.φ n = some a := hn
    obtain ⟨_, v, hv, hmu⟩ := e.dom n a hn'
    cases hr : g.ro a with
    | some u' => exact (e.ro a u' hr).2 n hn'
    | none =>
      have q := x.oldr a v hv (fun n z => nomatch z) (nt_mutl hmu) hr
      rcases roAll_inv h' with z | ⟨_, ⟨⟨k, z⟩, _⟩, _⟩
      · rw [q] at z; cases z
      · exact (out a v hv (nt_mutl hmu) k z).elim
  · have h' : roAll g1 H1 a = some u := h
    rcases roAll_inv h' with z | ⟨_, ⟨_, z⟩, z2⟩
    · exact e1.nt a u z
    · exact fun ps z3 => z ps (by rw [z2, z3])
theorem emb_own (e : Emb K g m H) : Emb K ⟨fun _ => none, g.ro, g.T⟩ [] H :=
  ⟨(fun n o h => by simp at h), (fun n a h => nomatch h), (fun n k a h _ => nomatch h), (fun a u h => ⟨(e.ro a u h).1, (fun n z => nomatch z)⟩), e.nt, e.tab⟩
end

/-! ### promises -/
section
variable {P : Program} {w : World} {K : KW} {mg : Str → Option Value} {base : Heap} {CX : CXT} {k : Nat} {f : Addr} {fd : FuncData} {ps : List Str}
/-- by values, from the body -/
theorem spP_of {n N : Nat} {b : SS} {vs : List V} {H : Hp} {Q : VK} {E : XK} (h : spP K n (bodyP N n b) vs H Q E) : spI K n (bodyI N n b) vs H Q E := by
  obtain ⟨g, m, as, hl, em, r, q⟩ := h
  unfold cP at q
  by_cases hp : pus as = true
  · rw [if_pos hp] at q
    refine ⟨⟨fun _ => none, g.ro, g.T⟩, [], as, hl, emb_own em, Rps.pure hp r, ?_⟩
    unfold bodyP at q
    unfold cI
    cases hr : bodyI N n b as [] with
    | ok p =>
      obtain ⟨v, m1⟩ := p
      rw [hr] at q
      simp only at q
      intro g1 H1 V x1 e1 r1
      cases hf : frz 4 m1 v with
      | none => rw [hf] at q; exact q.elim
      | some v' =>
        rw [hf] at q
        obtain ⟨xx, ee⟩ := after_own em rfl x1 e1
        have r2 := frz_rp (φ' := g.φ) e1 4 v V v' r1 hf
        rw [x1.T] at r2
        exact q ⟨g.φ, roAll g1 H1, g.T⟩ H1 V xx ee r2
    | ex e m1 => rw [hr] at q; exact q.elim
    | no => rw [hr] at q; exact q.elim
  · rw [if_neg hp] at q; exact q.elim
theorem FnOk.toP {n N : Nat} {b : SS} (F : FnOk P w K mg base CX k f fd ps (spI K n (bodyI N n b))) : FnOk P w K mg base CX k f fd ps (spP K n (bodyP N n b)) := F.imp fun _ _ _ _ => spP_of
/-- a mirror of a def by values -/
theorem FnOk.mirP {n : Nat} {F G : PF} (h : FnOk P w K mg base CX k f fd ps (spP K n F)) (i : ∀ as v, as.length = n → G as = .ok v → F as = .ok v) : FnOk P w K mg base CX k f fd ps (spP K n G) :=
  h.imp fun vs H Q E ⟨g, m, as, hl, em, r, q⟩ => ⟨g, m, as, hl, em, r, by
    unfold cP at q ⊢
    split at q
    · rename_i hp
      rw [if_pos hp]
      cases hr : G as with
      | ok v => rw [hr] at q; rw [i as v hl hr]; exact q
      | ex e m => rw [hr] at q; exact q.elim
      | no => rw [hr] at q; exact q.elim
    · exact q.elim⟩
mutual
theorem Rp.belo {g g' : Gh} {H : Hp} (hro : g'.ro = g.ro) : ∀ {v : PV} {w : V}, v.pu = true → Rp K g H v w → Rp K g' H v w
  | _, _, _, .non => .non
  | _, _, _, .bl b => .bl b
  | _, _, _, .int i => .int i
  | _, _, _, .str l => .str l
  | _, _, h, .tup a r => .tup a (Rps.belo hro (by simpa only [PV.pu] using h) r)
  | _, _, h, .vl a r => .vl (by rw [hro]; exact a) (Rps.belo hro (by simpa only [PV.pu] using h) r)
  | _, _, h, .fz a r => .fz (by rw [hro]; exact a) (Rps.belo hro (by simpa only [PV.pu] using h) r)
  | _, _, h, .ref _ => by simp only [PV.pu] at h; cases h
  | _, _, _, .fn a => .fn a
theorem Rps.belo {g g' : Gh} {H : Hp} (hro : g'.ro = g.ro) : ∀ {v : List PV} {w : List V}, pus v = true → Rps K g H v w → Rps K g' H v w
  | _, _, _, .nil => .nil
  | _, _, h, .cons a r => by
    simp only [pus, Bool.and_eq_true] at h
    exact .cons (Rp.belo hro h.1 a) (Rps.belo hro h.2 r)
end
mutual
theorem Rp.dom2 {g g1 : Gh} {H H1 : Hp} (h : ∀ n a, g.φ n = some a → g1.φ n = some a) : ∀ {v : PV} {w w1 : V}, Rp K g H v w → Rp K g1 H1 v w1 → Rp K ⟨g.φ, g1.ro, g.T⟩ H1 v w1
  | _, _, _, _, .non => .non
  | _, _, _, _, .bl b => .bl b
  | _, _, _, _, .int i => .int i
  | _, _, _, _, .str l => .str l
  | _, _, _, .tup _ r, .tup a r1 => .tup a (Rps.dom2 h r r1)
  | _, _, _, .vl _ r, .vl a r1 => .vl a (Rps.dom2 h r r1)
  | _, _, _, .fz _ r, .fz a r1 => .fz a (Rps.dom2 h r r1)
  | _, _, _, .ref q, .ref q1 => .ref (by have := h _ _ q; rw [q1] at this; cases this; exact q)
  | _, _, _, .fn a, .fn _ => .fn a
theorem Rps.dom2 {g g1 : Gh} {H H1 : Hp} (h : ∀ n a, g.φ n = some a → g1.φ n = some a) : ∀ {v : List PV} {w w1 : List V}, Rps K g H v w → Rps K g1 H1 v w1 → Rps K ⟨g.φ, g1.ro, g.T⟩ H1 v w1
  | _, _, _, .nil, .nil => .nil
  | _, _, _, .cons a r, .cons a1 r1 => .cons (Rp.dom2 h a a1) (Rps.dom2 h r r1)
end
theorem RKs.belo {g g' : Gh} {H : Hp} (hro : g'.ro = g.ro) : ∀ {v : List (PV × PV)} {w : List (Key × V)}, pud v = true → RKs K g H v w → RKs K g' H v w
  | _, _, _, .nil => .nil
  | _, _, h, .cons k a r => by
    simp only [pud, Bool.and_eq_true] at h
    exact .cons k (Rp.belo hro h.1.2 a) (RKs.belo hro h.2 r)
theorem RKs.dom2 {g g1 : Gh} {H H1 : Hp} (h : ∀ n a, g.φ n = some a → g1.φ n = some a) : ∀ {v : List (PV × PV)} {w w1 : List (Key × V)}, RKs K g H v w → RKs K g1 H1 v w1 → RKs K ⟨g.φ, g1.ro, g.T⟩ H1 v w1
  | _, _, _, .nil, .nil => .nil
  | _, _, _, .cons k a r, .cons k1 a1 r1 => .cons k1 (Rp.dom2 h a a1) (RKs.dom2 h r r1)
theorem RFs.belo {g g' : Gh} {H : Hp} (hro : g'.ro = g.ro) : ∀ {v : List (List Nat × PV)} {w : List (Str × V)}, (v.all fun p => p.2.pu) = true → RFs K g H v w → RFs K g' H v w
  | _, _, _, .nil => .nil
  | _, _, h, .cons a r => by
    simp only [List.all_cons, Bool.and_eq_true] at h
    exact .cons (Rp.belo hro h.1 a) (RFs.belo hro h.2 r)
theorem RFs.dom2 {g g1 : Gh} {H H1 : Hp} (h : ∀ n a, g.φ n = some a → g1.φ n = some a) : ∀ {v : List (List Nat × PV)} {w w1 : List (Str × V)}, RFs K g H v w → RFs K g1 H1 v w1 → RFs K ⟨g.φ, g1.ro, g.T⟩ H1 v w1
  | _, _, _, .nil, .nil => .nil
  | _, _, _, .cons a r, .cons a1 r1 => .cons (Rp.dom2 h a a1) (RFs.dom2 h r r1)
theorem RND.belo {g g' : Gh} {H : Hp} (hro : g'.ro = g.ro) : ∀ {v : List (PV × PV)} {w : List (NestedKey × Addr × V)}, pud v = true → RND K g H v w → RND K g' H v w
  | _, _, _, .nil => .nil
  | _, _, h, .cons y k a r => by
    simp only [pud, Bool.and_eq_true] at h
    exact .cons y (Rp.belo hro h.1.1 k) (Rp.belo hro h.1.2 a) (RND.belo hro h.2 r)
theorem RND.dom2 {g g1 : Gh} {H H1 : Hp} (h : ∀ n a, g.φ n = some a → g1.φ n = some a) : ∀ {v : List (PV × PV)} {w w1 : List (NestedKey × Addr × V)}, RND K g H v w → RND K g1 H1 v w1 → RND K ⟨g.φ, g1.ro, g.T⟩ H1 v w1
  | _, _, _, .nil, .nil => .nil
  | _, _, _, .cons _ k a r, .cons y k1 a1 r1 => .cons y (Rp.dom2 h k k1) (Rp.dom2 h a a1) (RND.dom2 h r r1)
/-- an object as it was, or a list that holds no refs now -/
def Calm1 (m m1 : Mm) : Prop := ∀ (n : Nat) (o : Ob), m1[n]? = some o → m[n]? = some o ∨ (o.pu = true ∧ ∃ xs, m[n]? = some (.lst xs))
/-- the memory's last objects are forgotten -/
theorem Emb.trim {g g1 : Gh} {m m1 gar : Mm} {H H1 : Hp} (e : Emb K g m H) (x : Ext g H g1 H1) (e1 : Emb K g1 (m1 ++ gar) H1) (hl : m1.length = m.length) (hp : Calm1 m m1) :
    ∃ g2, Ext g H g2 H1 ∧ Emb K g2 m1 H1 ∧ ∀ v w, v.pu = true → Rp K g1 H1 v w → Rp K g2 H1 v w := by
  refine ⟨⟨g.φ, g1.ro, g.T⟩, ?_, ⟨fun n o h => ?_, fun n a h => ?_, fun n k a h1 h2 => e.inj n k a h1 h2, fun a u h => ?_, e1.nt, by have t := e1.tab; rw [x.T] at t; exact t⟩, fun v w hv r => Rp.belo (g := g1) (g' := ⟨g.φ, g1.ro, g.T⟩) rfl hv r⟩
  · exact ⟨fun _ _ h => h, x.ro, x.fr, fun a u h hn _ => hn, x.oldr, rfl⟩
  · have hlt : n < m1.length := (List.getElem?_eq_some_iff.mp h).1
    have q := e1.obj n o (by rw [List.getElem?_append_left hlt]; exact h)
    cases o with
    | lst ys =>
      obtain ⟨a, ws, q1, q2, q3⟩ := q
      rcases hp n _ h with z | ⟨z, xs, zx⟩
      · obtain ⟨a', vs, p1, p2, p3⟩ := e.obj n _ z
        have e' := x.phi _ _ p1
        rw [q1] at e'; cases e'
        exact ⟨a, ws, p1, q2, Rps.dom2 x.phi p3 q3⟩
      · obtain ⟨a', vs, p1, p2, p3⟩ := e.obj n _ zx
        have e' := x.phi _ _ p1
        rw [q1] at e'; cases e'
        exact ⟨a, ws, p1, q2, Rps.belo (g := g1) (g' := ⟨g.φ, g1.ro, g.T⟩) rfl (by simpa only [Ob.pu] using z) q3⟩
    | dict ys =>
      obtain ⟨a, ws, q1, q2, q3⟩ := q
      rcases hp n _ h with z | ⟨z, xs, zx⟩
      · obtain ⟨a', vs, p1, p2, p3⟩ := e.obj n _ z
        have e' := x.phi _ _ p1
        rw [q1] at e'; cases e'
        exact ⟨a, ws, p1, q2, RKs.dom2 x.phi p3 q3⟩
      · obtain ⟨a', vs, p1, p2, p3⟩ := e.obj n _ zx
        have e' := x.phi _ _ p1
        rw [q1] at e'; cases e'
        exact ⟨a, ws, p1, q2, RKs.belo (g := g1) (g' := ⟨g.φ, g1.ro, g.T⟩) rfl (by simpa only [Ob.pu] using z) q3⟩
    | ins cN ys =>
      obtain ⟨a, C, dx, ws, q1, qm, q2, q3⟩ := q
      rcases hp n _ h with z | ⟨z, xs, zx⟩
      · obtain ⟨a', C', dx', vs, p1, pm, p2, p3⟩ := e.obj n _ z
        have e' := x.phi _ _ p1
        rw [q1] at e'; cases e'
        exact ⟨a, C, dx, ws, p1, qm, q2, RFs.dom2 x.phi p3 q3⟩
      · obtain ⟨a', vs, p1, p2, p3⟩ := e.obj n _ zx
        have e' := x.phi _ _ p1
        rw [q1] at e'; cases e'
        exact ⟨a, C, dx, ws, p1, qm, q2, RFs.belo (g := g1) (g' := ⟨g.φ, g1.ro, g.T⟩) rfl (by simpa only [Ob.pu] using z) q3⟩
    | dl ys =>
      obtain ⟨a, o, ws, q1, q2, q3⟩ := q
      rcases hp n _ h with z | ⟨z, xs, zx⟩
      · obtain ⟨a', o', vs, p1, p2, p3⟩ := e.obj n _ z
        have e' := x.phi _ _ p1
        rw [q1] at e'; cases e'
        exact ⟨a, o, ws, p1, q2, RKs.dom2 x.phi p3 q3⟩
      · obtain ⟨a', vs, p1, p2, p3⟩ := e.obj n _ zx
        have e' := x.phi _ _ p1
        rw [q1] at e'; cases e'
        exact ⟨a, o, ws, p1, q2, RKs.belo (g := g1) (g' := ⟨g.φ, g1.ro, g.T⟩) rfl (by simpa only [Ob.pu] using z) q3⟩
    | kd ys =>
      obtain ⟨a, ws, q1, q2, q3⟩ := q
      rcases hp n _ h with z | ⟨z, xs, zx⟩
      · obtain ⟨a', vs, p1, p2, p3⟩ := e.obj n _ z
        have e' := x.phi _ _ p1
        rw [q1] at e'; cases e'
        exact ⟨a, ws, p1, q2, RND.dom2 x.phi p3 q3⟩
      · obtain ⟨a', vs, p1, p2, p3⟩ := e.obj n _ zx
        have e' := x.phi _ _ p1
        rw [q1] at e'; cases e'
        exact ⟨a, ws, p1, q2, RND.belo (g := g1) (g' := ⟨g.φ, g1.ro, g.T⟩) rfl (by simpa only [Ob.pu] using z) q3⟩
    | kl ys =>
      obtain ⟨a, o, ws, q1, q2, q3⟩ := q
      rcases hp n _ h with z | ⟨z, xs, zx⟩
      · obtain ⟨a', o', vs, p1, p2, p3⟩ := e.obj n _ z
        have e' := x.phi _ _ p1
        rw [q1] at e'; cases e'
        exact ⟨a, o, ws, p1, q2, RND.dom2 x.phi p3 q3⟩
      · obtain ⟨a', vs, p1, p2, p3⟩ := e.obj n _ zx
        have e' := x.phi _ _ p1
        rw [q1] at e'; cases e'
        exact ⟨a, o, ws, p1, q2, RND.belo (g := g1) (g' := ⟨g.φ, g1.ro, g.T⟩) rfl (by simpa only [Ob.pu] using z) q3⟩
    | dead => trivial
    | tab P l =>
      have q' : g1.T = _ := q
      rw [x.T] at q'
      exact q'
  · have h' : g.φ n = some a := h
    obtain ⟨q1, u, q2, q3⟩ := e1.dom n a (x.phi _ _ h')
    exact ⟨by rw [hl]; exact (e.dom n a h').1, u, q2, q3⟩
  · have h' : g1.ro a = some u := h
    obtain ⟨q1, q2⟩ := e1.ro a u h'
    refine ⟨q1, fun n hn => ?_⟩
    have hn' : g.φ n = some a := hn
    have q := q2 n (x.phi _ _ hn')
    have hlt : n < m1.length := by rw [hl]; exact (e.dom n a hn').1
    rw [List.getElem?_append_left hlt] at q
    exact q
/-- a mirror of a def by the whole memory: its rubbish is forgotten -/
theorem FnOk.mirI {n : Nat} {F G : IF} (h : FnOk P w K mg base CX k f fd ps (spI K n F))
    (i : ∀ as m v m', as.length = n → G as m = .ok (v, m') → ∃ gar, F as m = .ok (v, m' ++ gar) ∧ (gar = [] ∨ (m'.length = m.length ∧ v.pu = true ∧ Calm1 m m'))) : FnOk P w K mg base CX k f fd ps (spI K n G) :=
  h.imp fun vs H Q E ⟨g, m, as, hl, em, r, q⟩ => ⟨g, m, as, hl, em, r, by
    unfold cI at q ⊢
    cases hr : G as m with
    | ok p =>
      obtain ⟨v, m'⟩ := p
      rw [hr] at q
      obtain ⟨gar, hF, hc⟩ := i as m v m' hl hr
      rw [hF]
      intro g1 H1 V x1 e1 r1
      rcases hc with hc | ⟨c1, c2, c3⟩
      · subst hc
        have e1' : Emb K g1 m' H1 := by simpa using e1
        exact q g1 H1 V x1 e1' r1
      · obtain ⟨g2, x2, e2, f2⟩ := em.trim x1 e1 c1 c3
        exact q g2 H1 V x2 e2 (f2 v V c2 r1)
    | ex e m => rw [hr] at q; exact q.elim
    | no => rw [hr] at q; exact q.elim⟩
end

/-! ### calls -/
section
variable {X : Cx} {Ξ : XC} {k : Nat} {f : Addr} {fd : FuncData} {ps : List Str} {x : Str} {p pos : Pos} {e : Expr} {es : List Expr} {fs : SA} {K : KW}
theorem cI_X0 {g : Gh} {H : Hp} {Q : VK} {F : IF} {as : List PV} {m : Mm} (q : QE K Ξ g H Q (cI F as m)) : QE K X0 g H Q (cI F as m) := by
  unfold cI at q ⊢
  cases h : F as m with
  | ok p => rw [h] at q; exact q
  | ex e m => rw [h] at q; exact q.elim
  | no => rw [h] at q; exact q.elim
theorem cP_X0 {g : Gh} {H : Hp} {Q : VK} {F : PF} {as : List PV} {m : Mm} (q : QE K Ξ g H Q (cP F as m)) : QE K X0 g H Q (cP F as m) := by
  unfold cP at q ⊢
  split at q
  · rename_i hp
    rw [if_pos hp]
    cases h : F as with
    | ok p => rw [h] at q; exact q
    | ex e m => rw [h] at q; exact q.elim
    | no => rw [h] at q; exact q.elim
  · exact q.elim
theorem se_callI {n : Nat} {F : IF} (G : FnOk X.prog X.w X.kw X.mg X.base CX0 k f fd ps (spI X.kw n F)) (hr : Room k X.A) (hm : X.mg x = some (.ref f)) (hk : PySem.W.keepIn X.kw (.ref f) = true) (hb : Binds X.kw fd ps []) (ha : PA X (e :: es) (rdA X.kw Ξ fs)) (hl : ∀ s m xs m', fs s m = .ok (xs, m') → xs.length = (e :: es).length)
    (hn : (e :: es).length = n := by rfl) (hg : Gl X x := by rfl) (hdb : (x == ("__debug__" : Str)) = false := by decide) (he : starEach (e :: es) X.env = (false, eval e X.env) :: starEach es X.env := by rfl) (hpl : (backTo pos (starEach es X.env)).any (·.1) = false := by rfl) :
    PE X (.Call (.Name x p) (e :: es) [] pos) (rdE X.kw Ξ (eN (cI F) fs)) :=
  PE_imp (pe_call G hr hg hm hk hb .nil pass0 ha hdb he hpl) fun σ H Q ⟨g, s, m, em, sr, q⟩ => by
    refine ⟨g, s, m, em, sr, QR.bind q fun p hp q1 g1 H1 V x1 e1 r1 => ?_⟩
    exact ⟨g1, p.2, p.1, by rw [hl s m p.1 p.2 hp, hn], e1, by rw [List.append_nil]; exact r1, cI_X0 (QE.later x1 q1)⟩
theorem se_callI0 {F : IF} (G : FnOk X.prog X.w X.kw X.mg X.base CX0 k f fd ps (spI X.kw 0 F)) (hr : Room k X.A) (hm : X.mg x = some (.ref f)) (hk : PySem.W.keepIn X.kw (.ref f) = true) (hb : Binds X.kw fd ps [])
    (hg : Gl X x := by rfl) (hdb : (x == ("__debug__" : Str)) = false := by decide) : PE X (.Call (.Name x p) [] [] pos) (rdE X.kw Ξ (eN (cI F) aNil)) :=
  PE_imp (pe_call0 G hr hg hm hk hb .nil pass0 hdb) fun σ H Q ⟨g, s, m, em, sr, q⟩ => ⟨g, m, [], rfl, em, .nil, cI_X0 q⟩
theorem se_callP {n : Nat} {F : PF} (G : FnOk X.prog X.w X.kw X.mg X.base CX0 k f fd ps (spP X.kw n F)) (hr : Room k X.A) (hm : X.mg x = some (.ref f)) (hk : PySem.W.keepIn X.kw (.ref f) = true) (hb : Binds X.kw fd ps []) (ha : PA X (e :: es) (rdA X.kw Ξ fs)) (hl : ∀ s m xs m', fs s m = .ok (xs, m') → xs.length = (e :: es).length)
    (hn : (e :: es).length = n := by rfl) (hg : Gl X x := by rfl) (hdb : (x == ("__debug__" : Str)) = false := by decide) (he : starEach (e :: es) X.env = (false, eval e X.env) :: starEach es X.env := by rfl) (hpl : (backTo pos (starEach es X.env)).any (·.1) = false := by rfl) :
    PE X (.Call (.Name x p) (e :: es) [] pos) (rdE X.kw Ξ (eN (cP F) fs)) :=
  PE_imp (pe_call G hr hg hm hk hb .nil pass0 ha hdb he hpl) fun σ H Q ⟨g, s, m, em, sr, q⟩ => by
    refine ⟨g, s, m, em, sr, QR.bind q fun p hp q1 g1 H1 V x1 e1 r1 => ?_⟩
    exact ⟨g1, p.2, p.1, by rw [hl s m p.1 p.2 hp, hn], e1, by rw [List.append_nil]; exact r1, cP_X0 (QE.later x1 q1)⟩
theorem se_callP0 {F : PF} (G : FnOk X.prog X.w X.kw X.mg X.base CX0 k f fd ps (spP X.kw 0 F)) (hr : Room k X.A) (hm : X.mg x = some (.ref f)) (hk : PySem.W.keepIn X.kw (.ref f) = true) (hb : Binds X.kw fd ps [])
    (hg : Gl X x := by rfl) (hdb : (x == ("__debug__" : Str)) = false := by decide) : PE X (.Call (.Name x p) [] [] pos) (rdE X.kw Ξ (eN (cP F) aNil)) :=
  PE_imp (pe_call0 G hr hg hm hk hb .nil pass0 hdb) fun σ H Q ⟨g, s, m, em, sr, q⟩ => ⟨g, m, [], rfl, em, .nil, cP_X0 q⟩

/-! ### repr of a truth value -/
theorem call_tReprB : CallR X (.builtin "repr") (rdN X.kw Ξ fReprB) := by
  intro pins s σ H xs us Q I r ⟨g, m, as, e, ra, q⟩
  unfold fReprB at q
  split at q
  · cases ra with
    | cons r1 r2 =>
      cases r2
      cases r1.bl_inv
      obtain ⟨u, rfl, rx⟩ := vals1 r
      cases rx
      exact PySem.P.repr_of_bool ⟨.str _, H, I.tok _, ⟨_, rfl⟩, QE.ret e (.str _) q⟩
  · cases ra with
    | cons r1 r2 =>
      cases r2
      cases r1.bl_inv
      obtain ⟨u, rfl, rx⟩ := vals1 r
      cases rx
      exact PySem.P.repr_of_bool ⟨.str _, H, I.tok _, ⟨_, rfl⟩, QE.ret e (.str _) q⟩
  · exact q.elim

/-! ### zip -/
theorem zipP_get : ∀ {xs ys : List PV} {i : Nat}, i < (zipP xs ys).length → ∃ x y, xs[i]? = some x ∧ ys[i]? = some y ∧ (zipP xs ys)[i]? = some (.tup [x, y])
  | x :: xs, y :: ys, 0, _ => ⟨x, y, rfl, rfl, rfl⟩
  | x :: xs, y :: ys, i + 1, h => by
    obtain ⟨u, v, h1, h2, h3⟩ := zipP_get (xs := xs) (ys := ys) (i := i) (by simpa [zipP] using h)
    exact ⟨u, v, by simpa using h1, by simpa using h2, by simpa [zipP] using h3⟩
  | [], _, _, h => by simp [zipP] at h
  | _ :: _, [], _, h => by simp [zipP] at h
theorem zipP_end : ∀ {xs ys : List PV} {i : Nat}, (zipP xs ys).length ≤ i → xs.length ≤ i ∨ ys.length ≤ i
  | x :: xs, y :: ys, 0, h => by simp [zipP] at h
  | x :: xs, y :: ys, i + 1, h => by
    have := zipP_end (xs := xs) (ys := ys) (i := i) (by simpa [zipP] using h)
    simp only [List.length_cons]; omega
  | [], _, _, _ => .inl (by simp)
  | _ :: _, [], _, _ => .inr (by simp)
variable {a b : Expr} {fa fb : SE}
theorem si_zip {p2 tpos : Pos} {elts : List Expr} {kk : Nat} (hg : Gl X "zip") (hm : X.mg "zip" = none) (h : PE X a (rdE X.kw Ξ fa)) (h' : PE X b (rdE X.kw Ξ fb)) (hs : starEach [a, b] X.env = (false, eval a X.env) :: starEach [b] X.env := by rfl) (hpl : (backTo pos (starEach [b] X.env)).any (·.1) = false := by rfl) (hs2 : starEach [b] X.env = (false, eval b X.env) :: starEach [] X.env := by rfl) :
    PI X (.Tuple elts kk tpos) (.Call (.Name "zip" p2) [a, b] [] pos) (rdI X.kw Ξ (iZip fa fb)) :=
  PI_imp (RZ.pi_zipA hg hm (pa_cons h (pa_cons h' pa_nil hs2) hs) hs hpl) fun σ H R ⟨g, s, m, em, sr, q⟩ => by
    refine ⟨g, s, m, em, sr, QR.bind q fun p hp q1 g1 H1 V x1 e1 r1 => ?_⟩
    refine ⟨g1, s, p.2, e1, sr.ext em x1, QR.bind (QR.later x1 q1 fun _ q g' H' J x => q g' H' J (x1.trans x)) fun p2 hp2 q2 g2 H2 W x2 e2 r2 => ?_⟩
    obtain ⟨v, m1⟩ := p
    obtain ⟨u, m2⟩ := p2
    have r1' := r1.ext e1 x2
    simp only at q2
    split at q2
    · rename_i xs ys
      obtain ⟨a1, vs, rfl, ha, ra⟩ := r1'.tup_inv
      obtain ⟨b1, ws, rfl, hb, rb⟩ := r2.tup_inv
      refine ⟨a1, b1, vs, ws, rfl, .inr ⟨ha, hb, q2 g2 H2 _ x2 e2 ⟨fun g' m' H' i x' e' hi => ?_, fun g' m' H' i x' e' hi => ?_⟩⟩⟩
      · obtain ⟨x0, y0, h1, h2, h3⟩ := zipP_get hi
        have ha' := e2.sqT x' ha
        have hb' := e2.sqT x' hb
        obtain ⟨xv, hx, rx⟩ := (ra.ext e2 x').get h1
        obtain ⟨yv, hy, ry⟩ := (rb.ext e2 x').get h2
        refine ⟨⟨vs, ws, xv, yv, ha', hb', hx, hy⟩, fun z H3 ⟨T, x1, y1, hz, hT, hH, f1, f2⟩ => ?_⟩
        subst hz hH
        have ex : x1 = xv := Option.some.inj ((f1 _ ha').symm.trans hx)
        have ey : y1 = yv := Option.some.inj ((f2 _ hb').symm.trans hy)
        subst ex ey
        obtain ⟨n1, n2, n3⟩ := e'.new_tup (xs := [x0, y0]) (vs := [x1, y1]) hT (.cons rx (.cons ry .nil))
        exact ⟨g', _, n1, n2, h3, n3⟩
      · refine ⟨vs, ws, e2.sqT x' ha, e2.sqT x' hb, ?_⟩
        rw [← ra.length, ← rb.length]
        exact zipP_end hi
    · rename_i xs ys
      cases r1' with
      | vl ha ra => cases r2 with
        | vl hb rb =>
          rename_i a1 vs b1 ws
          have hL : ∀ {g' m' H'}, Ext g2 H2 g' H' → Emb X.kw g' m' H' → SqL X.kw H' a1 vs ∧ SqL X.kw H' b1 ws := fun x' e' => ⟨SqL.of (e'.ro _ _ (x'.ro _ _ ha)).1, SqL.of (e'.ro _ _ (x'.ro _ _ hb)).1⟩
          obtain ⟨l1, l2⟩ := hL (Ext.refl _ _) e2
          refine ⟨a1, b1, vs, ws, rfl, .inl ⟨l1, l2, q2 g2 H2 _ x2 e2 ⟨fun g' m' H' i x' e' hi => ?_, fun g' m' H' i x' e' hi => ?_⟩⟩⟩
          · obtain ⟨x0, y0, h1, h2, h3⟩ := zipP_get hi
            obtain ⟨ha', hb'⟩ := hL x' e'
            obtain ⟨xv, hx, rx⟩ := (ra.ext e2 x').get h1
            obtain ⟨yv, hy, ry⟩ := (rb.ext e2 x').get h2
            refine ⟨⟨vs, ws, xv, yv, ha', hb', hx, hy⟩, fun z H3 ⟨T, x1, y1, hz, hT, hH, f1, f2⟩ => ?_⟩
            subst hz hH
            have ex : x1 = xv := Option.some.inj ((f1 _ ha').symm.trans hx)
            have ey : y1 = yv := Option.some.inj ((f2 _ hb').symm.trans hy)
            subst ex ey
            obtain ⟨n1, n2, n3⟩ := e'.new_tup (xs := [x0, y0]) (vs := [x1, y1]) hT (.cons rx (.cons ry .nil))
            exact ⟨g', _, n1, n2, h3, n3⟩
          · obtain ⟨ha', hb'⟩ := hL x' e'
            refine ⟨vs, ws, ha', hb', ?_⟩
            rw [← ra.length, ← rb.length]
            exact zipP_end hi
    · exact q2.elim
end
end TT
end

section
set_option Elab.async false
set_option linter.all false
set_option autoImplicit false
set_option maxRecDepth 100000
/-! TT: x[::-1] of tuples and lists -/
namespace TT
open PySem PySem.Spec PyProof.Rows L2
section
variable {prog : Program} {w : World} {A : Around} {E : Value → Shared → Prop} {s : Shared}
theorem revAll (xs : Array Value) : ((List.range xs.size).filterMap fun (m : Nat) => xs[((xs.size : Int) - 1 + (m : Int) * (-1)).toNat]?).toArray = xs.toList.reverse.toArray := by
  congr 1
  apply List.ext_getElem?
  intro i
  have key : ∀ (n : Nat), n ≤ xs.size → ((List.range n).filterMap fun (m : Nat) => xs[((xs.size : Int) - 1 + (m : Int) * (-1)).toNat]?) = xs.toList.reverse.take n := by
    intro n hn
    induction n with
    | zero => rfl
    | succ n ih =>
      rw [List.range_succ, List.filterMap_append, ih (Nat.le_of_succ_le hn)]
      have hlt : n < xs.toList.reverse.length := by simp; omega
      rw [List.take_succ_eq_append_getElem hlt]
      congr 1
      have e : ((xs.size : Int) - 1 + (n : Int) * (-1)).toNat = xs.size - 1 - n := by omega
      simp only [List.filterMap_cons, List.filterMap_nil, e]
      have hb : xs.size - 1 - n < xs.size := by omega
      rw [Array.getElem?_eq_getElem hb]
      simp [List.getElem_reverse]
  rw [key xs.size (Nat.le_refl _), List.take_of_length_le (by simp)]
theorem sliceApplied_rev {sl : Addr} {vs : Value} {n : Nat} {Q : Int × Int × Nat → Shared → Prop} (hs : s.heap.IsSliceOf sl .none .none vs) (ps : IsPart vs (some (-1))) (h : Q ((n : Int) - 1, -1, n) s) : wpAny (model prog w) A (Builtin.Slice.sliceApplied (.ref sl) (pure (n : Int))) Q E s := by
  obtain ⟨os, hos, hcs, hds⟩ := id hs
  unfold Builtin.Slice.sliceApplied Builtin.Slice.sliceFields
  refine wpAny_bind (wpAny_bind (wpAny_field hos hds (x := .none) rfl (wpAny_bind (wpAny_field hos hds (x := .none) rfl (wpAny_bind (wpAny_field hos hds (x := vs) rfl (wpAny_pure ?_)))))))
  refine wpAny_bind (HT.slicePart_ ps ?_)
  show wpAny _ _ (if ((-1 : Int) == 0) = true then _ else _) _ _ s
  rw [if_neg (by decide)]
  refine wpAny_bind (slicePart_none (wpAny_bind (slicePart_none (wpAny_bind (wpAny_pure ?_)))))
  show wpAny _ _ (match Builtin.Slice.sliceAdjust none none (-1) (n : Int) with | (lo, hi) => pure (lo, (-1 : Int), Builtin.Slice.slicePlaces lo hi (-1))) _ _ s
  have e1 : Builtin.Slice.sliceAdjust none none (-1) (n : Int) = ((n : Int) - 1, -1) := by
    unfold Builtin.Slice.sliceAdjust; rfl
  rw [e1]
  have e2 : Builtin.Slice.slicePlaces ((n : Int) - 1) (-1) (-1) = n := by
    unfold Builtin.Slice.slicePlaces
    rw [if_neg (by decide)]
    split <;> simp <;> omega
  show wpAny _ _ (pure ((n : Int) - 1, (-1 : Int), Builtin.Slice.slicePlaces ((n : Int) - 1) (-1) (-1))) _ _ s
  rw [e2]
  exact wpAny_pure h
theorem getItem_tuple_rev {t sl : Addr} {items : Array Value} {vs : Value} {Q : Value → Shared → Prop} (ht : IsTup s.heap t items) (hs : s.heap.IsSliceOf sl .none .none vs) (ps : IsPart vs (some (-1)))
    (h : Q (.ref s.heap.objs.size) { s with heap := s.heap.push { cls := .type "tuple", data := .seq items.toList.reverse.toArray } })
    (hsz : items.size ≤ sizeLine) : wpAny (model prog w) A (getItem (.ref t) (.ref sl)) Q E s := by
  have htake : sizeOk (.seq items.toList.reverse.toArray) := by
    show items.toList.reverse.toArray.size ≤ sizeLine
    simpa using hsz
  obtain ⟨os, hos, hcs, hds⟩ := id hs
  have hTs : s.TypeIs (.ref sl) "slice" := ⟨os, hos, hcs⟩
  unfold getItem
  try with_reducible refine wpAny_holding ?_
  first | refine wpAny_bind (wpAny_pure ?_) | skip
  refine wpAny_bind (wpAny_sequenceKey ht.typeIs (by decide) ?_)
  refine wpAny_bind (wpAny_callSpecial?_slot (name := Str.ofString "__getitem__") ht.typeIs PyProof.Rows.slot_tuple_getitem
    (wpAny_call_entry PyProof.Rows.slot_tuple_getitem ht.typeIs entry_tuple_getitem ?_ (args_tuple_getitem _ _)))
  show wpAny _ _ (Builtin.Tuple.tupleItemsOf (.ref t) >>= _) _ _ s
  refine wpAny_bind (tupleItemsOf_ ht ?_)
  refine wpAny_bind (wpAny_typeOf hTs ?_)
  rw [if_pos (by decide)]
  refine wpAny_bind (sliceApplied_rev hs ps ?_)
  show wpAny _ _ (if ((((items.size : Int) - 1) == 0 && (-1 : Int) == 1 && items.size == items.size) = true) then _ else _) _ _ s
  rw [if_neg (by intro q; rw [Bool.and_eq_true, Bool.and_eq_true] at q; exact absurd q.1.2 (by decide)), revAll]
  first
    | exact wpAny_bind (m := Builtin.Tuple.tupleExact _) (wpAny_newObj_type (wpAny_pure ⟨_, rfl, wpAny_pure h⟩) htake)
    | exact wpAny_bind (m := Builtin.Tuple.tupleExact _) (wpAny_newObj_type (wpAny_bind (wpAny_pure (wpAny_pure ⟨_, rfl, wpAny_pure h⟩))) htake)
    | exact wpAny_bind (wpAny_bind (m := Builtin.Tuple.tupleExact _) (wpAny_newObj_type (wpAny_pure (wpAny_pure ⟨_, rfl, wpAny_pure h⟩)) htake))
    | exact wpAny_bind (wpAny_bind (m := Builtin.Tuple.tupleExact _) (wpAny_newObj_type (wpAny_pure ⟨_, rfl, wpAny_pure h⟩) htake))
end
section
variable {X : Cx} {Ξ : XC} {fa : SE}
def tRevT (K : KW) (te : TE) : TE := fun σ H Q => te σ H fun x H1 => ∃ a xs, x = .ref a ∧ SqT K H1 a xs ∧ ∀ p, H1 p = none → Q (.ref p) (upd H1 p (.tup xs.reverse))
theorem pe_revT {e : Expr} {te : TE} {k : Nat} {p1 p2 p3 pos : Pos} (he : PE X e te) : PE X (.Subscript e (.Slice none none (some (.UnaryOp .USub (.Constant (.int 1) k p1) p2)) p3) pos) (tRevT X.kw te) := by
  refine ⟨fun pins s σ H Q I h => ?_⟩
  refine Subscript_ (thn (he.run pins s σ H _ I h) fun v s1 ⟨x, H1, I1, r1, q1⟩ => ?_)
  obtain ⟨a, xs, ex, hx, q⟩ := q1
  subst ex
  cases r1
  have hst : PO X (some (.UnaryOp .USub (.Constant (.int 1) k p1) p2)) (tPart (tUn (rU fun i => .int (-i)) (tC (.int 1)))) := po_some (pe_un un_neg pe_int)
  refine wpAny_Slice (thn (po_none.run pins s1 σ H1 (fun o H2 => o = none ∧ H2 = H1) I1 ⟨rfl, rfl⟩) fun vl s2 ⟨l, H2, I2, pl, el, e2⟩ => ?_)
  subst el e2
  refine thn (po_none.run pins s2 σ H2 (fun o H3 => o = none ∧ H3 = H2) I2 ⟨rfl, rfl⟩) fun vu s3 ⟨u, H3, I3, pu, eu, e3⟩ => ?_
  subst eu e3
  refine thn (hst.run pins s3 σ H3 (fun o H4 => o = some (-1) ∧ H4 = H3) I3 ⟨1, rfl, -1, rfl, rfl, rfl⟩) fun vs s4 ⟨o, H4, I4, ps, eo, e4⟩ => ?_
  subst eo e4
  cases pl
  cases pu
  have I5 : Inv X pins σ H4 { s4 with heap := s4.heap.push { cls := .type "slice", data := .fields #[.none, .none, vs] } } := I4.kept (t' := s4.toks) fun b ob q => Heap.get?_push_of_some _ q
  obtain ⟨its, r, ht, hz⟩ := I5.tuple hx
  have hlen := r.length
  show wpAny (model X.prog X.w) X.A (subscriptTail e (.Slice none none (some (.UnaryOp .USub (.Constant (.int 1) k p1) p2)) p3) (.ref a) (.ref s4.heap.objs.size)) (EP X pins σ Q) X.xe { s4 with heap := s4.heap.push { cls := .type "slice", data := .fields #[.none, .none, vs] } }
  refine tail_any (ops := [.ref a, .ref s4.heap.objs.size]) ht.typeIs PyProof.Rows.slot_tuple_getitem.lookup ?_ (by with_unfolding_all rfl)
  refine getItem_tuple_rev ht (Heap.IsSliceOf.new _ .none .none vs) ps ?_ (by rw [List.size_toArray]; omega)
  refine ⟨.ref _, _, I5.laid (t' := s4.toks) (o := .tup xs.reverse) (fun b ob q => Heap.get?_push_of_some _ q) (Nat.le_refl _) ?_, rfl, q _ (I5.hok.fresh (Nat.le_refl _))⟩
  refine ⟨by rw [List.length_reverse]; exact hz, its.reverse, r.reverse, ?_⟩
  have := IsTup.new { s4.heap with objs := s4.heap.objs.push { cls := .type "slice", data := .fields #[.none, .none, vs] } } its.reverse.toArray
  exact this
theorem PE_or {e : Expr} {t t' : TE} (h : PE X e t) (h' : PE X e t') : PE X e (fun σ H Q => t σ H Q ∨ t' σ H Q) := ⟨fun pins s σ H Q I q => q.elim (h.run pins s σ H Q I) (h'.run pins s σ H Q I)⟩
theorem se_revL {e : Expr} {k : Nat} {p1 p2 p3 pos : Pos} (he : PE X e (rdE X.kw Ξ fa)) : PE X (.Subscript e (.Slice none none (some (.UnaryOp .USub (.Constant (.int 1) k p1) p2)) p3) pos) (rdE X.kw Ξ (e1 oRevL fa)) :=
  PE_imp (pe_revL he) fun σ H Q ⟨g, s, m, em, sr, q⟩ => by
    refine ⟨g, s, m, em, sr, QR.bind q fun p hp q1 g1 H1 V x1 e1 r1 => ?_⟩
    obtain ⟨v, m1⟩ := p
    have q2 : QE X.kw Ξ g1 H1 Q (oRevL v m1) := QE.later x1 q1
    unfold oRevL at q2
    split at q2
    · rename_i xs h1
      obtain ⟨a1, vs, rfl, ha, r1'⟩ := e1.look r1 h1
      exact ⟨a1, vs, rfl, SqL.of ha, fun p hp => QE.newL e1 r1'.rev q2 hp⟩
    · exact q2.elim
theorem se_revT {e : Expr} {k : Nat} {p1 p2 p3 pos : Pos} (he : PE X e (rdE X.kw Ξ fa)) : PE X (.Subscript e (.Slice none none (some (.UnaryOp .USub (.Constant (.int 1) k p1) p2)) p3) pos) (rdE X.kw Ξ (e1 oRevT fa)) :=
  PE_imp (pe_revT he) fun σ H Q ⟨g, s, m, em, sr, q⟩ => by
    refine ⟨g, s, m, em, sr, QR.bind q fun p hp q1 g1 H1 V x1 e1 r1 => ?_⟩
    obtain ⟨v, m1⟩ := p
    have q2 : QE X.kw Ξ g1 H1 Q (oRevT v m1) := QE.later x1 q1
    unfold oRevT at q2
    split at q2
    · rename_i xs
      obtain ⟨a1, vs, rfl, ha, r1'⟩ := r1.tup_inv
      exact ⟨a1, vs, rfl, ha, fun p hp => QE.newT e1 r1'.rev q2 hp⟩
    · exact q2.elim
end
end TT
end

section
set_option Elab.async false
set_option linter.all false
set_option autoImplicit false
set_option maxRecDepth 100000
/-! TT: comprehensions whose target is a tuple of names -/
namespace TT
open PySem PySem.Spec PyProof.Rows L2
theorem wipe_get (σ : L2.St) (own : List Nat) : ∀ (j : Nat), (L2.wipe σ own)[j]? = if j ∈ own then (if j < σ.length then some none else none) else σ[j]? := by
  induction own with
  | nil => intro j; simp [L2.wipe]
  | cons v vs ih =>
    intro j
    unfold L2.wipe
    by_cases hv : v = j
    · subst hv
      simp only [List.mem_cons, true_or, if_true]
      by_cases hl : v < σ.length
      · rw [List.getElem?_set_self (by rw [L2.wipe_length]; exact hl), if_pos hl]
      · rw [List.getElem?_eq_none (by rw [List.length_set, L2.wipe_length]; omega), if_neg hl]
    · rw [List.getElem?_set_ne hv, ih j]
      simp only [List.mem_cons, Ne.symm hv, false_or]
theorem wipe_set1 {σ : L2.St} {i : Nat} {x : Option V} {own : List Nat} (hi : i ∈ own) : L2.wipe (σ.set i x) own = L2.wipe σ own := by
  apply List.ext_getElem?
  intro j
  rw [wipe_get, wipe_get, List.length_set]
  by_cases hj : j ∈ own
  · rw [if_pos hj, if_pos hj]
  · rw [if_neg hj, if_neg hj, List.getElem?_set_ne (fun z => hj (by rw [← z]; exact hi))]
theorem wipe_wipe {σ : L2.St} {own : List Nat} : L2.wipe (L2.wipe σ own) own = L2.wipe σ own := by
  apply List.ext_getElem?
  intro j
  rw [wipe_get, wipe_get, L2.wipe_length]
  by_cases hj : j ∈ own
  · rw [if_pos hj, if_pos hj]
  · rw [if_neg hj, if_neg hj]
def tgs : List Nat → TGs
  | [] => gNil
  | i :: is => gCons (L2.gName i) (tgs is)
section
variable {K : KW} {g : Gh} {H : Hp}
theorem tgs_run : ∀ (is : List Nat) (pvs : List PV) (xs : List V) (s s' : Sl) (σ : L2.St), Sr K g H s σ → Rps K g H pvs xs → gNames is pvs s = some s' →
    ∃ σ', Sr K g H s' σ' ∧ (∀ Q : L2.St → Hp → Prop, Q σ' H → tgs is xs σ H Q) ∧ ∀ own : List Nat, (∀ i ∈ is, i ∈ own) → L2.wipe σ' own = L2.wipe σ own
  | [], [], _, s, s', σ, sr, .nil, h => by
    cases h
    exact ⟨σ, sr, fun Q q => ⟨rfl, q⟩, fun _ _ => rfl⟩
  | [], _ :: _, _, _, _, _, _, _, h => by cases h
  | _ :: _, [], _, _, _, _, _, _, h => by cases h
  | i :: is, pv :: pvs, x :: xs, s, s', σ, sr, .cons r1 r2, h => by
    obtain ⟨σ', h1, h2, h3⟩ := tgs_run is pvs xs _ s' (σ.set i (some x)) (sr.set r1 i) r2 h
    refine ⟨σ', h1, fun Q q => ⟨x, xs, rfl, h2 Q q⟩, fun own ho => ?_⟩
    rw [h3 own fun j hj => ho j (List.mem_cons_of_mem _ hj), wipe_set1 (ho i List.mem_cons_self)]
end
section
variable {X : Cx} {Ξ : XC} {c : Expr} {es : List Expr} {pos : Pos} {ft : ST} {K : KW}
theorem sgt_nil : PGs X [] (tgs []) := pgs_nil
theorem sgt_cons {is : List Nat} (i : Nat) {x : Str} {p : Pos} (hN : X.N.Nodup) (h2 : PGs X es (tgs is)) (hi : X.N[i]? = some x := by rfl) (hx : Loc X.env.scope x := by first | exact Or.inl rfl | exact Or.inr rfl) (hf : X.fn x = true ∨ X.env.scope.names.lookup x = some .local := by first | exact .inl rfl | exact .inr rfl | assumption)
    (hs : (assignEach (.Name x p :: es) X.env).map (·.2) = assign (.Name x p) X.env :: (assignEach es X.env).map (·.2) := by rfl) : PGs X (.Name x p :: es) (tgs (i :: is)) := pgs_cons (pg_name hN hi hx hf) h2 hs
theorem rd_lcT {own : List Nat} {it : SI} {is : List Nat} {n : Nat} {ft : ST} {fe : SE} (hi : ∀ i ∈ is, i ∈ own) (hn : is.length = n) {σ : L2.St} {H : Hp} {Q : VK}
    (h : rdE K Ξ (eLc own it (TT.gTup is) ft fe) σ H Q) : tLc (rdI K Ξ it) (L2.gTup K n (tgs is)) (rdT K X0 ft) (rdE K X0 fe) own σ H Q :=
  rd_lc (fun v σ H Q ⟨g, s, m, pv, em, sr, rv, q⟩ => by
    unfold TT.gTup at q
    split at q
    · rename_i vs
      obtain ⟨a, ws, rfl, ha, r1⟩ := rv.tup_inv
      split at q
      · rename_i s' hs
        obtain ⟨σ', h1, h2, h3⟩ := tgs_run is vs ws s s' _ sr r1 hs
        refine ⟨a, ws, rfl, ha, by rw [← r1.length, gNames_len _ _ _ _ hs, hn], h2 _ ⟨?_, q g H σ' (Ext.refl _ _) em h1⟩⟩
        rw [h3 own hi, wipe_wipe]
      · exact q.elim
    · exact q.elim) h
theorem se_lcT {elt iter : Expr} {ifs : List Expr} {scope : Scope} {own : List (Str × Nat)} {oi : List Nat} {tes : List Expr} {tk : Nat} {tp : Pos} {it : SI} (is : List Nat) {fe : SE} (hc : X.calm = true) (hN : X.N.Nodup) (hi : PI X (.Tuple tes tk tp) iter (rdI X.kw Ξ it)) (ok : BlkOk X.N X.env.scope scope own)
    (hg : ∀ (s : Shared) (H : Hp) (C : Addr) (cl : List (Str × Addr)) (fp : List Addr), PG (X.blk s H scope (compEnvC scope cl C X.env) fp) (.Tuple tes tk tp) (L2.gTup X.kw is.length (tgs is))) (ht : ∀ (s : Shared) (H : Hp) (C : Addr) (cl : List (Str × Addr)) (fp : List Addr), PTs (X.blk s H scope (compEnvC scope cl C X.env) fp) ifs (rdT X.kw X0 ft))
    (he : ∀ (s : Shared) (H : Hp) (C : Addr) (cl : List (Str × Addr)) (fp : List Addr), PE (X.blk s H scope (compEnvC scope cl C X.env) fp) elt (rdE X.kw X0 fe)) (hs : ∀ x, foldedSetIterable iter X.env x = pure x := by intro _; rfl) (ho : own.map (·.2) = oi := by rfl) (hm : ∀ i ∈ is, i ∈ own.map (·.2) := by decide) :
    PE X (.ListComp elt [⟨.Tuple tes tk tp, iter, ifs, 0⟩] scope pos) (rdE X.kw Ξ (eLc oi it (TT.gTup is) ft fe)) := by
  subst ho
  exact PE_imp (pe_lc hc hN hi ok hg ht he hs) fun σ H Q h => rd_lcT hm rfl h
theorem ss_setLcT {elt iter : Expr} {ifs : List Expr} {scope : Scope} {own : List (Str × Nat)} {oi : List Nat} {y : Str} {py spos : Pos} {tes : List Expr} {tk : Nat} {tp : Pos} {it : SI} (iy : Nat) (is : List Nat) {fe : SE} (hc : X.calm = true) (hN : X.N.Nodup) (hi : PI X (.Tuple tes tk tp) iter (rdI X.kw Ξ it)) (ok : BlkOk X.N X.env.scope scope own)
    (hg : ∀ (s : Shared) (H : Hp) (C : Addr) (cl : List (Str × Addr)) (fp : List Addr), PG (X.blk s H scope (compEnvC scope cl C X.env) fp) (.Tuple tes tk tp) (L2.gTup X.kw is.length (tgs is))) (ht : ∀ (s : Shared) (H : Hp) (C : Addr) (cl : List (Str × Addr)) (fp : List Addr), PTs (X.blk s H scope (compEnvC scope cl C X.env) fp) ifs (rdT X.kw X0 ft))
    (he : ∀ (s : Shared) (H : Hp) (C : Addr) (cl : List (Str × Addr)) (fp : List Addr), PE (X.blk s H scope (compEnvC scope cl C X.env) fp) elt (rdE X.kw X0 fe)) (hsw : swapsWith (.ListComp elt [⟨.Tuple tes tk tp, iter, ifs, 0⟩] scope pos) (some (.Name y py)) spos.line X.env = pure true)
    (hy : X.N[iy]? = some y := by rfl) (hyl : X.env.scope.names.lookup y = some .local := by rfl) (hs : ∀ x, foldedSetIterable iter X.env x = pure x := by intro _; rfl) (ho : own.map (·.2) = oi := by rfl) (hm : ∀ i ∈ is, i ∈ own.map (·.2) := by decide) :
    PS X (.Assign [.Name y py] (.ListComp elt [⟨.Tuple tes tk tp, iter, ifs, 0⟩] scope pos) spos) (rdS X.kw Ξ (sAsg (eLc oi it (TT.gTup is) ft fe) (TT.gName iy))) := by
  subst ho
  exact PS_imp (ps_setLc hc hN hy hyl hsw hi ok hg ht he hs) fun D σ H ⟨g, s, m, em, sr, q⟩ => by
    refine rd_lcT (Ξ := Ξ) hm rfl ⟨g, s, m, em, sr, QR.bind q fun p hp q1 g1 H1 V x1 e1 r1 => ?_⟩
    exact QS_nx e1 ((sr.ext em x1).set r1 iy) (QS.later x1 q1)
end

/-! ### what a def of the text is worth to its callers -/
section
variable {P : Program} {w : World} {K : KW} {mg : Str → Option Value} {base : Heap}
/-- a def by this name keeps this promise, by at most level k -/
def Has (P : Program) (w : World) (K : KW) (mg : Str → Option Value) (base : Heap) (x : Str) (k : Nat) (sp : Sp) : Prop :=
  ∃ f fd ps, FnOk P w K mg base CX0 k f fd ps sp ∧ mg x = some (.ref f) ∧ PySem.W.keepIn K (.ref f) = true ∧ Binds K fd ps []
theorem Has.mono {x : Str} {j k : Nat} {sp : Sp} (h : Has P w K mg base x j sp) (hk : j ≤ k) : Has P w K mg base x k sp := let ⟨f, fd, ps, a, b, c, d⟩ := h; ⟨f, fd, ps, a.mono hk, b, c, d⟩
theorem Has.toP {x : Str} {k n N : Nat} {b : SS} (h : Has P w K mg base x k (spI K n (bodyI N n b))) : Has P w K mg base x k (spP K n (bodyP N n b)) := let ⟨f, fd, ps, a, b, c, d⟩ := h; ⟨f, fd, ps, TT.FnOk.toP a, b, c, d⟩
theorem Has.mirP {x : Str} {k n : Nat} {F G : PF} (h : Has P w K mg base x k (spP K n F)) (i : ∀ as v, as.length = n → G as = .ok v → F as = .ok v) : Has P w K mg base x k (spP K n G) := let ⟨f, fd, ps, a, b, c, d⟩ := h; ⟨f, fd, ps, TT.FnOk.mirP a i, b, c, d⟩
theorem Has.mirI {x : Str} {k n : Nat} {F G : IF} (h : Has P w K mg base x k (spI K n F)) (i : ∀ as m v m', as.length = n → G as m = .ok (v, m') → ∃ gar, F as m = .ok (v, m' ++ gar) ∧ (gar = [] ∨ (m'.length = m.length ∧ v.pu = true ∧ Calm1 m m'))) : Has P w K mg base x k (spI K n G) := let ⟨f, fd, ps, a, b, c, d⟩ := h; ⟨f, fd, ps, TT.FnOk.mirI a i, b, c, d⟩
/-- a def, by its body -/
theorem has_def {x : Str} {st : Stmt} {f : Addr} {fd : FuncData} {N ps : List Str} {k : Nat} {b : SS} (F : Fun K x x st f fd) (hm : mg x = some (.ref f)) (S : FnScope N ps (defScope st)) (hN : ps.length ≤ N.length)
    (hb : ∀ (kV doc pm : Value) (an : Option Addr) (cdv ct : Value) (us : List Value), us.length = ps.length → bindArgs (PySem.W.fnOf x x (defArgs st) (defBody st) (defScope st) .none kV doc pm an cdv ct) ⟨us, []⟩ = pure (ps.zip us))
    (hbody : ∀ (cdv : Value) (A : Around) (outer : List Env) (s : Shared) (H : Hp) (E : XK), Room k (A.deeper (envOfC x (defScope st) s.heap.objs.size f cdv)) →
      PSs (cxOf CX0 P w K mg base N x (defScope st) f cdv A outer s H E).nox (defBody st) (rdS K X0 b)) : Has P w K mg base x (k + 1) (spI K ps.length (bodyI N.length ps.length b)) :=
  ⟨f, fd, ps, defI F S hN hbody, hm, F.kp, F.binds hb⟩
end
section
variable {X : Cx} {Ξ : XC} {k : Nat} {x : Str} {p pos : Pos} {e : Expr} {es : List Expr} {fs : SA}
theorem sh_callI {n : Nat} {F : IF} (h : Has X.prog X.w X.kw X.mg X.base x k (spI X.kw n F)) (hr : Room k X.A) (ha : PA X (e :: es) (rdA X.kw Ξ fs)) (hl : ∀ s m xs m', fs s m = .ok (xs, m') → xs.length = (e :: es).length)
    (hn : (e :: es).length = n := by rfl) (hg : Gl X x := by rfl) (hdb : (x == ("__debug__" : Str)) = false := by decide) (he : starEach (e :: es) X.env = (false, eval e X.env) :: starEach es X.env := by rfl) (hpl : (backTo pos (starEach es X.env)).any (·.1) = false := by rfl) :
    PE X (.Call (.Name x p) (e :: es) [] pos) (rdE X.kw Ξ (eN (cI F) fs)) := let ⟨f, fd, ps, a, b, c, d⟩ := h; se_callI a hr b c d ha hl hn hg hdb he hpl
theorem sh_callI0 {F : IF} (h : Has X.prog X.w X.kw X.mg X.base x k (spI X.kw 0 F)) (hr : Room k X.A) (hg : Gl X x := by rfl) (hdb : (x == ("__debug__" : Str)) = false := by decide) : PE X (.Call (.Name x p) [] [] pos) (rdE X.kw Ξ (eN (cI F) aNil)) := let ⟨f, fd, ps, a, b, c, d⟩ := h; se_callI0 a hr b c d hg hdb
theorem sh_callP {n : Nat} {F : PF} (h : Has X.prog X.w X.kw X.mg X.base x k (spP X.kw n F)) (hr : Room k X.A) (ha : PA X (e :: es) (rdA X.kw Ξ fs)) (hl : ∀ s m xs m', fs s m = .ok (xs, m') → xs.length = (e :: es).length)
    (hn : (e :: es).length = n := by rfl) (hg : Gl X x := by rfl) (hdb : (x == ("__debug__" : Str)) = false := by decide) (he : starEach (e :: es) X.env = (false, eval e X.env) :: starEach es X.env := by rfl) (hpl : (backTo pos (starEach es X.env)).any (·.1) = false := by rfl) :
    PE X (.Call (.Name x p) (e :: es) [] pos) (rdE X.kw Ξ (eN (cP F) fs)) := let ⟨f, fd, ps, a, b, c, d⟩ := h; se_callP a hr b c d ha hl hn hg hdb he hpl
theorem sh_callP0 {F : PF} (h : Has X.prog X.w X.kw X.mg X.base x k (spP X.kw 0 F)) (hr : Room k X.A) (hg : Gl X x := by rfl) (hdb : (x == ("__debug__" : Str)) = false := by decide) : PE X (.Call (.Name x p) [] [] pos) (rdE X.kw Ξ (eN (cP F) aNil)) := let ⟨f, fd, ps, a, b, c, d⟩ := h; se_callP0 a hr b c d hg hdb
/-- a constant of the module -/
def HasC (K : KW) (mg : Str → Option Value) (x : Str) (v : PV) : Prop := ∃ u w, mg x = some u ∧ RelV w u ∧ ∀ g H, Rp K g H v w
theorem sh_glob {v : PV} {pos : Pos} (h : HasC X.kw X.mg x v) (hg : Gl X x := by rfl) (hd : (x == ("__debug__" : Str)) = false := by decide) : PE X (.Name x pos) (rdE X.kw Ξ (eC v)) := let ⟨u, w, a, b, c⟩ := h; se_glob hg a b c hd
end
theorem bb_len : bootBuiltins "len" = some (.builtin "len") := by decide +kernel
theorem bb_int : bootBuiltins "int" = some (.type "int") := by decide +kernel
theorem bb_str : bootBuiltins "str" = some (.type "str") := by decide +kernel
theorem bb_bool : bootBuiltins "bool" = some (.type "bool") := by decide +kernel
theorem bb_list : bootBuiltins "list" = some (.type "list") := by decide +kernel
theorem bb_tuple : bootBuiltins "tuple" = some (.type "tuple") := by decide +kernel
theorem bb_isinstance : bootBuiltins "isinstance" = some (.builtin "isinstance") := by decide +kernel
theorem bb_min : bootBuiltins "min" = some (.builtin "min") := by decide +kernel
theorem bb_max : bootBuiltins "max" = some (.builtin "max") := by decide +kernel
theorem bb_all : bootBuiltins "all" = some (.builtin "all") := by decide +kernel
theorem bb_repr : bootBuiltins "repr" = some (.builtin "repr") := by decide +kernel
theorem bb_sum : bootBuiltins "sum" = some (.builtin "sum") := by decide +kernel
theorem bb_sorted : bootBuiltins "sorted" = some (.builtin "sorted") := by decide +kernel
end TT
end

section
set_option Elab.async false
set_option linter.all false
set_option autoImplicit false
set_option maxRecDepth 100000
/-! TT: the law's own promise -/
namespace TT
open PySem PySem.Spec PyProof.Rows L2
def spLaw (K : KW) : Sp := fun vs H Q _ => ∃ (a : Addr) (ns : List Int), vs = [.ref a] ∧ SqL K H a (ns.map V.int) ∧ ns.length ≤ 63 ∧ ∀ H', Q (.bl true) H'
/-- the heap without its tables -/
def ntOf (H : Hp) : Hp := fun a => match H a with
  | some (.tbl _) => none
  | u => u
theorem ntOf_inv {H : Hp} {a : Addr} {u : HO} (h : ntOf H a = some u) : H a = some u ∧ NT u := by
  unfold ntOf at h
  split at h
  · cases h
  · rename_i hn
    exact ⟨h, fun ps z => hn ps (by rw [h, z])⟩
theorem ntOf_sq {K : KW} {H : Hp} {a : Addr} {xs : List V} (h : SqL K H a xs) : SqL K (ntOf H) a xs := by
  rcases h with (h | ⟨o, h⟩) | h
  · exact .inl (.inl (by unfold ntOf; rw [h]))
  · exact .inl (.inr ⟨o, by unfold ntOf; rw [h]⟩)
  · exact .inr h
theorem rps_ints {K : KW} {g : Gh} {H : Hp} : ∀ ns : List Int, Rps K g H (ns.map PV.int) (ns.map V.int)
  | [] => .nil
  | n :: r => .cons (.int n) (rps_ints r)
theorem spLaw_of {K : KW} {F : IF} (h : ∀ ns : List Int, ns.length ≤ 63 → ∃ m, F [.fz (ns.map PV.int)] [] = .ok (.bl true, m)) {vs : List V} {H : Hp} {Q : VK} {E : XK} (q : spLaw K vs H Q E) : spI K 1 F vs H Q E := by
  obtain ⟨a, ns, rfl, hS, hl, q⟩ := q
  refine ⟨⟨fun _ => none, ntOf H, []⟩, [], [.fz (ns.map PV.int)], rfl, ⟨(fun n o h => by simp at h), (fun n a h => nomatch h), (fun n k a h _ => nomatch h), (fun a u h => ⟨(ntOf_inv h).1, (fun n z => nomatch z)⟩), (fun a u h => (ntOf_inv h).2), (fun p hp => by simp at hp)⟩, .cons (.fz (ntOf_sq hS) (rps_ints ns)) .nil, ?_⟩
  obtain ⟨m, hm⟩ := h ns hl
  unfold cI
  rw [hm]
  intro g' H' V x e r
  cases r.bl_inv
  exact q H'
/-- the law's def: its function over every base, from what it has there -/
theorem law_fn {P : Program} {w : World} {K : KW} {mg : Str → Option Value} {base : Heap} {x : Str} {st : Stmt} {f : Addr} {fd : FuncData} {N : List Str} {p : Str} {k : Nat} {b : SS} (F : Fun K x x st f fd) (S : FnScope N [p] (defScope st)) (hN : 1 ≤ N.length)
    (hbody : ∀ (cdv : Value) (A : Around) (outer : List Env) (s : Shared) (H : Hp) (E : XK), Room k (A.deeper (envOfC x (defScope st) s.heap.objs.size f cdv)) →
      PSs (cxOf CX0 P w K mg base N x (defScope st) f cdv A outer s H E).nox (defBody st) (rdS K X0 b))
    (h : ∀ ns : List Int, ns.length ≤ 63 → ∃ m, bodyI N.length 1 b [.fz (ns.map PV.int)] [] = .ok (.bl true, m)) : FnOk P w K mg base CX0 (k + 1) f fd [p] (spLaw K) :=
  (defI (ps := [p]) F S hN hbody).imp fun _ _ _ _ => spLaw_of h
/-! ### constants of the module -/
theorem HasC.int {K : KW} {mg : Str → Option Value} {x : Str} {i : Int} {t : Tok} (h : mg x = some (.int i t)) : HasC K mg x (.int i) := ⟨_, .int i, h, ⟨t, rfl⟩, fun _ _ => .int i⟩
theorem HasC.str {K : KW} {mg : Str → Option Value} {x : Str} {z : Str} {t : Tok} (l : List Nat) (h : mg x = some (.str z t)) (e : z = ⟨l.toArray⟩) : HasC K mg x (.str l) := by
  subst e; exact ⟨_, .str _, h, ⟨t, rfl⟩, fun _ _ => .str l⟩
/-- a value of the written part -/
inductive KV1 (K : KW) : PV → Value → Prop
  | non : KV1 K .non .none
  | bl (b : Bool) : KV1 K (.bl b) (.bool b)
  | int (i : Int) (t : Tok) : KV1 K (.int i) (.int i t)
  | str (l : List Nat) (t : Tok) : KV1 K (.str l) (.str ⟨l.toArray⟩ t)
inductive KVs (K : KW) (R : PV → Value → Prop) : List PV → List Value → Prop
  | nil : KVs K R [] []
  | cons {x : PV} {xs : List PV} {u : Value} {us : List Value} : R x u → KVs K R xs us → KVs K R (x :: xs) (u :: us)
theorem kv1_rp {K : KW} {g : Gh} {H : Hp} {x : PV} {u : Value} (h : KV1 K x u) : ∃ v, RelV v u ∧ Rp K g H x v := by
  cases h with
  | non => exact ⟨.non, rfl, .non⟩
  | bl b => exact ⟨.bl b, rfl, .bl b⟩
  | int i t => exact ⟨.int i, ⟨t, rfl⟩, .int i⟩
  | str l t => exact ⟨.str _, ⟨t, rfl⟩, .str l⟩
/-- a tuple of the written part whose items are R -/
def KTup (K : KW) (R : PV → Value → Prop) (xs : List PV) (a : Addr) : Prop := ∃ (oc : Value) (od : Option Addr) (us : List Value) (n : Nat) (sl : Array (Option Value)), oc = .type "tuple" ∧ K.K.lookup a = some ⟨oc, od, .seq us.toArray n, sl⟩ ∧ us.length ≤ 1000 ∧ KVs K R xs us
theorem ktup_rp {K : KW} {R : PV → Value → Prop} (hR : ∀ x u, R x u → ∃ v, RelV v u ∧ ∀ g H, Rp K g H x v) {xs : List PV} {a : Addr} (h : KTup K R xs a) : ∀ g H, Rp K g H (.tup xs) (.ref a) := by
  obtain ⟨oc, od, us, n, sl, rfl, hl, hs, hk⟩ := h
  have : ∃ vs, Vals vs us ∧ ∀ g H, Rps K g H xs vs := by
    clear hl hs
    induction hk with
    | nil => exact ⟨[], .nil, fun _ _ => .nil⟩
    | cons h1 _ ih =>
      obtain ⟨vs, a, b⟩ := ih
      obtain ⟨v, c, d⟩ := hR _ _ h1
      exact ⟨v :: vs, .cons c a, fun g H => .cons (d g H) (b g H)⟩
  obtain ⟨vs, hv, hr⟩ := this
  intro g H
  refine .tup (.inr ⟨_, us.toArray, n, hl, rfl, rfl, ?_, ?_⟩) (hr g H)
  · rw [List.size_toArray, sizeLine_eq]; omega
  · simpa using hv
theorem HasC.tup {K : KW} {mg : Str → Option Value} {x : Str} {a : Addr} {xs : List PV} (h : mg x = some (.ref a)) (k : KTup K (KV1 K) xs a) : HasC K mg x (.tup xs) :=
  ⟨_, .ref a, h, rfl, ktup_rp (fun x u h => by
    cases h with
    | non => exact ⟨.non, rfl, fun _ _ => .non⟩
    | bl b => exact ⟨.bl b, rfl, fun _ _ => .bl b⟩
    | int i t => exact ⟨.int i, ⟨t, rfl⟩, fun _ _ => .int i⟩
    | str l t => exact ⟨.str _, ⟨t, rfl⟩, fun _ _ => .str l⟩) k⟩
/-- a tuple of tuples -/
def KT2 (K : KW) : PV → Value → Prop := fun x u => KV1 K x u ∨ ∃ xs a, x = .tup xs ∧ u = .ref a ∧ KTup K (KV1 K) xs a
theorem HasC.tup2 {K : KW} {mg : Str → Option Value} {x : Str} {a : Addr} {xs : List PV} (h : mg x = some (.ref a)) (k : KTup K (KT2 K) xs a) : HasC K mg x (.tup xs) :=
  ⟨_, .ref a, h, rfl, ktup_rp (fun x u h => by
    have base : ∀ (x : PV) (u : Value), KV1 K x u → ∃ v, RelV v u ∧ ∀ g H, Rp K g H x v := fun x u h => by
      cases h with
      | non => exact ⟨.non, rfl, fun _ _ => .non⟩
      | bl b => exact ⟨.bl b, rfl, fun _ _ => .bl b⟩
      | int i t => exact ⟨.int i, ⟨t, rfl⟩, fun _ _ => .int i⟩
      | str l t => exact ⟨.str _, ⟨t, rfl⟩, fun _ _ => .str l⟩
    rcases h with h | ⟨xs, a, rfl, rfl, h⟩
    · exact base x u h
    · exact ⟨.ref a, rfl, ktup_rp base h⟩) k⟩
end TT
end

section
set_option Elab.async false
set_option linter.all false
set_option autoImplicit false
set_option maxRecDepth 100000
/-! TT: unpacking of lists, texts searched, calls with keywords -/
namespace TT
open PySem PySem.Spec PyProof.Rows L2
section
variable {X : Cx} {Ξ : XC} {a b c e o : Expr} {es : List Expr} {pos : Pos} {fa fb fc : SE} {ft : ST} {K : KW}
/-- a, b, .. = a list -/
theorem sg_seq {is : List Nat} {k : Nat} (n : Nat) (hc : X.calm = true) (h : PGs X es (rdGs X.kw Ξ is)) (hl : is.length = n := by rfl) (hn : (assignEach es X.env).length = n := by rfl) (hst : (assignEach es X.env).findIdx? (·.1) = none := by rfl) : PG X (.Tuple es k pos) (rdG X.kw Ξ (gUnp is)) :=
  PG_imp (pg_unl hc h hn hst) fun v σ H Q ⟨g, s, m, pv, em, sr, rv, q⟩ => by
    unfold gUnp at q
    split at q
    · rename_i vs hv
      obtain ⟨a, ws, rfl, ha, r1⟩ := em.look rv hv
      split at q
      · rename_i s' hs
        have hlen : vs.length = n := by rw [← hl]; exact gNames_len _ _ _ _ hs
        exact ⟨a, ws, rfl, SqL.of ha, by rw [← r1.length]; exact hlen, g, s, m, vs, em, sr, r1, s', hs, fun σ' sr' => q g H σ' (Ext.refl _ _) em sr'⟩
      · exact q.elim
    · exact q.elim
/-! ### a sign in a text of two -/
theorem occ2 (p q c : Nat) : Builtin.Str.occurrences ⟨#[p, q]⟩ ⟨#[c]⟩ 0 2 1 = if c = p then [0] else if c = q then [1] else [] := by
  have one : ∀ x y : Nat, ((#[x] : Array Nat) == #[y]) = decide (y = x) := fun x y => by
    by_cases h : y = x
    · subst h; simp
    · rw [decide_eq_false h]
      exact beq_eq_false_iff_ne.mpr fun z => h (by injection z with z; injection z with z; exact z.symm)
  have s0 : Builtin.Str.subAt ⟨#[p, q]⟩ ⟨#[c]⟩ 0 = decide (c = p) := one p c
  have s1 : Builtin.Str.subAt ⟨#[p, q]⟩ ⟨#[c]⟩ 1 = decide (c = q) := one q c
  have l1 : (⟨#[c]⟩ : Str).length = 1 := rfl
  rw [StrLaws.occ_eq]
  have lr : List.range' 0 (2 + 1 - 0) = [0, 1, 2] := rfl
  rw [lr]
  simp only [List.forIn_cons, List.forIn_nil, StrLaws.occBody, s0, s1, l1]
  by_cases h : c = p
  · simp [h]
  · by_cases h' : c = q
    · subst h'; simp [h]
    · simp [h, h']
theorem mt_tIndexS : MtR X "str.index" (rdM X.kw Ξ mIndexS) := by
  refine MtR_imp mt_sindex fun x xs H Q ⟨g, m, a, as, e, ra, rs, q⟩ => ?_
  unfold mIndexS at q
  split at q
  · rename_i p r c
    cases ra.str_inv
    cases rs with
    | cons r1 r2 =>
      cases r2
      cases r1.str_inv
      have := occ2 p r c
      by_cases h : c = p
      · rw [if_pos h] at q this
        exact ⟨_, _, 0, [], rfl, rfl, this, QE.ret e (.int 0) q⟩
      · rw [if_neg h] at q this
        by_cases h' : c = r
        · rw [if_pos h'] at q this
          exact ⟨_, _, 1, [], rfl, rfl, this, QE.ret e (.int 1) q⟩
        · rw [if_neg h'] at q; exact q.elim
  · exact q.elim
theorem mt_tFindS : MtR X "str.find" (rdM X.kw Ξ mFindS) := by
  refine MtR_imp mt_find fun x xs H Q ⟨g, m, a, as, e, ra, rs, q⟩ => ?_
  unfold mFindS at q
  split at q
  · rename_i p r c
    cases ra.str_inv
    cases rs with
    | cons r1 r2 =>
      cases r2
      cases r1.str_inv
      have := occ2 p r c
      refine ⟨_, _, rfl, rfl, ?_⟩
      have hf : Txt.find ⟨#[p, r]⟩ ⟨#[c]⟩ = if c = p then 0 else if c = r then 1 else -1 := by
        show (match Builtin.Str.occurrences ⟨#[p, r]⟩ ⟨#[c]⟩ 0 2 1 with | i :: _ => (i : Int) | [] => -1) = _
        rw [this]
        by_cases h : c = p
        · rw [if_pos h, if_pos h]; rfl
        · by_cases h' : c = r
          · rw [if_neg h, if_neg h, if_pos h', if_pos h']; rfl
          · rw [if_neg h, if_neg h, if_neg h', if_neg h']
      show Q (.int (Txt.find ⟨#[p, r]⟩ ⟨#[c]⟩)) H
      rw [hf]
      exact QE.ret e (.int _) q
  · exact q.elim
end
/-! ### calls with keywords -/
section
variable {P : Program} {w : World} {K : KW} {mg : Str → Option Value} {base : Heap}
def HasK (P : Program) (w : World) (K : KW) (mg : Str → Option Value) (base : Heap) (x : Str) (k n : Nat) (ks : List Str) (sp : Sp) : Prop :=
  ∃ f fd ps, FnOk P w K mg base CX0 k f fd ps sp ∧ mg x = some (.ref f) ∧ PySem.W.keepIn K (.ref f) = true ∧ KBn K fd ps n ks (fun us ws => us ++ ws) (fun vs zs => vs ++ zs)
def HasD (P : Program) (w : World) (K : KW) (mg : Str → Option Value) (base : Heap) (x : Str) (k : Nat) (ds : List PV) (sp : Sp) : Prop :=
  ∃ f fd ps us zs, FnOk P w K mg base CX0 k f fd ps sp ∧ mg x = some (.ref f) ∧ PySem.W.keepIn K (.ref f) = true ∧ Binds K fd ps us ∧ Vals zs us ∧ ∀ g H, Rps K g H ds zs
theorem HasK.toP {x : Str} {k n N j : Nat} {ks : List Str} {b : SS} (h : HasK P w K mg base x k j ks (spI K n (bodyI N n b))) : HasK P w K mg base x k j ks (spP K n (bodyP N n b)) := let ⟨f, fd, ps, a, b, c, d⟩ := h; ⟨f, fd, ps, TT.FnOk.toP a, b, c, d⟩
theorem HasD.toP {x : Str} {k n N : Nat} {ds : List PV} {b : SS} (h : HasD P w K mg base x k ds (spI K n (bodyI N n b))) : HasD P w K mg base x k ds (spP K n (bodyP N n b)) := let ⟨f, fd, ps, us, zs, a, b, c, d, e⟩ := h; ⟨f, fd, ps, us, zs, TT.FnOk.toP a, b, c, d, e⟩
theorem hasK_fn {x : Str} {st : Stmt} {f : Addr} {fd : FuncData} {ps : List Str} {k : Nat} {sp : Sp} (n : Nat) (ks : List Str) (a : FnOk P w K mg base CX0 k f fd ps sp) (F : Fun K x x st f fd) (hm : mg x = some (.ref f))
    (hb : ∀ (kV doc pm : Value) (an : Option Addr) (cdv ct : Value) (us ws : List Value), us.length = n → ws.length = ks.length → bindArgs (PySem.W.fnOf x x (defArgs st) (defBody st) (defScope st) .none kV doc pm an cdv ct) ⟨us, ks.zip ws⟩ = pure (ps.zip (us ++ ws))) : HasK P w K mg base x k n ks sp := by
  refine ⟨f, fd, ps, a, hm, F.kp, ⟨fun s us ws _ l1 l2 => ?_, fun r1 r2 => r1.append r2⟩⟩
  obtain ⟨oc, od, kV, doc, pm, an, cdv, ct, osl, rfl, lk, hcd⟩ := F.ex
  exact .of_eq (hb kV doc pm an cdv ct us ws l1 l2)
theorem funD_mk {x qual : Str} {st : Stmt} {f D : Addr} {oc : Value} {od an : Option Addr} {osl : Array (Option Value)} {doc pm cdv ct : Value} {kws : List (Str × V)} (l : K.K.lookup f = some ⟨oc, od, .func (PySem.W.fnOf x qual (defArgs st) (defBody st) (defScope st) .none (.ref D) doc pm an cdv ct), osl⟩)
    (c : PySem.W.codeIn K cdv qual = true) (k : PySem.W.keepIn K (.ref f) = true) (d : ∀ q ∈ kws, ∃ u, PySem.W.nsIn K D q.1 = some (some u) ∧ RelV q.2 u) : FunD K x qual (defArgs st) (defBody st) (defScope st) [] kws f (PySem.W.fnOf x qual (defArgs st) (defBody st) (defScope st) .none (.ref D) doc pm an cdv ct) :=
  ⟨⟨oc, od, .none, .ref D, doc, pm, an, cdv, ct, osl, rfl, l, c, .inl ⟨rfl, rfl⟩, .inr ⟨D, rfl, d⟩⟩, k⟩
theorem hasD_fn {x : Str} {st : Stmt} {f : Addr} {fd : FuncData} {ps : List Str} {k : Nat} {sp : Sp} {kws : List (Str × V)} {ds : List PV} (n : Nat) (a : FnOk P w K mg base CX0 k f fd ps sp) (hm : mg x = some (.ref f)) (F : FunD K x x (defArgs st) (defBody st) (defScope st) [] kws f fd) (hk : kws ≠ []) (hn : n + kws.length = ps.length)
    (hc : ∀ (D : Addr) (doc pm : Value) (an : Option Addr) (cdv ct : Value) (us ks : List Value), us.length = n → ks.length = kws.length →
      KwChain D ((kws.map (·.1)).zip ks) (bindArgs (PySem.W.fnOf x x (defArgs st) (defBody st) (defScope st) .none (.ref D) doc pm an cdv ct) ⟨us, []⟩) (ps.zip (us ++ ks))) (hd : ∀ g H, Rps K g H ds (kws.map (·.2))) : HasD P w K mg base x k ds sp := by
  obtain ⟨us, hv, hb⟩ := F.binds0 n hk hn hc
  exact ⟨f, fd, ps, us, _, a, hm, F.kp, hb, hv, hd⟩
end
section
variable {X : Cx} {Ξ : XC} {k : Nat} {x : Str} {p pos kpos : Pos} {e : Expr} {es : List Expr} {kws : List Keyword} {fs gs : SA} {fa : SE} {nm : Option Str}
theorem PK_imp {t t' : TA} (h : PK X kws t) (f : ∀ σ H Q, t' σ H Q → t σ H Q) : PK X kws t' := ⟨fun pos pins s σ H Q I q => h.run pos pins s σ H Q I (f σ H Q q)⟩
theorem sk_nil : PK X [] (rdA X.kw Ξ aNil) := PK_imp pk_nil fun σ H Q ⟨g, s, m, em, sr, q⟩ => q g H [] (Ext.refl _ _) em .nil
theorem sk_cons (ha : PE X e (rdE X.kw Ξ fa)) (hr : PK X kws (rdA X.kw Ξ gs)) : PK X (⟨nm, e, kpos⟩ :: kws) (rdA X.kw Ξ (aCons fa gs)) :=
  PK_imp (pk_cons ha hr) fun σ H Q ⟨g, s, m, em, sr, q⟩ => by
    refine ⟨g, s, m, em, sr, QR.bind q fun p hp q1 g1 H1 V x1 e1 r1 => ?_⟩
    refine ⟨g1, s, p.2, e1, sr.ext em x1, QR.bind (QA.later x1 q1) fun p2 hp2 q2 g2 H2 W x2 e2 r2 => ?_⟩
    exact q2 g2 H2 _ x2 e2 (.cons (r1.ext e1 x2) r2)
theorem al_kcons {fa : SE} {f : SA} {n : Nat} (h : ∀ s m xs m', f s m = .ok (xs, m') → xs.length = n) : ∀ s m xs m', aCons fa f s m = .ok (xs, m') → xs.length = n + 1 := fun s m xs m' he => by
  obtain ⟨p, h1, h2⟩ := Rs.bind_eq_ok he
  obtain ⟨p2, h3, h4⟩ := Rs.bind_eq_ok h2
  cases h4
  rw [List.length_cons, h _ _ _ _ h3]
theorem al_knil : ∀ s m xs m', aNil s m = .ok (xs, m') → xs.length = 0 := fun s m xs m' h => by cases h; rfl
theorem sh_callK {n : Nat} {ks : List Str} {F : PF} (N : Nat) (h : HasK X.prog X.w X.kw X.mg X.base x k n ks (spP X.kw N F)) (hr : Room k X.A) (ha : PA X (e :: es) (rdA X.kw Ξ fs)) (hl : ∀ s m xs m', fs s m = .ok (xs, m') → xs.length = (e :: es).length)
    (hkw : PK X kws (rdA X.kw Ξ gs)) (hl2 : ∀ s m xs m', gs s m = .ok (xs, m') → xs.length = ks.length)
    (hn : (e :: es).length = n := by rfl) (hN : n + ks.length = N := by rfl) (hg : Gl X x := by rfl) (hall : (backToKw pos (keywordEach kws X.env)).all (·.1.isSome) = true := by rfl) (hks : (backToKw pos (keywordEach kws X.env)).filterMap (·.1) = ks := by rfl)
    (hdb : (x == ("__debug__" : Str)) = false := by decide) (he : starEach (e :: es) X.env = (false, eval e X.env) :: starEach es X.env := by rfl)
    (hpl : ((backTo pos (starEach (e :: es) X.env)).any (·.1) || (backToKw pos (keywordEach kws X.env)).any (·.1.isNone)) = false := by rfl) :
    PE X (.Call (.Name x p) (e :: es) kws pos) (rdE X.kw Ξ (eNK (cP F) fs gs)) := by
  obtain ⟨f, fd, ps, a, b, c, d⟩ := h
  refine PE_imp (pe_callN a hr hg b c d pass0 ha hkw hall hks hdb he hpl) fun σ H Q ⟨g, s, m, em, sr, q⟩ => ?_
  refine ⟨g, s, m, em, sr, QR.bind q fun p hp q1 g1 H1 V x1 e1 r1 => ?_⟩
  refine ⟨g1, s, p.2, e1, sr.ext em x1, QR.bind (QE.later x1 q1) fun p2 hp2 q2 g2 H2 W x2 e2 r2 => ?_⟩
  have l1 := hl _ _ _ _ hp
  have l2 := hl2 _ _ _ _ hp2
  refine ⟨by rw [← r1.length, l1, hn], by rw [← r2.length, l2], g2, p2.2, p.1 ++ p2.1, by rw [List.length_append, l1, l2, hn, hN], e2, (r1.ext e1 x2).append r2, cP_X0 (QE.later x2 q2)⟩
theorem sh_callD {ds : List PV} {F : PF} (N : Nat) (h : HasD X.prog X.w X.kw X.mg X.base x k ds (spP X.kw N F)) (hr : Room k X.A) (ha : PA X (e :: es) (rdA X.kw Ξ fs)) (hl : ∀ s m xs m', fs s m = .ok (xs, m') → xs.length = (e :: es).length)
    (hN : (e :: es).length + ds.length = N := by rfl) (hg : Gl X x := by rfl)
    (hdb : (x == ("__debug__" : Str)) = false := by decide) (he : starEach (e :: es) X.env = (false, eval e X.env) :: starEach es X.env := by rfl) (hpl : (backTo pos (starEach es X.env)).any (·.1) = false := by rfl) :
    PE X (.Call (.Name x p) (e :: es) [] pos) (rdE X.kw Ξ (eND (cP F) fs ds)) := by
  obtain ⟨f, fd, ps, us, zs, a, b, c, d, hv, hz⟩ := h
  refine PE_imp (pe_call a hr hg b c d hv pass0 ha hdb he hpl) fun σ H Q ⟨g, s, m, em, sr, q⟩ => ?_
  refine ⟨g, s, m, em, sr, QR.bind q fun p hp q1 g1 H1 V x1 e1 r1 => ?_⟩
  exact ⟨g1, p.2, p.1 ++ ds, by rw [List.length_append, hl _ _ _ _ hp, hN], e1, r1.append (hz _ _), cP_X0 (QE.later x1 q1)⟩
end
end TT
end

section
set_option Elab.async false
set_option linter.all false
set_option autoImplicit false
set_option maxRecDepth 100000
/-! TT: x[lo::st] of lists -/
namespace TT
open PySem PySem.Spec PyProof.Rows L2
inductive F2 {α β : Type} (R : α → β → Prop) : List α → List β → Prop
  | nil : F2 R [] []
  | cons {x : α} {y : β} {xs : List α} {ys : List β} : R x y → F2 R xs ys → F2 R (x :: xs) (y :: ys)
theorem pick_len {α β : Type} {xs : List α} {ys : List β} (h : xs.length = ys.length) {R : α → β → Prop} (g : ∀ (i : Nat) x y, xs[i]? = some x → ys[i]? = some y → R x y) : ∀ is : List Nat, F2 R (is.filterMap fun i => xs[i]?) (is.filterMap fun i => ys[i]?)
  | [] => .nil
  | i :: is => by
    have ih := pick_len h g is
    cases hx : xs[i]? with
    | none =>
      have hy : ys[i]? = none := by rw [List.getElem?_eq_none_iff] at hx ⊢; omega
      simp only [List.filterMap_cons, hx, hy]; exact ih
    | some x =>
      have hlt : i < ys.length := by have := (List.getElem?_eq_some_iff.mp hx).1; omega
      have hy : ys[i]? = some ys[i] := List.getElem?_eq_getElem hlt
      simp only [List.filterMap_cons, hx, hy]; exact .cons (g i x _ hx hy) ih
theorem vals_of {xs : List V} {us : List Value} (h : F2 RelV xs us) : Vals xs us := by
  induction h with
  | nil => exact .nil
  | cons a _ ih => exact .cons a ih
theorem vals_step {xs : List V} {us : List Value} (r : Vals xs us) (lo st : Int) : Vals (stepL xs lo st) (stepL us lo st) := by
  unfold stepL
  rw [← r.length]
  refine vals_of (pick_len r.length (fun i x y hx hy => ?_) _)
  obtain ⟨u, h1, h2⟩ := r.get hx
  rw [hy] at h1; cases h1
  exact h2
theorem rps_of {K : KW} {g : Gh} {H : Hp} {xs : List PV} {us : List V} (h : F2 (Rp K g H) xs us) : Rps K g H xs us := by
  induction h with
  | nil => exact .nil
  | cons a _ ih => exact .cons a ih
theorem rps_step {K : KW} {g : Gh} {H : Hp} {xs : List PV} {us : List V} (r : Rps K g H xs us) (lo st : Int) : Rps K g H (stepL xs lo st) (stepL us lo st) := by
  unfold stepL
  rw [← r.length]
  refine rps_of (pick_len r.length (fun i x y hx hy => ?_) _)
  obtain ⟨u, h1, h2⟩ := r.get hx
  rw [hy] at h1; cases h1
  exact h2
theorem pick_step {items : Array Value} {lo st : Int} (h0 : 0 ≤ lo) (h1 : lo ≤ items.size) (hs : 0 < st) : slicePick items (some lo) none (some st) = (stepL items.toList lo st).toArray := by
  have hb : sliceBounds (some lo) none (some st) items.size = (lo, (items.size : Int), st) := by
    simp only [sliceBounds, Option.getD_some]
    rw [if_neg (by omega : ¬ lo < 0)]
    simp only [gt_iff_lt, hs, if_true]
    congr 1
    omega
  unfold slicePick
  rw [hb]
  unfold stepL stepIdx sliceRange
  simp only [gt_iff_lt, hs, if_true, Array.length_toList]
  congr 1
  congr 1
  funext i
  simp
theorem step_len {α : Type} (xs : List α) (lo st : Int) (h0 : 0 ≤ lo) (h1 : lo ≤ xs.length) (hs : 0 < st) : (stepL xs lo st).length ≤ xs.length := by
  unfold stepL
  refine Nat.le_trans (List.length_filterMap_le _ _) ?_
  unfold stepIdx
  rw [List.length_map, List.length_range]
  split
  · have := ceilDiv_le ((xs.length : Int) - lo) st (by omega) (by omega)
    omega
  · omega
section
variable {X : Cx} {Ξ : XC} {fa fb : SE}
def tStep (K : KW) (st : Int) (te ti : TE) : TE := fun σ H Q => te σ H fun x H1 => ∃ a, x = .ref a ∧ ti σ H1 fun y H2 => ∃ lo, y = .int lo ∧ ∃ xs, SqL K H2 a xs ∧ 0 ≤ lo ∧ lo ≤ xs.length ∧ ∀ p, H2 p = none → Q (.ref p) (upd H2 p (.lst (stepL xs lo st)))
theorem pe_step {e i : Expr} {te ti : TE} {st : Int} {k : Nat} {p1 p3 pos : Pos} (hs : 0 < st) (he : PE X e te) (hi : PE X i ti) : PE X (.Subscript e (.Slice (some i) none (some (.Constant (.int st) k p1)) p3) pos) (tStep X.kw st te ti) := by
  refine ⟨fun pins s σ H Q I h => ?_⟩
  refine Subscript_ (thn (he.run pins s σ H _ I h) fun v s1 ⟨x, H1, I1, r1, q1⟩ => ?_)
  obtain ⟨a, ex, q⟩ := q1
  subst ex
  cases r1
  have hst : PO X (some (.Constant (.int st) k p1)) (tPart (tC (.int st))) := po_some pe_int
  have hlo : PO X (some i) (tPart ti) := po_some hi
  refine wpAny_Slice (thn (hlo.run pins s1 σ H1 (fun o H2 => match o with | some lo => ∃ xs, SqL X.kw H2 a xs ∧ 0 ≤ lo ∧ lo ≤ xs.length ∧ ∀ p, H2 p = none → Q (.ref p) (upd H2 p (.lst (stepL xs lo st))) | none => False) I1 q) fun vl s2 ⟨l, H2, I2, pl, hq⟩ => ?_)
  obtain _ | lo := l
  · exact hq.elim
  obtain ⟨xs, hx, l0, l1, q⟩ := hq
  refine thn (po_none.run pins s2 σ H2 (fun o H3 => o = none ∧ H3 = H2) I2 ⟨rfl, rfl⟩) fun vu s3 ⟨u, H3, I3, pu, eu, e3⟩ => ?_
  subst eu e3
  refine thn (hst.run pins s3 σ H3 (fun o H4 => o = some st ∧ H4 = H3) I3 ⟨st, rfl, rfl, rfl⟩) fun vs s4 ⟨o, H4, I4, ps, eo, e4⟩ => ?_
  subst eo e4
  have I5 : Inv X pins σ H4 { s4 with heap := s4.heap.push { cls := .type "slice", data := .fields #[vl, vu, vs] } } := I4.kept (t' := s4.toks) fun b ob q => Heap.get?_push_of_some _ q
  obtain ⟨its, r, ht, hz⟩ := I5.list hx
  have hlen := r.length
  show wpAny (model X.prog X.w) X.A (subscriptTail e (.Slice (some i) none (some (.Constant (.int st) k p1)) p3) (.ref a) (.ref s4.heap.objs.size)) (EP X pins σ Q) X.xe { s4 with heap := s4.heap.push { cls := .type "slice", data := .fields #[vl, vu, vs] } }
  refine tail_any (ops := [.ref a, .ref s4.heap.objs.size]) ht.isList.typeIs (PySem.slot_list_getitem.lookup) ?_ (by with_unfolding_all rfl)
  refine wpAny_getItem_list_slice ht.isList (Heap.IsSliceOf.new _ vl vu vs) pl pu ps (by intro z; cases z; omega) ?_ (by rw [List.size_toArray]; omega)
  rw [pick_step l0 (by rw [List.size_toArray]; omega) hs]
  refine ⟨.ref _, _, I5.laid (t' := s4.toks) (o := .lst (stepL xs lo st)) (fun b ob q => Heap.get?_push_of_some _ q) (Nat.le_refl _) ?_, rfl, q _ (I5.hok.fresh (Nat.le_refl _))⟩
  exact ⟨Nat.le_trans (step_len xs lo st l0 l1 hs) hz, _, 0, vals_step r lo st, Heap.get?_push_size _ rfl⟩
theorem se_slS {e i : Expr} {st : Int} {k : Nat} {p1 p3 pos : Pos} (he : PE X e (rdE X.kw Ξ fa)) (hi : PE X i (rdE X.kw Ξ fb)) (hs : 0 < st := by decide) : PE X (.Subscript e (.Slice (some i) none (some (.Constant (.int st) k p1)) p3) pos) (rdE X.kw Ξ (eSlS fb st fa)) :=
  PE_imp (pe_step hs he hi) fun σ H Q ⟨g, s, m, em, sr, q⟩ => by
    refine ⟨g, s, m, em, sr, QR.bind q fun p hp q1 g1 H1 V x1 e1 r1 => ?_⟩
    obtain ⟨v, m1⟩ := p
    simp only at q1
    cases v with
    | ref n =>
      obtain ⟨a1, rfl, hn⟩ := r1.ref_inv
      refine ⟨a1, rfl, g1, s, m1, e1, sr.ext em x1, QR.bind (QE.later x1 q1) fun p2 hp2 q3 g2 H2 W x2 e2 r2 => ?_⟩
      obtain ⟨l, m2⟩ := p2
      have q4 : QE X.kw Ξ g2 H2 Q (oStep st n l m2) := QE.later x2 q3
      unfold oStep at q4
      split at q4
      · rename_i i
        split at q4
        · rename_i xs hm
          split at q4
          · rename_i hc
            simp only [Bool.and_eq_true, decide_eq_true_eq] at hc
            cases r2.int_inv
            obtain ⟨a2, vs, h1, h2, h3⟩ := e2.obj _ _ hm
            rw [x2.phi _ _ hn] at h1; cases h1
            exact ⟨_, rfl, vs, SqL.of h2, hc.1, by rw [← h3.length]; exact hc.2, fun p hp => QE.newL e2 (rps_step h3 _ _) q4 hp⟩
          · exact q4.elim
        · exact q4.elim
      · exact q4.elim
    | _ => exact q1.elim
end
end TT
end

section
set_option Elab.async false
set_option linter.all false
set_option autoImplicit false
set_option maxRecDepth 100000
/-! TT: dicts whose keys are texts and whole numbers -/
namespace TT
open PySem PySem.Spec PyProof.Rows L2
theorem keyOf_ok {k : PV} (h : keyOk k = true) : ∃ k', keyOf k = some k' := by
  cases k <;> first | exact ⟨_, rfl⟩ | cases h
theorem keyOf_eq {a b : PV} {a' b' : Key} (ha : keyOf a = some a') (hb : keyOf b = some b') : keyEq a b = decide (a' = b') := by
  cases a <;> cases b <;> simp only [keyOf] at ha hb <;> cases ha <;> cases hb
  · rename_i i j
    simp only [keyEq, Sum.inl.injEq]
  · rfl
  · rfl
  · rename_i x y
    have : (Sum.inr (⟨x.toArray⟩ : Str) : Key) = Sum.inr ⟨y.toArray⟩ ↔ x = y := by
      constructor
      · intro h; injection h with h; injection h with h; simpa using h
      · intro h; rw [h]
    simp only [keyEq, this]
section
variable {K : KW} {g g' : Gh} {m m' : Mm} {H H' : Hp}
theorem rp_key {k : PV} {v : V} {k' : Key} (r : Rp K g H k v) (h : keyOf k = some k') : v = kV k' := by
  cases r <;> simp only [keyOf] at h <;> cases h <;> rfl
theorem RKs.find {k : PV} {k' : Key} (hk : keyOf k = some k') : ∀ {kvs : List (PV × PV)} {vs : List (Key × V)}, RKs K g H kvs vs → ∀ x, dFind kvs k = some x → ∃ v, valV vs k' = some v ∧ Rp K g H x v
  | _, _, .nil, x, h => by simp [dFind] at h
  | _, _, .cons (k := a) (x := y) (k' := a') (v := w) (xs := r) (vs := rs) ka rv rest, x, h => by
    have e := keyOf_eq ka hk
    by_cases c : a' = k'
    · have e1 : keyEq a k = true := by rw [e]; simp [c]
      have : dFind ((a, y) :: r) k = some y := by simp [dFind, List.find?_cons, e1]
      rw [this] at h; cases h
      exact ⟨w, valV_pos c, rv⟩
    · have e1 : keyEq a k = false := by rw [e]; simp [c]
      have : dFind ((a, y) :: r) k = dFind r k := by simp [dFind, List.find?_cons, e1]
      rw [this] at h
      obtain ⟨v, h1, h2⟩ := RKs.find hk rest x h
      exact ⟨v, by rw [valV_neg c]; exact h1, h2⟩
theorem RKs.any {k : PV} {k' : Key} (hk : keyOf k = some k') : ∀ {kvs : List (PV × PV)} {vs : List (Key × V)}, RKs K g H kvs vs → (kvs.any fun p => keyEq p.1 k) = (vs.any fun p => decide (p.1 = k'))
  | _, _, .nil => rfl
  | _, _, .cons ka rv rest => by simp only [List.any_cons, keyOf_eq ka hk, RKs.any hk rest]
theorem RKs.repl {k : PV} {k' : Key} {x : PV} {v : V} (hk : keyOf k = some k') (r : Rp K g H x v) : ∀ {kvs : List (PV × PV)} {vs : List (Key × V)}, RKs K g H kvs vs → RKs K g H (kvs.map fun p => if keyEq p.1 k = true then (p.1, x) else p) (vs.map fun p => if p.1 = k' then (p.1, v) else p)
  | _, _, .nil => .nil
  | _, _, .cons (k' := a') ka rv rest => by
    rw [List.map_cons, List.map_cons]
    have e := keyOf_eq ka hk
    by_cases c : a' = k'
    · rw [if_pos (by rw [e]; simp [c]), if_pos c]; exact .cons ka r (RKs.repl hk r rest)
    · rw [if_neg (by rw [e]; simp [c]), if_neg c]; exact .cons ka rv (RKs.repl hk r rest)
theorem RKs.snoc {k : PV} {k' : Key} {x : PV} {v : V} (hk : keyOf k = some k') (r : Rp K g H x v) : ∀ {kvs : List (PV × PV)} {vs : List (Key × V)}, RKs K g H kvs vs → RKs K g H (kvs ++ [(k, x)]) (vs ++ [(k', v)])
  | _, _, .nil => .cons hk r .nil
  | _, _, .cons ka rv rest => .cons ka rv (RKs.snoc hk r rest)
theorem RKs.put {k : PV} {k' : Key} {x : PV} {v : V} (hk : keyOf k = some k') (r : Rp K g H x v) {kvs : List (PV × PV)} {vs : List (Key × V)} (h : RKs K g H kvs vs) : RKs K g H (dPut kvs k x) (putK vs k' v) := by
  unfold dPut putK
  rw [h.any hk]
  split
  · exact h.repl hk r
  · exact h.snoc hk r
theorem RKs.merge {more : List (PV × PV)} {ms : List (Key × V)} (r : RKs K g H more ms) : ∀ {kvs : List (PV × PV)} {vs : List (Key × V)}, RKs K g H kvs vs → RKs K g H (dMerge kvs more) (mergeK vs ms) := by
  induction r with
  | nil => intro kvs vs h; exact h
  | cons ka rv _ ih => intro kvs vs h; exact ih (h.put ka rv)
theorem RKs.length : ∀ {kvs : List (PV × PV)} {vs : List (Key × V)}, RKs K g H kvs vs → kvs.length = vs.length
  | _, _, .nil => rfl
  | _, _, .cons _ _ r => by rw [List.length_cons, List.length_cons, RKs.length r]
inductive RPs (K : KW) (g : Gh) (H : Hp) : List (PV × PV) → List (V × V) → Prop
  | nil : RPs K g H [] []
  | cons {a b : PV} {c d : V} {xs : List (PV × PV)} {ys : List (V × V)} : Rp K g H a c → Rp K g H b d → RPs K g H xs ys → RPs K g H ((a, b) :: xs) ((c, d) :: ys)
theorem RPs.keys : ∀ {xs : List (PV × PV)} {ys : List (V × V)}, RPs K g H xs ys → xs.all (fun p => keyOk p.1) = true → ∃ kvs : List (Key × V), ys = kvs.map (fun kv => (kV kv.1, kv.2)) ∧ RKs K g H xs kvs
  | _, _, .nil, _ => ⟨[], rfl, .nil⟩
  | _, _, .cons ra rb r, h => by
    simp only [List.all_cons, Bool.and_eq_true] at h
    obtain ⟨k', hk⟩ := keyOf_ok h.1
    obtain ⟨kvs, e, q⟩ := RPs.keys r h.2
    refine ⟨(k', _) :: kvs, ?_, .cons hk rb q⟩
    rw [List.map_cons, e, rp_key ra hk]
theorem RPs.ext (e : Emb K g m H) (x : Ext g H g' H') : ∀ {xs : List (PV × PV)} {ys : List (V × V)}, RPs K g H xs ys → RPs K g' H' xs ys
  | _, _, .nil => .nil
  | _, _, .cons a b r => .cons (a.ext e x) (b.ext e x) (RPs.ext e x r)
/-- an object that stands comes into the memory -/
theorem Emb.adopt (e : Emb K g m H) {p : Addr} {u : HO} {ob : Ob} (hp : H p = some u) (mu : Mut (some u)) (hn : ∀ n, g.φ n ≠ some p) (hr : g.ro p = none) (ho : ROb K (g.addP m.length p) H m.length ob) :
    Emb K (g.addP m.length p) (m ++ [ob]) H ∧ ∀ {v w}, Rp K g H v w → Rp K (g.addP m.length p) H v w := by
  have hφ : ∀ n a, g.φ n = some a → (g.addP m.length p).φ n = some a := fun n a h => by
    have : n ≠ m.length := fun z => by subst z; rw [e.fresh_id] at h; cases h
    show (if n = m.length then some p else g.φ n) = some a
    rw [if_neg this]; exact h
  have key : ∀ (v : PV) (w : V), Rp K g H v w → Rp K (g.addP m.length p) H v w := fun v w r => r.mono hφ (fun _ _ h => h) (fun _ _ h => h)
  have keys : ∀ (v : List PV) (w : List V), Rps K g H v w → Rps K (g.addP m.length p) H v w := fun v w r => r.mono hφ (fun _ _ h => h) (fun _ _ h => h)
  refine ⟨⟨fun n o h => ?_, fun n a h => ?_, fun n k a h1 h2 => ?_, fun a u' h => ?_, e.nt, e.tab⟩, fun {v w} r => key v w r⟩
  · by_cases hlt : n < m.length
    · rw [List.getElem?_append_left hlt] at h
      have q := e.obj n o h
      cases o with
      | lst ys =>
        obtain ⟨a, ws, h1, h2, h3⟩ := q
        exact ⟨a, ws, hφ _ _ h1, h2, keys _ _ h3⟩
      | dict ys =>
        obtain ⟨a, ws, h1, h2, h3⟩ := q
        exact ⟨a, ws, hφ _ _ h1, h2, h3.imp fun r => key _ _ r⟩
      | ins cN ys =>
        obtain ⟨a, cC, cD, ws, h1, cM, h2, h3⟩ := q
        exact ⟨a, cC, cD, ws, hφ _ _ h1, cM, h2, h3.imp fun r => key _ _ r⟩
      | dl zs =>
        obtain ⟨a, o2, ws, h1, h2, h3⟩ := q
        exact ⟨a, o2, ws, hφ _ _ h1, h2, h3.imp fun r => key _ _ r⟩
      | kd ys =>
        obtain ⟨a, ws, h1, h2, h3⟩ := q
        exact ⟨a, ws, hφ _ _ h1, h2, h3.imp fun r => key _ _ r⟩
      | kl zs =>
        obtain ⟨a, o2, ws, h1, h2, h3⟩ := q
        exact ⟨a, o2, ws, hφ _ _ h1, h2, h3.imp fun r => key _ _ r⟩
      | dead => trivial
      | tab P l => exact q
    · have hle : m.length ≤ n := Nat.le_of_not_lt hlt
      rw [List.getElem?_append_right hle] at h
      have h0 : n - m.length = 0 := by
        cases hk : n - m.length with
        | zero => rfl
        | succ j => rw [hk] at h; simp at h
      rw [h0] at h
      have hnm : n = m.length := by omega
      simp at h
      subst h
      subst hnm
      exact ho
  · have h' : (if n = m.length then some p else g.φ n) = some a := h
    rw [List.length_append, List.length_singleton]
    split at h'
    · cases h'
      exact ⟨by omega, u, hp, .inl mu⟩
    · obtain ⟨h1, u', h2, h3⟩ := e.dom n a h'
      exact ⟨by omega, u', h2, h3⟩
  · have h1' : (if n = m.length then some p else g.φ n) = some a := h1
    have h2' : (if k = m.length then some p else g.φ k) = some a := h2
    split at h1' <;> split at h2'
    · omega
    · cases h1'; exact (hn _ h2').elim
    · cases h2'; exact (hn _ h1').elim
    · exact e.inj n k a h1' h2'
  · obtain ⟨h1, h2⟩ := e.ro a u' h
    refine ⟨h1, fun n hn' => ?_⟩
    have hn'' : (if n = m.length then some p else g.φ n) = some a := hn'
    split at hn''
    · cases hn''
      have h' : g.ro p = some u' := h
      rw [hr] at h'; cases h'
    · have q := h2 n hn''
      have : n < m.length := (e.dom n a hn'').1
      rw [List.getElem?_append_left this]; exact q
theorem Ext.adopt {g0 : Gh} {H0 : Hp} (x : Ext g0 H0 g H) (e : Emb K g m H) {p : Addr} (hp : H0 p = none) : Ext g0 H0 (g.addP m.length p) H :=
  ⟨fun n a h => by
    have h' := x.phi n a h
    have : n ≠ m.length := fun z => by subst z; rw [e.fresh_id] at h'; cases h'
    show (if n = m.length then some p else g.φ n) = some a
    rw [if_neg this]; exact h', x.ro, x.fr, fun a u h hn ht n => by
    show (if n = m.length then some p else g.φ n) ≠ some a
    split
    · intro z; cases z; rw [hp] at h; cases h
    · exact x.old a u h hn ht n, x.oldr, x.T⟩
/-- a dict in the memory is written -/
theorem Emb.wr_dict (e : Emb K g m H) {n : Nat} {a : Addr} {xs ys : List (PV × PV)} {ws : List (Key × V)} (hm : m[n]? = some (.dict xs)) (ha : g.φ n = some a) (r : RKs K g H ys ws) :
    Ext g H g (upd H a (.dK ws)) ∧ Emb K g (m.set n (.dict ys)) (upd H a (.dK ws)) := by
  have x : Ext g H g (upd H a (.dK ws)) := ⟨fun _ _ h => h, fun _ _ h => h, fun b u h hb _ => by
    rw [upd_ne (fun z => hb n (by rw [z]; exact ha))]; exact h, fun _ _ _ h _ => h, fun _ _ _ _ _ h => h, rfl⟩
  have hlt : n < m.length := (List.getElem?_eq_some_iff.mp hm).1
  obtain ⟨a0, vs0, p1, p2, _⟩ := e.obj n _ hm
  rw [ha] at p1; cases p1
  refine ⟨x, fun k o h => ?_, fun k b h => ?_, e.inj, fun b u h => ?_, e.nt, tabs_wr e.tab p2 (fun ps z => nomatch z) (fun ps z => nomatch z)⟩
  · by_cases hk : n = k
    · subst hk
      rw [List.getElem?_set_self hlt] at h
      cases h
      exact ⟨a, ws, ha, upd_same, r.ext e x⟩
    · rw [List.getElem?_set_ne hk] at h
      have q := e.obj k o h
      cases o with
      | lst zs =>
        obtain ⟨b, us, h1, h2, h3⟩ := q
        refine ⟨b, us, h1, ?_, h3.ext e x⟩
        rw [upd_ne (fun z => hk (e.inj n k a ha (by rw [← z]; exact h1)))]
        exact h2
      | dict zs =>
        obtain ⟨b, us, h1, h2, h3⟩ := q
        refine ⟨b, us, h1, ?_, h3.ext e x⟩
        rw [upd_ne (fun z => hk (e.inj n k a ha (by rw [← z]; exact h1)))]
        exact h2
      | ins cN zs =>
        obtain ⟨b, cC, cD, us, h1, cM, h2, h3⟩ := q
        refine ⟨b, cC, cD, us, h1, cM, ?_, h3.ext e x⟩
        rw [upd_ne (fun z => hk (e.inj n k a ha (by rw [← z]; exact h1)))]
        exact h2
      | dl zs =>
        obtain ⟨b, ob, us, h1, h2, h3⟩ := q
        exact ⟨b, ob, us, h1, x.ro _ _ h2, h3.ext e x⟩
      | kd zs =>
        obtain ⟨b, us, h1, h2, h3⟩ := q
        refine ⟨b, us, h1, ?_, h3.ext e x⟩
        rw [upd_ne (fun z => hk (e.inj n k a ha (by rw [← z]; exact h1)))]
        exact h2
      | kl zs =>
        obtain ⟨b, ob, us, h1, h2, h3⟩ := q
        exact ⟨b, ob, us, h1, x.ro _ _ h2, h3.ext e x⟩
      | dead => trivial
      | tab P l => exact q
  · obtain ⟨h1, u, h2, h3⟩ := e.dom k b h
    rw [List.length_set]
    by_cases hb : b = a
    · subst hb; exact ⟨h1, _, upd_same, .inl trivial⟩
    · exact ⟨h1, u, by rw [upd_ne hb]; exact h2, h3⟩
  · obtain ⟨h1, h2⟩ := e.ro b u h
    have hb : b ≠ a := fun z => by
      subst z
      have := h2 n ha
      rw [hm] at this; cases this
    refine ⟨by rw [upd_ne hb]; exact h1, fun k hk => ?_⟩
    have q := h2 k hk
    have hkn : n ≠ k := fun z => by subst z; rw [hm] at q; cases q
    rw [List.getElem?_set_ne hkn]; exact q
end
section
variable {X : Cx} {Ξ : XC} {o i e value : Expr} {pos pos' : Pos} {fa fb fc : SE}
/-- d[k] -/
theorem se_dget (hu : X.A.units + 1 < cLine) (ho : PE X o (rdE X.kw Ξ fa)) (hi : PE X i (rdE X.kw Ξ fb)) (hs : NoSl i := by exact fun _ _ => rfl) : PE X (.Subscript o i pos) (rdE X.kw Ξ (e2 oDGet fa fb)) :=
  PE_imp (pe_dget hu ho hi hs) fun σ H Q h => by
    obtain ⟨g, s, m, em, sr, q⟩ := h
    refine ⟨g, s, m, em, sr, QR.bind q fun p hp q1 g1 H1 V x1 e1 r1 => ?_⟩
    refine ⟨g1, s, p.2, e1, sr.ext em x1, QR.bind (QE.later x1 q1) fun p2 hp2 q2 g2 H2 W x2 e2 r2 => ?_⟩
    have q3 : QE X.kw Ξ g2 H2 Q (oDGet p.1 p2.1 p2.2) := QE.later x2 q2
    have r1' := r1.ext e1 x2
    unfold oDGet at q3
    split at q3
    · rename_i n hn
      rw [hn] at r1'
      obtain ⟨a, rfl, ha⟩ := r1'.ref_inv
      split at q3
      · rename_i kvs hm
        split at q3
        · rename_i hk
          split at q3
          · rename_i v hv
            obtain ⟨a2, vs, h1, h2, h3⟩ := e2.obj _ _ hm
            rw [ha] at h1; cases h1
            obtain ⟨k', hk'⟩ := keyOf_ok hk
            obtain ⟨w, hw, rw'⟩ := h3.find hk' v hv
            refine ⟨a, w, rfl, ?_, QE.ret e2 rw' q3⟩
            rw [rp_key r2 hk', ← hw]
            exact DGet.k h2
          · exact q3.elim
        · exact q3.elim
      · exact q3.elim
    · exact q3.elim
/-- d[k] = v -/
theorem ss_dset (hu : X.A.units + 1 < cLine) (hv : PE X value (rdE X.kw Ξ fc)) (ho : PE X o (rdE X.kw Ξ fa)) (hi : PE X i (rdE X.kw Ξ fb)) (hs : swapsWith value (some (.Subscript o i pos')) pos.line X.env = pure false := by rfl) : PS X (.Assign [.Subscript o i pos'] value pos) (rdS X.kw Ξ (sDSet fc fa fb)) :=
  PS_imp (ps_dput hu ho hi hv hs) fun D σ H h => by
    obtain ⟨g, s, m, em, sr, q⟩ := h
    refine ⟨g, s, m, em, sr, QR.bind q fun p hp q1 g1 H1 V x1 e1 r1 => ?_⟩
    refine ⟨g1, s, p.2, e1, sr.ext em x1, QR.bind (QS.later x1 q1) fun p2 hp2 q2 g2 H2 W x2 e2 r2 => ?_⟩
    refine ⟨g2, s, p2.2, e2, (sr.ext em x1).ext e1 x2, QR.bind (QS.later x2 q2) fun p3 hp3 q3 g3 H3 U x3 e3 r3 => ?_⟩
    have q4 : QS X.kw Ξ g3 H3 D ((oDSet p2.1 p3.1 p.1 p3.2).bind fun m4 => .ok (.nx, s, m4)) := QS.later x3 q3
    have r1' := (r1.ext e1 x2).ext e2 x3
    have r2' := r2.ext e2 x3
    have sr' := ((sr.ext em x1).ext e1 x2).ext e2 x3
    unfold oDSet at q4
    split at q4
    · rename_i n hn
      rw [hn] at r2'
      obtain ⟨a, rfl, ha⟩ := r2'.ref_inv
      split at q4
      · rename_i kvs hm
        split at q4
        · rename_i hk
          simp only [Bool.and_eq_true, decide_eq_true_eq] at hk
          obtain ⟨a2, vs, h1, h2, h3⟩ := e3.obj _ _ hm
          rw [ha] at h1; cases h1
          obtain ⟨k', hk'⟩ := keyOf_ok hk.1
          obtain ⟨x4, e4⟩ := e3.wr_dict hm ha (h3.put hk' r1')
          refine ⟨a, _, rfl, ?_, q4 _ _ σ x4 e4 (sr'.ext e3 x4)⟩
          rw [rp_key r3 hk']
          exact DPut.k h2 (by rw [← h3.length]; exact line_lt hk.2)
        · exact q4.elim
      · exact q4.elim
    · exact q4.elim
/-! ### displays -/
abbrev trsOf (K : KW) (Ξ : XC) (L : List (SE × SE)) : List (TE × TE) := L.map fun p => (rdE K Ξ p.1, rdE K Ξ p.2)
theorem tp_of {K : KW} : ∀ (L : List (SE × SE)) {σ : L2.St} {H : Hp} {Q : List (V × V) → Hp → Prop} {g : Gh} {s : Sl} {m : Mm}, Emb K g m H → Sr K g H s σ →
    QR K Ξ g H (fun p => ∀ g' H' Vs, Ext g H g' H' → Emb K g' p.2 H' → RPs K g' H' p.1 Vs → Q Vs H') (pairsOf L s m) → tPairs (trsOf K Ξ L) σ H Q
  | [], σ, H, Q, g, s, m, em, sr, q => q g H [] (Ext.refl _ _) em .nil
  | (fa, fb) :: L, σ, H, Q, g, s, m, em, sr, q => by
    refine ⟨g, s, m, em, sr, QR.bind q fun p hp q1 g1 H1 V x1 e1 r1 => ?_⟩
    have q1' := QR.later (P' := fun p2 => ∀ g' H' Vs, Ext g1 H1 g' H' → Emb K g' p2.2 H' → RPs K g' H' p2.1 Vs → Q Vs H') x1 q1 fun _ h g' H' Vs x => h g' H' Vs (x1.trans x)
    refine ⟨g1, s, p.2, e1, sr.ext em x1, QR.bind q1' fun p2 hp2 q2 g2 H2 W x2 e2 r2 => ?_⟩
    have q2' := QR.later (P' := fun p3 => ∀ g' H' Vs, Ext g2 H2 g' H' → Emb K g' p3.2 H' → RPs K g' H' p3.1 Vs → Q Vs H') x2 q2 fun _ h g' H' Vs x => h g' H' Vs (x2.trans x)
    refine tp_of L e2 ((sr.ext em x1).ext e1 x2) (QR.bind q2' fun p3 hp3 q3 g3 H3 Vs x3 e3 r3 => ?_)
    exact q3 g3 H3 _ x3 e3 (.cons ((r1.ext e1 x2).ext e2 x3) (r2.ext e2 x3) r3)
theorem se_dict {keys : List (Option Expr)} {values : List Expr} (L : List (SE × SE)) (h : PPs X pos keys values (trsOf X.kw Ξ L)) (hall : keys.all (·.isSome) = true := by rfl) (hl : keys.length = values.length := by rfl) (h0 : keys ≠ [] := by intro z; cases z) (h15 : keys.length ≤ 15 := by decide) :
    PE X (.Dict keys values pos) (rdE X.kw Ξ (eDict L)) :=
  PE_imp (pe_disp h hall hl h0 h15) fun σ H Q ⟨g, s, m, em, sr, q⟩ p hp => by
    have hf := em.free hp
    have hr := em.freeR hp
    obtain ⟨e0, tr⟩ := em.other (D := p) (o := .dK []) hf hr (fun xs z => by
      rcases z with z | ⟨o, z⟩ <;> rw [hp] at z <;> cases z) (tabs_new em.tab hp)
    have x0 : Ext g H g (upd H p (.dK [])) := Ext.newTup hp fun ⟨n, z⟩ => hf n z
    refine tp_of L e0 (sr_of_rp (fun r => tr r) sr) (QR.bindAt x0 q fun pr hpr q1 g1 H1 Vs x1 e1 r1 => ?_)
    have hp1 : H1 p = some (.dK []) := x1.fr p _ upd_same hf (fun _ z => nomatch z)
    have hf1 : ∀ n, g1.φ n ≠ some p := x1.old p _ upd_same hf (fun _ z => nomatch z)
    have hr1 : g1.ro p = none := x1.oldr p _ upd_same hf (fun _ z => nomatch z) hr
    refine ⟨hp1, ?_⟩
    have q2 : QE X.kw Ξ g H Q (if pr.1.all (fun p => keyOk p.1) && decide (pr.1.length ≤ 15) then .ok (.ref pr.2.length, pr.2 ++ [.dict (dMerge [] pr.1)]) else .no) := q1
    by_cases hc : (pr.1.all (fun p => keyOk p.1) && decide (pr.1.length ≤ 15)) = true
    · rw [if_pos hc] at q2
      simp only [Bool.and_eq_true, decide_eq_true_eq] at hc
      obtain ⟨kvs, rfl, rk⟩ := r1.keys hc.1
      refine ⟨kvs, rfl, by rw [← rk.length]; exact hc.2, ?_⟩
      obtain ⟨e2, tr2⟩ := e1.other (D := p) (o := .dK (mergeK [] kvs)) hf1 hr1 (fun xs z => by
        rcases z with z | ⟨o, z⟩ <;> rw [hp1] at z <;> cases z) (tabs_wr e1.tab hp1 (fun _ z => nomatch z) (fun _ z => nomatch z))
      have x2 : Ext g H g1 (upd H1 p (.dK (mergeK [] kvs))) := Ext.other (x0.trans x1) hp
      have rk2 : RKs X.kw g1 (upd H1 p (.dK (mergeK [] kvs))) (dMerge [] pr.1) (mergeK [] kvs) := (RKs.merge rk .nil).imp fun r => tr2 r
      have hφ : ∀ n a, g1.φ n = some a → (g1.addP pr.2.length p).φ n = some a := fun n a h => by
        have : n ≠ pr.2.length := fun z => by subst z; rw [e1.fresh_id] at h; cases h
        show (if n = pr.2.length then some p else g1.φ n) = some a
        rw [if_neg this]; exact h
      obtain ⟨e3, tr3⟩ := e2.adopt (p := p) (u := .dK (mergeK [] kvs)) (ob := .dict (dMerge [] pr.1)) upd_same trivial hf1 hr1 ⟨p, _, by show (if pr.2.length = pr.2.length then some p else _) = some p; rw [if_pos rfl], upd_same, rk2.imp fun r => r.mono hφ (fun _ _ h => h) (fun _ _ h => h)⟩
      exact q2 _ _ _ (x2.adopt e2 hp) e3 (.ref (by show (if pr.2.length = pr.2.length then some p else _) = some p; rw [if_pos rfl]))
    · rw [if_neg hc] at q2; exact q2.elim
end
end TT
end

section
set_option Elab.async false
set_option linter.all false
set_option autoImplicit false
set_option maxRecDepth 100000
/-! TT: dicts with text or int keys: k in d, k not in d, d.get(k, x) -/
namespace TT
open PySem PySem.Spec PyProof.Rows L2
section
variable {K : KW} {g : Gh} {H : Hp}
theorem RKs.findN {k : PV} {k' : Key} (hk : keyOf k = some k') : ∀ {kvs : List (PV × PV)} {vs : List (Key × V)}, RKs K g H kvs vs → dFind kvs k = none → valV vs k' = none
  | _, _, .nil, _ => rfl
  | _, _, .cons (k := a) (x := y) (k' := a') (v := w) (xs := r) (vs := rs) ka rv rest, h => by
    have e := keyOf_eq ka hk
    by_cases c : a' = k'
    · have e1 : keyEq a k = true := by rw [e]; simp [c]
      have : dFind ((a, y) :: r) k = some y := by simp [dFind, List.find?_cons, e1]
      rw [this] at h; cases h
    · have e1 : keyEq a k = false := by rw [e]; simp [c]
      have : dFind ((a, y) :: r) k = dFind r k := by simp [dFind, List.find?_cons, e1]
      rw [this] at h
      rw [valV_neg c]
      exact RKs.findN hk rest h
end
section
variable {X : Cx} {Ξ : XC} {o i e : Expr} {pos : Pos} {fa fb fc : SE}
/-- d.get(k, x) -/
theorem se_dgetd {apos cpos : Pos} (hu : X.A.units + 1 < cLine) (ho : PE X o (rdE X.kw Ξ fa)) (hi : PE X i (rdE X.kw Ξ fb)) (hx : PE X e (rdE X.kw Ξ fc)) (mm : M2 X o "get" apos i e cpos := by exact ⟨rfl, rfl, rfl, rfl⟩) :
    PE X (.Call (.Attribute o "get" apos) [i, e] [] cpos) (rdE X.kw Ξ (eDGetD fa fb fc)) :=
  PE_imp (pe_dget2 hu ho hi hx mm) fun σ H Q ⟨g, s, m, em, sr, q⟩ => by
    refine ⟨g, s, m, em, sr, QR.bind q fun p hp q1 g1 H1 V x1 e1 r1 => ?_⟩
    have q2 := QE.later x1 q1
    obtain ⟨v, m1⟩ := p
    cases v with
    | ref n =>
      obtain ⟨a, rfl, ha⟩ := r1.ref_inv
      simp only at q2
      split at q2
      · rename_i kvs0 hm0
        obtain ⟨a2, vs0, h1, h2, h3⟩ := e1.obj _ _ hm0
        rw [ha] at h1; cases h1
        refine ⟨a, rfl, .inl ⟨vs0, .inl h2⟩, g1, s, m1, e1, sr.ext em x1, QR.bind q2 fun p hp q3 g2 H2 W x2 e2 r2 => ?_⟩
        refine ⟨g2, s, p.2, e2, (sr.ext em x1).ext e1 x2, QR.bind (QE.later x2 q3) fun p3 hp3 q4 g3 H3 Z x3 e3 r3 => ?_⟩
        have q5 := QE.later x3 q4
        have r2' := r2.ext e2 x3
        split at q5
        · rename_i kvs hm
          split at q5
          · rename_i hk
            obtain ⟨a3, vs, i1, i2, i3⟩ := e3.obj _ _ hm
            have ha3 := x3.phi _ _ (x2.phi _ _ ha)
            rw [ha3] at i1; cases i1
            obtain ⟨k', hk'⟩ := keyOf_ok hk
            refine ⟨valV vs k', by rw [rp_key r2' hk']; exact DGet.k i2, ?_⟩
            cases hf : dFind kvs p.1 with
            | none =>
              rw [hf] at q5
              rw [i3.findN hk' hf]
              exact QE.ret e3 r3 q5
            | some v =>
              rw [hf] at q5
              obtain ⟨w, hw, rw'⟩ := i3.find hk' v hf
              rw [hw]
              exact QE.ret e3 rw' q5
          · exact q5.elim
        · exact q5.elim
      · exact q2.elim
    | _ => exact q2.elim
end
section
variable {X : Cx} {Ξ : XC}
theorem op_tDIn (neg : Bool) (op : CmpOp) (hop : op = if neg then .NotIn else .In) (hu : X.A.units + 1 < cLine) : OpR X (compareOp op) (rd2 X.kw Ξ (oDIn neg)) := by
  intro pins s σ H x y v u Q I rx ry ⟨g, m, a, b, em, ra, rb, q⟩
  unfold oDIn at q
  split at q
  · rename_i n
    split at q
    · rename_i kvs hm
      split at q
      · rename_i hk
        obtain ⟨d, rfl, hd⟩ := rb.ref_inv
        obtain ⟨d2, vs, h1, h2, h3⟩ := em.obj _ _ hm
        rw [hd] at h1; cases h1
        obtain ⟨k', hk'⟩ := keyOf_ok hk
        have ex := rp_key ra hk'
        subst ex
        cases ry
        have dg : DGet H d (kV k') (valV vs k') := DGet.k h2
        have eo : (valV vs k').isSome = (dFind kvs a).isSome := by
          cases hf : dFind kvs a with
          | none => rw [h3.findN hk' hf]; rfl
          | some z =>
            obtain ⟨w, hw, _⟩ := h3.find hk' z hf
            rw [hw]; rfl
        subst hop
        cases neg with
        | false => exact d_in hu I dg rx fun s2 I2 => ⟨.bl _, H, I2, rfl, by rw [eo]; exact QE.ret em (.bl _) q⟩
        | true => exact d_notIn hu I dg rx fun s2 I2 => ⟨.bl _, H, I2, rfl, by rw [eo]; exact QE.ret em (.bl _) q⟩
      · exact q.elim
    · exact q.elim
  · exact q.elim
theorem op_din (hu : X.A.units + 1 < cLine) : OpR X (compareOp .In) (rd2 X.kw Ξ (oDIn false)) := op_tDIn false .In rfl hu
theorem op_dnotin (hu : X.A.units + 1 < cLine) : OpR X (compareOp .NotIn) (rd2 X.kw Ξ (oDIn true)) := op_tDIn true .NotIn rfl hu
end
end TT
end

section
set_option Elab.async false
set_option linter.all false
set_option autoImplicit false
set_option maxRecDepth 100000
/-! TT: the lambda's call, where the exception's context is known to be None -/
namespace TT
open PySem PySem.Spec PyProof.Rows L2
/-- a lambda's body, with that wish about what leaves it -/
def lamN (X : Cx) (A : Around) (out : List Env) (t : Shared) (G : Hp) (E : XK) (sc : Scope) (f d : Addr) : Cx :=
  (LamX.lamCx X A out t G E sc f d).wish fun u t1 => wpAny (model X.prog X.w) (A.deeper (LamX.lamEnv X sc t.heap.objs.size f d)) (leaving (LamX.lamEnv X sc t.heap.objs.size f d) u) (fun _ t2 => L2N.CX X.prog X.w out G t E u t2) (fun v t2 => L2N.CX X.prog X.w out G t E v t2) t1
theorem takes_lamN {X : Cx} {A : Around} {out : List Env} {t : Shared} {G : Hp} {E : XK} {sc : Scope} {f d : Addr} : L2N.Takes (lamN X A out t G E sc f d) (fun cls e _ H => E cls e H) := L2N.takes_of rfl rfl rfl rfl
section
variable {X : Cx} {pins : List (Addr × Obj)} {σ : L2.St} {H : Hp} {s : Shared}
theorem act_n {CXg : CXT} {Eg : XK} {Ng : List Str} {qg : Str} {sg : Scope} {g f d : Addr} {cdg pm ctv : Value} {params : Arguments} {body : Expr} {sc : Scope} {k i : Nat} {a : Str} {pn : List (Addr × Obj)} {xe : Value → Shared → Prop} {W : WX} {E : XK} {tb : TE} {p1 p2 : Pos}
    (I : Inv X pins σ H s) (L : LamX.LamS X.env.scope sc) (hob : s.heap.get? f = some (PySem.W.kla_obj "<lambda>" (X.env.qual ++ "<lambda>") params body sc (cloFrom X.env.cells sc.names []) pm d ctv)) (hno : H f = none) (hst : f ∉ frs X.stack)
    (hbd : bindArgs (PySem.W.kla_fn "<lambda>" (X.env.qual ++ "<lambda>") params body sc (cloFrom X.env.cells sc.names []) pm (.ref d) ctv) ⟨[], []⟩ = pure [])
    (tk : L2N.Takes ((cxOf CXg X.prog X.w X.K X.mg X.base Ng qg sg g cdg X.A X.stack s H Eg).tr pn xe) W) (hW : ∀ cls e σ' H', E cls e H' → W cls e σ' H') (hr : Room (k + 1) (X.A.deeper (envOfC qg sg s.heap.objs.size g cdg)))
    (hb : ∀ (A : Around) (out : List Env) (t : Shared) (G : Hp), Room k (A.deeper (LamX.lamEnv X sc t.heap.objs.size f d)) → PE (lamN X A out t G E sc f d) body tb)
    (hN : Ng[i]? = some a) (hv : Vis sg a) (hd : (a == ("__debug__" : Str)) = false) (hcd : (a == ("__classdict__" : Str)) = false) :
    PE ((cxOf CXg X.prog X.w X.K X.mg X.base Ng qg sg g cdg X.A X.stack s H Eg).tr pn xe) (.Call (.Name a p1) [] [] p2)
      (fun τ G Q => τ[i]? = some (some (.ref f)) ∧ G d = some (LamX.CodeO d (X.env.qual ++ "<lambda>")) ∧ tb σ G Q) := by
  refine ⟨fun pz t τ G Q J h => ?_⟩
  obtain ⟨g1, g2, g3⟩ := h
  have look := (pe_var (X := (cxOf CXg X.prog X.w X.K X.mg X.base Ng qg sg g cdg X.A X.stack s H Eg).tr pn xe) (pos := p1) (i := i) hN hv hd hcd).run pz t τ G (fun v G1 => v = .ref f ∧ G1 = G) J ⟨.ref f, g1, rfl, rfl⟩
  refine wpAny_Call_Name_kw (thn look fun u t1 ⟨v, G1, J1, rv, e1, e2⟩ => ?_)
  subst e1
  rw [e2] at J1
  cases (show u = Value.ref f from rv)
  have of1 := J1.base.keep f _ hob hno hst (fun z => nomatch (show f ∈ ([] : List Addr) from z))
  refine PySem.W.callWith_F0 ⟨_, _, _, _, of1⟩ ?_
  have unc : Un (frs X.stack) [] H G s.heap t1.heap := J1.base
  obtain ⟨⟨oc, vs, tt, ho, hdt, hvs⟩, _, _⟩ := J1.hok d _ g2
  have run : codeAny (model X.prog X.w) (X.A.deeper (envOfC qg sg s.heap.objs.size g cdg)) (.call (.ref f) ⟨[], []⟩) (CR (L2N.CX X.prog X.w) (envOfC qg sg s.heap.objs.size g cdg :: X.stack) X.prog X.w G t1 Q E) t1 := by
    refine PySem.W.kla_callFunE hr.depth of1 rfl L.co L.gen rfl ⟨d, oc, vs, tt, rfl, ho, hdt, hvs⟩ ?_
    rw [hbd]
    refine wpAny_pure (wpAny_newFunctionEnv (fun y hy => (L.own y hy).2) (fun y hy => absurd hy (by simp)) (fun h₁ hns hsb => ⟨J1.nolimit.fresh _ hsb, ?_⟩) L.kind)
    have kp : ∀ b o, t1.heap.get? b = some o → h₁.get? b = some o := fun b o e => hsb.extBut b o (Nat.ne_of_lt (Heap.lt_size e)) (Heap.get?_push_of_some _ e)
    have start := LamX.lam_start2 (E := E) (c' := d) (f := f) (tk := t1.toks + ([] : List (Str × Value)).length) I L J1.env0 hr.hd unc hns kp
    have start2 : Inv (lamN X (X.A.deeper (envOfC qg sg s.heap.objs.size g cdg)) (envOfC qg sg s.heap.objs.size g cdg :: X.stack) t1 G E sc f d) [] σ G _ := start.wish _
    refine PySem.W.kla_codeExpr (wpAny_mono ((hb _ _ t1 G (hr.deeper _)).run [] _ _ G Q start2 g3) (fun v t2 hq => ?_) fun e t2 hq => hq)
    obtain ⟨w1, G2, K1, rw1, q⟩ := hq
    exact ⟨w1, G2, K1.os, K1.bare, K1.base, K1.hok, rw1, q⟩
  have out := L2N.passes_call tk hW
  refine wpAny_call (codeAny_mono run fun r t2 hq => ?_)
  cases r with
  | error e => exact out pz τ G t1 e t2 J1 hq
  | ok fl =>
    cases fl with
    | ret u => exact J1.after hq
    | next => exact False.elim hq
    | brk => exact False.elim hq
    | cont => exact False.elim hq
end
end TT
end

section
set_option Elab.async false
set_option linter.all false
set_option autoImplicit false
set_option maxRecDepth 100000
set_option maxHeartbeats 2000000
/-! TT: loops over lists while an exception is handled -/
namespace TT
open PySem PySem.Spec PyProof.Rows L2 HotX
/-- a list's iterator at its end, while an exception is handled whose context is None -/
theorem list_end_hot {prog : Program} {w : World} {A : Around} {E : Value → Shared → Prop} {s : Shared} {j ls y : Addr} {n : Nat} {its : Array Value} {Q : Option Value → Shared → Prop} (hot : HotAt A y s.heap) (hj : s.heap.IsListIter j ls n) (hls : s.heap.IsList ls its) (hn : its[n]? = none)
    (hq : ∀ h2, (∀ b u, b ≠ j → s.heap.get? b = some u → h2.get? b = some u) → Q none { s with heap := h2 }) : wpAny (model prog w) A (pyNext (.ref j)) Q E s := by
  obtain ⟨oj, gj, cj, dj⟩ := id hj
  obtain ⟨ol, gl, _, nl, dl⟩ := hls
  obtain ⟨hh, oy, vy, gy, dy, cy⟩ := hot
  have ne : y ≠ j := fun z => by
    subst z
    rw [gj] at gy
    cases gy
    rw [dj] at dy
    cases dy
    cases cy
  unfold pyNext
  refine wpAny_bind (wpAny_attempt (wpAny_callSpecial?_slot (name := Str.ofString "__next__") hj.typeIs slot_listiter_next (wpAny_call_entry slot_listiter_next hj.typeIs entry_listiter_next ?_ (args_listiter_next _))))
  show wpAny (model prog w) _ (field (.ref j) 0 >>= _) _ _ s
  refine wpAny_bind (wpAny_field gj dj (x := .ref ls) rfl ?_)
  show wpAny (model prog w) _ (if (Value.ref ls == Value.none) = true then _ else _) _ _ s
  rw [if_neg (show ¬ ((Value.ref ls == Value.none) = true) from Bool.false_ne_true)]
  show wpAny (model prog w) _ (field (.ref j) 1 >>= _) _ _ s
  refine wpAny_bind (wpAny_field gj dj (x := .int n 0) rfl ?_)
  show wpAny (model prog w) _ (seqItems? (.ref ls) >>= _) _ _ s
  refine wpAny_bind (wpAny_seqItems gl dl ?_)
  simp only [hn, Int.toNat_natCast]
  refine wpAny_bind (wpAny_rule (wpAny_bind (wpAny_setField gj dj (by simp) ?_)))
  show wpAny (model prog w) _ (newExc (.type "StopIteration") [] >>= _) _ _ _
  refine wpAny_bind ?_
  simp only [newTuple, newExc]
  refine wpAny_bind (wpAny_newObj_type ?_ (by size_fits))
  refine wpAny_bind (m := firstArgMember _ _) ?_
  refine wpAny_of_eq (a := Value.none) (by first | rfl | (simp only [firstArgMember]; rfl)) ?_
  refine wpAny_newObj_type ?_ (by size_fits)
  have gy1 := (Heap.get?_update_other s.heap (Obj.mapFields (·.setIfInBounds 0 Value.none)) (Ne.symm ne)).trans gy
  have gy2 := fun (u : Obj) => Heap.get?_push_of_some u gy1
  refine raiseNew_hot (x1 := y) ⟨hh, oy, vy, Heap.get?_push_of_some _ (gy2 _), dy, cy⟩ (Nat.ne_of_lt (Heap.lt_size (gy2 _))) (Heap.get?_push_size _ rfl) rfl (by first | (simp; done) | (simp; omega) | decide) ?_
  refine wpAny_bind (wpAny_isInstance (b := true) (T := "StopIteration") ⟨_, Heap.get?_update_self _ (Heap.get?_push_size _ rfl) rfl, rfl⟩ isSubtype_stop ?_)
  refine wpAny_pure (hq _ fun b u hb e => ?_)
  have e1 := (Heap.get?_update_other s.heap (Obj.mapFields (·.setIfInBounds 0 Value.none)) (Ne.symm hb)).trans e
  have e2 := fun (u' : Obj) => Heap.get?_push_of_some u' e1
  rw [Heap.get?_update_other _ _ (Nat.ne_of_gt (Heap.lt_size (e2 _)))]
  exact Heap.get?_push_of_some _ (e2 _)
/-- the turns of such a loop -/
theorem turn_listH {P : Program} {w : World} {K : PySem.W.Frag} {tg : Expr} (a j : Addr) : L2H.TurnH P w K tg (Itl K a) [j] j (fun n h => h.IsListIter j a n) where
  mem := List.mem_singleton.mpr rfl
  obj := fun n h st b hb => by
    cases List.mem_singleton.mp hb
    obtain ⟨u, e, _, d⟩ := st
    exact ⟨u, e, fun v z => by rw [d] at z; cases z⟩
  keep := fun n h h2 st k => st.at fun u e => k j (List.mem_singleton.mpr rfl) u e
  item := by
    intro X hP hw hK hc n pins s σ H E I hf st hg
    subst hP hw hK
    obtain ⟨xs, x, sq, hx⟩ := hg
    obtain ⟨us, vals, pl, _⟩ := I.list sq
    obtain ⟨u, hu, ru⟩ := vals.get hx
    obtain ⟨m0, m1, m2, m3, m4, m5⟩ := hf j (List.mem_singleton.mpr rfl)
    refine wpAny_pyNext_list_item (x := u) st pl.isList (by simpa using hu) fun h2 st2 same => ?_
    have J := I.turned (t' := s.toks) (fun b u hb e => (same.2 b hb).trans e) m0 m1 m3 m4 m5
    obtain ⟨oi, e, c, d⟩ := id st2
    refine ⟨u, rfl, go_of (s := { s with heap := h2 }) e c d (by decide) ⟨x, H, J, ru, ⟨rfl, fun ys sy => ?_⟩, st2, fun b hb => (hf b hb).1⟩⟩
    rw [I.list_inj sy sq]; exact hx
  done := by
    intro X hP hw hK hc n pins s σ H E I hf st hg
    subst hP hw hK
    obtain ⟨xs, sq, hx⟩ := hg
    obtain ⟨us, vals, pl, _⟩ := I.list sq
    obtain ⟨m0, m1, m2, m3, m4, m5⟩ := hf j (List.mem_singleton.mpr rfl)
    have hl := vals.length
    obtain ⟨y, hot⟩ := hc.at I
    exact list_end_hot hot st pl.isList (by simp; omega) fun h2 kp => ⟨rfl, I.turned (t' := s.toks) (fun b u hb e => kp b u hb e) m0 m1 m3 m4 m5⟩
  self := fun _ _ _ _ _ st q => wpAny_pyIter_listiter st q
/-- a list in such a loop -/
theorem pi_listH {X : Cx} {tg l : Expr} {tl : TE} (hl : PE X l tl) : L2H.PIH X tg l (iList X.K tl) := by
  refine ⟨fun pins s σ H R I h => thn (hl.run pins s σ H _ I h) fun v s1 ⟨x, G, J, rv, q1⟩ => ?_⟩
  obtain ⟨a, e, ⟨xs, sq⟩, q⟩ := q1
  subst e
  cases rv
  obtain ⟨us, vals, pl, _⟩ := J.list sq
  refine wpAny_pyIter_list pl.isList ?_
  refine ⟨s1.heap.objs.size, [s1.heap.objs.size], _, _, G, rfl, J.kept (t' := s1.toks) fun b u e => Heap.get?_push_of_some _ e, turn_listH a _, ⟨_, Heap.get?_push_size _ rfl, rfl, rfl⟩, fun b hb => ?_, q⟩
  cases List.mem_singleton.mp hb
  exact J.fpOk (Nat.le_refl _) (J.hok.fresh (Nat.le_refl _))
/-- a tuple's iterator at its end, likewise -/
theorem tup_end_hot {prog : Program} {w : World} {A : Around} {E : Value → Shared → Prop} {s : Shared} {j tp y : Addr} {n : Nat} {its : Array Value} {Q : Option Value → Shared → Prop} (hot : HotAt A y s.heap) (hj : IsTupIter s.heap j tp n) (htp : IsTup s.heap tp its) (hn : its[n]? = none)
    (hq : ∀ h2, (∀ b u, b ≠ j → s.heap.get? b = some u → h2.get? b = some u) → Q none { s with heap := h2 }) : wpAny (model prog w) A (pyNext (.ref j)) Q E s := by
  obtain ⟨oj, gj, cj, dj⟩ := id hj
  obtain ⟨ol, gl, _, nl, dl⟩ := htp
  obtain ⟨hh, oy, vy, gy, dy, cy⟩ := hot
  have ne : y ≠ j := fun z => by
    subst z
    rw [gj] at gy
    cases gy
    rw [dj] at dy
    cases dy
    cases cy
  unfold pyNext
  refine wpAny_bind (wpAny_attempt (wpAny_callSpecial?_slot (name := Str.ofString "__next__") hj.typeIs slot_tupleiter_next (wpAny_call_entry slot_tupleiter_next hj.typeIs entry_tupleiter_next ?_ (args_tupleiter_next _))))
  show wpAny (model prog w) _ (field (.ref j) 0 >>= _) _ _ s
  refine wpAny_bind (wpAny_field gj dj (x := .ref tp) rfl ?_)
  show wpAny (model prog w) _ (if (Value.ref tp == Value.none) = true then _ else _) _ _ s
  rw [if_neg (show ¬ ((Value.ref tp == Value.none) = true) from Bool.false_ne_true)]
  show wpAny (model prog w) _ (field (.ref j) 1 >>= _) _ _ s
  refine wpAny_bind (wpAny_field gj dj (x := .int n 0) rfl ?_)
  show wpAny (model prog w) _ (seqItems? (.ref tp) >>= _) _ _ s
  refine wpAny_bind (wpAny_seqItems gl dl ?_)
  simp only [hn, Int.toNat_natCast]
  refine wpAny_bind (wpAny_rule (wpAny_bind (wpAny_setField gj dj (by simp) ?_)))
  show wpAny (model prog w) _ (newExc (.type "StopIteration") [] >>= _) _ _ _
  refine wpAny_bind ?_
  simp only [newTuple, newExc]
  refine wpAny_bind (wpAny_newObj_type ?_ (by size_fits))
  refine wpAny_bind (m := firstArgMember _ _) ?_
  refine wpAny_of_eq (a := Value.none) (by first | rfl | (simp only [firstArgMember]; rfl)) ?_
  refine wpAny_newObj_type ?_ (by size_fits)
  have gy1 := (Heap.get?_update_other s.heap (Obj.mapFields (·.setIfInBounds 0 Value.none)) (Ne.symm ne)).trans gy
  have gy2 := fun (u : Obj) => Heap.get?_push_of_some u gy1
  refine raiseNew_hot (x1 := y) ⟨hh, oy, vy, Heap.get?_push_of_some _ (gy2 _), dy, cy⟩ (Nat.ne_of_lt (Heap.lt_size (gy2 _))) (Heap.get?_push_size _ rfl) rfl (by first | (simp; done) | (simp; omega) | decide) ?_
  refine wpAny_bind (wpAny_isInstance (b := true) (T := "StopIteration") ⟨_, Heap.get?_update_self _ (Heap.get?_push_size _ rfl) rfl, rfl⟩ isSubtype_stop ?_)
  refine wpAny_pure (hq _ fun b u hb e => ?_)
  have e1 := (Heap.get?_update_other s.heap (Obj.mapFields (·.setIfInBounds 0 Value.none)) (Ne.symm hb)).trans e
  have e2 := fun (u' : Obj) => Heap.get?_push_of_some u' e1
  rw [Heap.get?_update_other _ _ (Nat.ne_of_gt (Heap.lt_size (e2 _)))]
  exact Heap.get?_push_of_some _ (e2 _)
/-- (a, b, ..) = a tuple of that length, likewise -/
theorem unpack_hot {prog : Program} {w : World} {A : Around} {E : Value → Shared → Prop} {s : Shared} {y tp : Addr} {its : Array Value} {Q : List Value → Shared → Prop} (hot : HotAt A y s.heap) (htp : IsTup s.heap tp its)
    (hq : ∀ h2, (∀ b u, b ≠ s.heap.objs.size → s.heap.get? b = some u → h2.get? b = some u) → Q its.toList { s with heap := h2 }) : wpAny (model prog w) A (unpackItems (.ref tp) its.size none) Q E s := by
  have below : tp ≠ s.heap.objs.size := by
    obtain ⟨u, e, _⟩ := htp
    exact Nat.ne_of_lt (Heap.lt_size e)
  have hot2 := hot
  obtain ⟨hh, oy, vy, gy, dy, cy⟩ := hot2
  unfold unpackItems
  refine wpAny_bind ?_
  unfold notIterableAtAll
  refine wpAny_bind (wpAny_specialOf htp.typeIs slot_tuple_iter.lookup (wpAny_pure ?_))
  simp only [if_false, Bool.false_eq_true]
  refine wpAny_bind (wpAny_holding (iter_tuple htp ?_))
  refine wpAny_bind (wpAny_holding (draw_tuple below its.size 0 _ _ ⟨_, Heap.get?_push_size _ rfl, rfl, rfl⟩ (htp.push _) (by omega) fun h3 ih3 sb3 => ?_))
  rw [show List.take its.size (List.drop 0 its.toList) = its.toList from by rw [List.drop_zero]; exact List.take_of_length_le (by simp), if_neg (by simp)]
  have hot3 : HotAt A y h3 := ⟨hh, oy, vy, sb3.extBut y _ (Nat.ne_of_lt (Heap.lt_size gy)) (Heap.get?_push_of_some _ gy), dy, cy⟩
  refine wpAny_bind (wpAny_holding (tup_end_hot (s := { s with heap := h3 }) hot3 ih3 ((htp.push _).extBut sb3.extBut below) (by simp) fun h4 kp => ?_))
  simp only [Option.isSome_none, if_false, Bool.false_eq_true]
  exact wpAny_pure (hq h4 fun b u hb e => kp b u hb (sb3.extBut b u hb (Heap.get?_push_of_some _ e)))
theorem pg_tupH {X : Cx} {es : List Expr} {k : Nat} {t : TGs} {n : Nat} {pos : Pos} (hc : L2H.HotC X) (h : PGs X es t) (hn : (assignEach es X.env).length = n := by rfl) (hst : (assignEach es X.env).findIdx? (·.1) = none := by rfl) : PG X (.Tuple es k pos) (L2.gTup X.K n t) := by
  refine ⟨fun pins s σ H v u Q I r hw => ?_⟩
  obtain ⟨a, xs, e1, sq, hl, hw⟩ := hw
  subst e1
  cases r
  obtain ⟨us, vals, tup, _⟩ := I.tuple sq
  obtain ⟨y, hot⟩ := hc.at I
  have sz : (assignEach es X.env).length = us.toArray.size := by rw [hn, ← hl, vals.length]; simp
  rw [assign_Tuple]
  refine wpAny_bind (wpAny_standAt ?_)
  unfold unpack
  rw [sz, hst]
  refine wpAny_bind (wpAny_holding (unpack_hot hot tup fun h2 kp => ?_))
  have J : Inv X pins σ H { s with heap := h2 } := I.kept (t' := s.toks) fun b u e => kp b u (Nat.ne_of_lt (Heap.lt_size e)) e
  exact h.run pins _ σ H xs _ Q J (by simpa using vals) hw
end TT
end

section
set_option Elab.async false
set_option linter.all false
set_option autoImplicit false
set_option maxRecDepth 100000
/-! TT: lambdas handed to a def that tells what was raised, contexts known -/
namespace TT
open PySem PySem.Spec PyProof.Rows L2
/-- the def that calls what it got, in that layer -/
def GivesN (X : Cx) (Ng : List Str) (x : Str) (sg : Scope) (g : Addr) (cdg : Value) (bg : List Stmt) (a : Str) (q : Str) (U : (XK → Hp → VK → Prop) → Hp → VK → Prop) : Prop :=
  ∀ (f d : Addr) (t : Shared) (G : Hp) (Q : VK) (tl : XK → Hp → VK → Prop),
    (∀ (W : WX) (pn : List (Addr × Obj)) (xe : Value → Shared → Prop) (E : XK) (p1 p2 : Pos), L2N.Takes ((cxOf C8.CX0 X.prog X.w X.K X.mg X.base Ng x sg g cdg X.A X.stack t G C8.E0).tr pn xe) W → (∀ cls e σ' H', E cls e H' → W cls e σ' H') →
      PE ((cxOf C8.CX0 X.prog X.w X.K X.mg X.base Ng x sg g cdg X.A X.stack t G C8.E0).tr pn xe) (.Call (.Name a p1) [] [] p2) (fun τ G1 Q1 => τ[0]? = some (some (.ref f)) ∧ G1 d = some (LamX.CodeO d q) ∧ tl E G1 Q1)) →
    G d = some (LamX.CodeO d q) → U tl G Q →
    ∃ u, PSs (cxOf C8.CX0 X.prog X.w X.K X.mg X.base Ng x sg g cdg X.A X.stack t G C8.E0).nox bg u ∧ u { nx := fun _ G1 => Q .non G1, rt := Q } (L2.start Ng [.ref f]) G
section
variable {X : Cx}
/-- x(lambda: body) -/
theorem lamcall_n {T : List (Addr × Str)} {U : (XK → Hp → VK → Prop) → Hp → VK → Prop} {x a : Str} {g c P : Addr} {k : Nat} {pg : Arguments} {bg : List Stmt} {sg : Scope} {dV kV doc pm cdv ct oc : Value} {an od : Option Addr} {osl : Array (Option Value)} {Ng : List Str}
    {params : Arguments} {body : Expr} {sc : Scope} {tt : XK → TE} {p lpos pos : Pos} (hg : Gl X x) (hm : X.mg x = some (.ref g)) (hk : PySem.W.keepIn X.K (.ref g) = true)
    (lk : X.K.lookup g = some ⟨oc, od, .func (PySem.W.fnOf x x pg bg sg dV kV doc pm an cdv ct), osl⟩) (hcg : PySem.W.codeIn X.K cdv x = true) (hb : L2.Binds X.K (PySem.W.fnOf x x pg bg sg dV kV doc pm an cdv ct) [a] []) (Sg : FnScope Ng [a] sg) (hN0 : Ng[0]? = some a) (hva : Vis sg a)
    (hG : GivesN X Ng x sg g cdv bg a (X.env.qual ++ "<lambda>") U)
    (TB : LamX.TabB X.base X.mg c P) (hcode : X.env.code = .ref c) (hmem : (P, X.env.qual ++ "<lambda>") ∈ T) (hu : ∀ p ∈ T, p.1 = P → p.2 = X.env.qual ++ "<lambda>") (hr : Room (k + 2) X.A) (L : LamX.LamS X.env.scope sc) (hdef : defaultsOf params X.env = ([], []))
    (hbd : ∀ (q : Str) (cl : List (Str × Addr)) (pm cv ctv : Value), bindArgs (PySem.W.kla_fn "<lambda>" q params body sc cl pm cv ctv) ⟨[], []⟩ = pure [])
    (hbody : ∀ (A : Around) (out : List Env) (t : Shared) (G : Hp) (E : XK) (f d : Addr), Room k (A.deeper (LamX.lamEnv X sc t.heap.objs.size f d)) → PE (lamN X A out t G E sc f d) body (tt E))
    (hdb : (x == ("__debug__" : Str)) = false) (hd : (a == ("__debug__" : Str)) = false) (hcd : (a == ("__classdict__" : Str)) = false) :
    PE X (.Call (.Name x p) [.Lambda params body sc lpos] [] pos) (LamX.tLam T U tt) := by
  refine ⟨fun pins s σ H Q I ⟨hT, h⟩ => ?_⟩
  refine wpAny_Call_Name_kw (ld_glob I hg hm ?_ hdb)
  refine PySem.W.callWith_K (h₀ := X.base) I.ok.mod.kin hk ?_ (by rfl) (by rfl)
  show wpAny (model X.prog X.w) _ (spliced ((false, eval (.Lambda params body sc lpos) X.env) :: backTo pos (starEach [] X.env))) _ _ s
  refine Calls.spliced_cons (LamX.lam_make2 I TB hcode hmem hu hT hdef (L.has I.ok) fun f d pm' ctv G s1 J eN T1 hob hno hst hco => ?_)
  refine Calls.spliced_nil ⟨J.kIn, ?_⟩
  have run : codeAny (model X.prog X.w) X.A (.call (.ref g) ⟨[.ref f], []⟩) (CR C8.CX0 X.stack X.prog X.w G s1 Q C8.E0) s1 := by
    refine LamX.run_ofS (N := Ng) (us := [.ref f]) (vs := [.ref f]) (ps := [a]) lk hcg Sg hr J.env0 (hb s1 [.ref f] J.kIn rfl) (.cons rfl .nil) rfl fun hr2 => ?_
    obtain ⟨u, hu1, hu2⟩ := hG f d s1 G Q (fun E G1 Q1 => tt E σ G1 Q1) (fun W pn xe E p1 p2 tk hW => act_n (i := 0) J L hob hno hst (hbd _ _ _ _ _) tk hW hr2 (fun A out t G1 hr3 => hbody A out t G1 E f d hr3) hN0 hva hd hcd) hco (h G eN T1)
    exact ⟨u, hu1.nox, hu2⟩
  refine wpAny_call (codeAny_mono run fun r s2 hq => ?_)
  cases r with
  | error e => exact (show False from hq).elim
  | ok fl =>
    cases fl with
    | ret u => exact J.after hq
    | next => exact False.elim hq
    | brk => exact False.elim hq
    | cont => exact False.elim hq
end
theorem takes0N {X : Cx} : L2N.Takes X (fun _ _ _ _ => False) := fun _ _ h => by
  obtain ⟨_, _, _, _, _, _, _, _, _, _, _, _, _, _, _, _, z⟩ := h
  exact z.elim
/-- the suite bears the handled exception -/
theorem suite_hot {Y : Cx} {a : Addr} {oe : Obj} {pn : List (Addr × Obj)} {cls : Value} {d : Option Addr} (hz : L2N.Zn cls d oe) (hf : ∃ vs, oe.data = .fields vs) : L2H.HotC (Y.suite a ((a, oe) :: pn)) := by
  obtain ⟨vs, e⟩ := hf
  exact ⟨(a, oe), ⟨rfl, vs, e, hz.2.2 vs e⟩, List.mem_cons_self⟩
end TT
end

section
set_option Elab.async false
set_option linter.all false
set_option autoImplicit false
set_option maxRecDepth 100000
/-! TT: exceptions: raise, defs that raise, lambdas handed to a def that tells what was raised -/
namespace TT
open PySem PySem.Spec PyProof.Rows L2
def exNames : List Str := ["TurnError", "InvalidRule", "InvalidHistory", "InvalidNumber", "InvalidAsks", "InvalidLog", "InvalidPart", "InvalidIndex", "InvalidToken", "NothingToUndo", "TooMany", "InvalidText"]
abbrev exN (c : Nat) : Str := exNames.getD c ""
/-- the fields of an exception in its dict -/
inductive FsOk (K : KW) (g : Gh) (H : Hp) : List PV → Option Addr → Prop
  | nil : FsOk K g H [] none
  | one {x : PV} {v : V} {f : Str} {d : Addr} : H d = some (.xd [(f, v)]) → Rp K g H x v → FsOk K g H [x] (some d)
/-- what is wished of an exception -/
def XofE (K : KW) (mg : Str → Option Value) (E : XK) : XC := fun e _ g H => match e with
  | .mk c fs => ∀ C d, mg (exN c) = some (.ref C) → FsOk K g H fs d → E (.ref C) d H
/-- an own class of exceptions -/
structure ExCls (K : KW) (mg : Str → Option Value) (x : Str) (C : Addr) : Prop where
  g : mg x = some (.ref C)
  x : PySem.W.excIn K C [.type "ValueError", .type "Exception", .type "BaseException", .type "object"] "ValueError.__new__" = true
  k : PySem.W.keepIn K (.ref C) = true
  b : PySem.W.subIn K (.ref C) (.type "BaseException") = some true
  t : PySem.W.typeIn K (.ref C) = some (.type "type")
def HasE (K : KW) (mg : Str → Option Value) (x : Str) : Prop := ∃ C, ExCls K mg x C
section
variable {X : Cx} {j : Nat} {p p2 pos pos' : Pos} {x msg : Str}
theorem ss_raise {E : XK} (c : Nat) (h : HasE X.kw X.mg x) (hx : exN c = x) (hc : X.calm = true) (tk : L2N.Takes X (fun cls d _ H => E cls d H)) (hg : Gl X x := by rfl) (hdb : (x == ("__debug__" : Str)) = false := by decide) :
    PS X (.Raise (some (.Call (.Name x p) [.Constant (.str msg) j p2] [] pos')) none pos) (rdS X.kw (XofE X.kw X.mg E) (sRaise c)) := by
  obtain ⟨C, h⟩ := h
  refine PS_imp (L2N.ps_raise hc tk (L2N.pmk_own PySem.F.excBase_ValueError h.x h.g h.k (raises_own h.b h.t) hg hdb)) fun D σ H ⟨g, s, m, em, sr, q⟩ => ?_
  exact q g H (Ext.refl _ _) em C none (by rw [hx]; exact h.g) .nil
end

/-! ### defs that raise, by values -/
section
variable {K : KW} {mg : Str → Option Value} {g g1 : Gh} {H H1 : Hp}
theorem FsOk.own {φ' : Nat → Option Addr} {T : List (Addr × Str)} {fs : List PV} {d : Option Addr} (hp : pus fs = true) (h : FsOk K g1 H1 fs d) : FsOk K ⟨φ', roAll g1 H1, T⟩ H1 fs d := by
  cases h with
  | nil => exact .nil
  | one a r =>
    simp only [pus, Bool.and_eq_true] at hp
    exact .one a (Rp.mono (g := ⟨φ', g1.ro, g1.T⟩) (g' := ⟨φ', roAll g1 H1, T⟩) (fun _ _ h => h) (fun _ _ h => roAll_old h) (fun _ _ h => h) (Rp.pure (φ' := φ') hp.1 r))
def spXI (K : KW) (mg : Str → Option Value) (n : Nat) (F : IF) : Sp := fun vs H Q E => ∃ g m as, as.length = n ∧ Emb K g m H ∧ Rps K g H as vs ∧ QE K (XofE K mg E) g H Q (F as m)
def spX (K : KW) (mg : Str → Option Value) (n : Nat) (F : PF) : Sp := fun vs H Q E => ∃ g m as, as.length = n ∧ Emb K g m H ∧ Rps K g H as vs ∧ QE K (XofE K mg E) g H Q (cX F as m)
theorem spXI_len {n : Nat} {F : IF} {vs : List V} {H : Hp} {Q : VK} {E : XK} (h : spXI K mg n F vs H Q E) : vs.length = n := by
  obtain ⟨g, m, as, hl, _, r, _⟩ := h
  rw [← r.length, hl]
theorem spX_of {n N : Nat} {b : SS} {vs : List V} {H : Hp} {Q : VK} {E : XK} (h : spX K mg n (bodyP N n b) vs H Q E) : spXI K mg n (bodyI N n b) vs H Q E := by
  obtain ⟨g, m, as, hl, em, r, q⟩ := h
  unfold cX at q
  by_cases hp : pus as = true
  · rw [if_pos hp] at q
    refine ⟨⟨fun _ => none, g.ro, g.T⟩, [], as, hl, emb_own em, Rps.pure hp r, ?_⟩
    unfold bodyP at q
    cases hr : bodyI N n b as [] with
    | ok p =>
      obtain ⟨v, m1⟩ := p
      rw [hr] at q
      simp only at q
      intro g1 H1 V x1 e1 r1
      cases hf : frz 4 m1 v with
      | none => rw [hf] at q; exact q.elim
      | some v' =>
        rw [hf] at q
        obtain ⟨xx, ee⟩ := after_own em rfl x1 e1
        have r2 := frz_rp (φ' := g.φ) e1 4 v V v' r1 hf
        rw [x1.T] at r2
        exact q ⟨g.φ, roAll g1 H1, g.T⟩ H1 V xx ee r2
    | ex e m1 =>
      rw [hr] at q
      obtain ⟨c, fs⟩ := e
      simp only at q
      by_cases hf : pus fs = true
      · rw [if_pos hf] at q
        intro g1 H1 x1 e1 C d hm hF
        obtain ⟨xx, ee⟩ := after_own em rfl x1 e1
        exact q _ _ xx ee C d hm (hF.own hf)
      · rw [if_neg hf] at q; exact q.elim
    | no => rw [hr] at q; exact q.elim
  · rw [if_neg hp] at q; exact q.elim
theorem body_rdX {Ξ : XC} {m : Mm} {N : List Str} {as : List PV} {vs : List V} {Q : VK} {b : SS} (em : Emb K g m H) (r : Rps K g H as vs) (hN : as.length ≤ N.length) (q : QE K Ξ g H Q (bodyI N.length as.length b as m)) :
    rdS K Ξ b { nx := fun _ H' => Q .non H', rt := Q } (L2.start N vs) H := by
  refine ⟨g, startS N.length as, m, em, start_sr r hN, ?_⟩
  unfold bodyI at q
  rw [if_pos rfl] at q
  cases hr : b (startS N.length as) m with
  | ok p =>
    obtain ⟨fl, s, m1⟩ := p
    rw [hr] at q
    cases fl with
    | nx => exact fun g1 H1 σ1 x1 e1 r1 => q g1 H1 .non x1 e1 .non
    | rt v => exact fun g1 H1 σ1 x1 e1 r1 V rv => q g1 H1 V x1 e1 rv
    | bk => exact q.elim
    | ct => exact q.elim
  | ex e m1 => rw [hr] at q; exact q
  | no => rw [hr] at q; exact q.elim
variable {P : Program} {w : World} {base : Heap}
theorem defX {x qual : Str} {st : Stmt} {f : Addr} {fd : FuncData} {N ps : List Str} {k : Nat} {b : SS} (F : Fun K x qual st f fd) (S : FnScope N ps (defScope st)) (hN : ps.length ≤ N.length)
    (hbody : ∀ (cdv : Value) (A : Around) (outer : List Env) (s : Shared) (H : Hp) (E : XK), Room k (A.deeper (envOfC qual (defScope st) s.heap.objs.size f cdv)) →
      PSs (cxOf (L2N.CX P w) P w K mg base N qual (defScope st) f cdv A outer s H E) (defBody st) (rdS K (XofE K mg E) b)) : FnOk P w K mg base (L2N.CX P w) (k + 1) f fd ps (spXI K mg ps.length (bodyI N.length ps.length b)) :=
  by
  obtain ⟨oc, od, kV, doc, pm, an, cdv, ct, osl, rfl, lk, hcd⟩ := F.ex
  exact fn_of lk hcd S (fun _ _ _ _ h => spXI_len h) fun A outer s H vs Q E hr ⟨g, m, as, hl, em, r, q⟩ => ⟨_, hbody cdv A outer s H E hr, body_rdX em r (by rw [hl]; exact hN) (by rw [hl]; exact q)⟩
/-- a def that raises stands there -/
def HasX (P : Program) (w : World) (K : KW) (mg : Str → Option Value) (base : Heap) (x : Str) (k : Nat) (sp : Sp) : Prop :=
  ∃ f fd ps, FnOk P w K mg base (L2N.CX P w) k f fd ps sp ∧ mg x = some (.ref f) ∧ PySem.W.keepIn K (.ref f) = true ∧ Binds K fd ps []
theorem HasX.toX {x : Str} {k n N : Nat} {b : SS} (h : HasX P w K mg base x k (spXI K mg n (bodyI N n b))) : HasX P w K mg base x k (spX K mg n (bodyP N n b)) := let ⟨f, fd, ps, a, b, c, d⟩ := h; ⟨f, fd, ps, a.imp fun _ _ _ _ => spX_of, b, c, d⟩
theorem has_defX {x : Str} {st : Stmt} {f : Addr} {fd : FuncData} {N ps : List Str} {k : Nat} {b : SS} (F : Fun K x x st f fd) (hm : mg x = some (.ref f)) (S : FnScope N ps (defScope st)) (hN : ps.length ≤ N.length)
    (h : ∀ (kV doc pm : Value) (an : Option Addr) (cdv ct : Value) (us : List Value), us.length = ps.length → bindArgs (PySem.W.fnOf x x (defArgs st) (defBody st) (defScope st) .none kV doc pm an cdv ct) ⟨us, []⟩ = pure (ps.zip us))
    (hbody : ∀ (cdv : Value) (A : Around) (outer : List Env) (s : Shared) (H : Hp) (E : XK), Room k (A.deeper (envOfC x (defScope st) s.heap.objs.size f cdv)) →
      PSs (cxOf (L2N.CX P w) P w K mg base N x (defScope st) f cdv A outer s H E) (defBody st) (rdS K (XofE K mg E) b)) : HasX P w K mg base x (k + 1) (spXI K mg ps.length (bodyI N.length ps.length b)) :=
  ⟨f, fd, ps, defX F S hN hbody, hm, F.kp, F.binds h⟩
end
section
variable {X : Cx} {k : Nat} {x : Str} {p pos : Pos} {e : Expr} {es : List Expr} {fs : SA}
theorem sh_callX {n : Nat} {F : PF} {E : XK} (h : HasX X.prog X.w X.kw X.mg X.base x k (spX X.kw X.mg n F)) (hr : Room k X.A) (tk : L2N.Takes X (fun cls d _ H => E cls d H)) (ha : PA X (e :: es) (rdA X.kw (XofE X.kw X.mg E) fs)) (hl : ∀ s m xs m', fs s m = .ok (xs, m') → xs.length = (e :: es).length)
    (hn : (e :: es).length = n := by rfl) (hg : Gl X x := by rfl) (hdb : (x == ("__debug__" : Str)) = false := by decide) (he : starEach (e :: es) X.env = (false, eval e X.env) :: starEach es X.env := by rfl) (hpl : (backTo pos (starEach es X.env)).any (·.1) = false := by rfl) :
    PE X (.Call (.Name x p) (e :: es) [] pos) (rdE X.kw (XofE X.kw X.mg E) (eN (cX F) fs)) := by
  obtain ⟨f, fd, ps, G, hm, hk, hb⟩ := h
  refine PE_imp (pe_callS (E := fun _ => E) G hr hg hm hk hb (fun σ => L2N.passAt tk σ) ha hdb he hpl) fun σ H Q ⟨g, s, m, em, sr, q⟩ => ?_
  refine ⟨g, s, m, em, sr, QR.bind q fun p hp q1 g1 H1 V x1 e1 r1 => ?_⟩
  exact ⟨g1, p.2, p.1, by rw [hl s m p.1 p.2 hp, hn], e1, r1, QE.later x1 q1⟩
end

/-! ### what is told of an exception -/
section
variable {X : Cx} {p1 p2 p3 p4 pos : Pos} {K : KW}
def HasSub (K : KW) (mg : Str → Option Value) (x y : Str) (b : Bool) : Prop := ∀ D C, mg x = some (.ref D) → mg y = some (.ref C) → PySem.W.kitOne K (.ref D) (.ref C) = some b
/-- the slot of the exception, where the slots are as many as they should be -/
def rAt (a : Addr) (i L : Nat) (σ : L2.St) : Prop := σ.length = L → σ[i]? = some (some (.ref a))
def rTold (a : Addr) (i L : Nat) (v : Str) : TE := fun σ H Q => rAt a i L σ ∧ Q (.str v) H
def rToldT (a : Addr) (i L : Nat) (b : Bool) : TT := fun σ H Q => rAt a i L σ ∧ Q b H
def rToldS (a : Addr) (i L : Nat) (v : Str) : TS := fun D σ H => rAt a i L σ ∧ D.rt (.str v) H
theorem told_str {a : Addr} {i L j : Nat} {v : Str} : PE X (.Constant (.str v) j pos) (rTold a i L v) := PE_imp pe_str fun σ H Q h => h.2
theorem told_is {a D C : Addr} {i : Nat} {oe : Obj} {pn : List (Addr × Obj)} {en cn : Str} {b : Bool} (hs : PySem.W.kitOne X.kw (.ref D) (.ref C) = some b) (hC : X.mg cn = some (.ref C)) (ec : ExcC X.kw D) (hz : Zc (.ref D) none oe) (hf : ∃ vs, oe.data = .fields vs)
    (hi : X.N[i]? = some en) (hbi : X.mg "isinstance" = none) (hgi : Gl (X.suite a ((a, oe) :: pn)) "isinstance") (hgc : Gl (X.suite a ((a, oe) :: pn)) cn) (hv : Vis X.env.scope en) (hd : (en == ("__debug__" : Str)) = false) (hcd : (en == ("__classdict__" : Str)) = false) (hdc : (cn == ("__debug__" : Str)) = false)
    (he1 : starEach [(.Name en p2 : Expr), .Name cn p3] X.env = (false, eval (.Name en p2) X.env) :: starEach [.Name cn p3] X.env) (he2 : starEach [(.Name cn p3 : Expr)] X.env = (false, eval (.Name cn p3) X.env) :: starEach [] X.env) (hpl : (backTo pos (starEach [(.Name cn p3 : Expr)] X.env)).any (·.1) = false) :
    PT (X.suite a ((a, oe) :: pn)) (.Call (.Name "isinstance" p1) [.Name en p2, .Name cn p3] [] pos) (rToldT a i X.N.length b) := by
  have hE := pe_callB (X := X.suite a ((a, oe) :: pn)) (p := p1) (pos := pos) (call_isE (pn := pn) ec hz hf) hgi hbi (by decide +kernel) (pa_cons (pe_var (X := X.suite a ((a, oe) :: pn)) (pos := p2) hi hv hd hcd) (pa_cons (pe_glob (X := X.suite a ((a, oe) :: pn)) (v := .ref C) (pos := p3) hgc hC rfl hdc) pa_nil he2) he1) (by decide) (by decide) he1 hpl
  refine ⟨fun pins s σ H Q I ⟨h1, h2⟩ => ?_⟩
  refine (pt_val hE (fun _ => rfl)).run pins s σ H Q I ?_
  exact ⟨.ref a, h1 I.len, ⟨.ref C, .ref C, b, rfl, fun u r => r, hs, b, rfl, h2⟩⟩
end
end TT
end

section
set_option Elab.async false
set_option linter.all false
set_option autoImplicit false
set_option maxRecDepth 100000
/-! TT: a loop in the suite that tells what was raised -/
namespace TT
open PySem PySem.Spec PyProof.Rows L2
def Gro (H H2 : Hp) : Prop := ∀ b o, H b = some o → H2 b = some o
theorem Gro.refl (H : Hp) : Gro H H := fun _ _ h => h
theorem Gro.trans {H H1 H2 : Hp} (a : Gro H H1) (b : Gro H1 H2) : Gro H H2 := fun c o h => b c o (a c o h)
theorem gro_upd {H : Hp} {p : Addr} {o : HO} (h : H p = none) : Gro H (upd H p o) := fun b u e => by
  unfold upd
  by_cases hb : b = p
  · subst hb; rw [h] at e; cases e
  · first
      | rw [if_neg hb]; exact e
      | simp [hb, e]
theorem upd_at {H : Hp} {p : Addr} {o : HO} : upd H p o p = some o := by simp [upd]
/-- the slot of the exception, and what is wished of its test -/
def rIs (a : Addr) (i L : Nat) (b : Bool) : TE := fun σ H Q => rAt a i L σ ∧ Q (.bl b) H
/-- what is returned, at every heap that keeps what there is -/
def rToldG (a : Addr) (i L : Nat) (v : Str) : TS := fun D σ H => rAt a i L σ ∧ ∀ H2, Gro H H2 → D.rt (.str v) H2
section
variable {X : Cx} {a : Addr} {i jn jt k k1 k2 : Nat} {nv tv n1 n2 v : Str} {b1 b2 : Bool} {e1 e2 : Expr} {rest : List Stmt} {j1 j2 : Nat} {p1 p2 p3 p4 p5 p6 p7 p8 p9 p10 p11 p12 p13 : Pos}
theorem told_loop (hot : L2H.HotC X) (hp : PassesOwn (model X.prog X.w) X.A X.env X.xe) (hN : X.N.Nodup) (hjn : X.N[jn]? = some nv) (hjt : X.N[jt]? = some tv) (hln : X.env.scope.names.lookup nv = some .local) (hlt : X.env.scope.names.lookup tv = some .local) (hne : jn ≠ jt) (hi1 : jn ≠ i) (hi2 : jt ≠ i)
    (hd1 : (nv == ("__debug__" : Str)) = false) (hd2 : (tv == ("__debug__" : Str)) = false) (hc1 : (nv == ("__classdict__" : Str)) = false) (hc2 : (tv == ("__classdict__" : Str)) = false)
    (he1 : PE X e1 (rIs a i X.N.length b1)) (he2 : PE X e2 (rIs a i X.N.length b2)) (s1 : starEach [e1] X.env = (false, eval e1 X.env) :: starEach [] X.env) (s2 : starEach [e2] X.env = (false, eval e2 X.env) :: starEach [] X.env)
    (hr : PSs X rest (rToldG a i X.N.length v)) :
    PSs X (.For (.Tuple [.Name nv p1, .Name tv p2] k p3) (.List [.Tuple [.Constant (.str n1) j1 p4, e1] k1 p5, .Tuple [.Constant (.str n2) j2 p6, e2] k2 p7] p8) [.If (.Name tv p9) [.Return (some (.Name nv p10)) p11] [] p12] [] p13 :: rest)
      (rToldG a i X.N.length (if b1 = true then n1 else if b2 = true then n2 else v)) := by
  have vn : Vis X.env.scope nv := .inl hln
  have vt : Vis X.env.scope tv := .inl hlt
  have disp := pe_lst (pos := p8) (pa_cons (pe_tup (x1 := k1) (pos := p5) (pa_cons (pe_str (x := n1) (j := j1) (pos := p4)) (pa_cons he1 pa_nil s1))) (pa_cons (pe_tup (x1 := k2) (pos := p7) (pa_cons (pe_str (x := n2) (j := j2) (pos := p6)) (pa_cons he2 pa_nil s2))) pa_nil))
  have tgt := pg_tupH (k := k) (pos := p3) (n := 2) hot (pgs_cons (pg_name (pos := p1) hN hjn (.inl hln) (.inr hln)) (pgs_cons (pg_name (pos := p2) hN hjt (.inl hlt) (.inr hlt)) pgs_nil))
  have body := pss_one (ps_if (pos := p12) (pt_val (pe_var (pos := p9) hjt vt hd2 hc2)) (pss_one (ps_ret (pos := p11) (pe_var (pos := p10) hjn vn hd1 hc1))) pss_nil)
  have loop := L2H.ps_forH (pos := p13) hp hot (pi_listH disp) tgt body
  refine ⟨fun pins s σ H D I ⟨h1, h2⟩ => (pss_cons loop hr).run pins s σ H D I ?_⟩
  have hlen := I.len
  have small : ∀ n : Nat, n ≤ 2 → n ≤ sizeLine := fun n hn => by rw [sizeLine_eq]; omega
  refine ⟨h1, small _ (by simp), fun q1 f1 => ⟨h1, small _ (by simp), fun q2 f2 => ⟨small _ (by simp), fun q3 f3 => ?_⟩⟩⟩
  obtain ⟨H1, hH1⟩ : ∃ H1, H1 = upd (upd (upd H q1 (.tup [.str n1, .bl b1])) q2 (.tup [.str n2, .bl b2])) q3 (.lst [.ref q1, .ref q2]) := ⟨_, rfl⟩
  have g1 := gro_upd (o := .tup [.str n1, .bl b1]) f1
  have g2 := gro_upd (o := .tup [.str n2, .bl b2]) f2
  have g3 := gro_upd (o := .lst [.ref q1, .ref q2]) f3
  have gr : Gro H H1 := by rw [hH1]; exact (g1.trans g2).trans g3
  have t1 : SqT X.K H1 q1 [.str n1, .bl b1] := .inl (.inl (by rw [hH1]; exact g3 _ _ (g2 _ _ upd_at)))
  have t2 : SqT X.K H1 q2 [.str n2, .bl b2] := .inl (.inl (by rw [hH1]; exact g3 _ _ upd_at))
  have ls : SqL X.K H1 q3 [.ref q1, .ref q2] := .inl (.inl (by rw [hH1]; exact upd_at))
  rw [← hH1]
  have i1 := (List.getElem?_eq_some_iff.mp hjn).1
  have i2 := (List.getElem?_eq_some_iff.mp hjt).1
  refine ⟨q3, rfl, ⟨_, ls⟩, fun n m τ G => G = H1 ∧ rAt a i X.N.length τ ∧ τ.length = X.N.length ∧ n ≤ 2 ∧ (1 ≤ n → b1 = false) ∧ (2 ≤ n → b2 = false) ∧ m = 2 - n, ⟨2, rfl, h1, hlen, by omega, fun z => by omega, fun z => by omega, rfl⟩, fun n m τ G hw => ?_⟩
  obtain ⟨rfl, w1, w2, w3, w4, w5, rfl⟩ := hw
  -- one turn
  have turn : ∀ (q : Addr) (nm : Str) (b : Bool) (w : Str), SqT X.K G q [.str nm, .bl b] → (b = true → ∀ H2, Gro H H2 → D.rt (.str nm) H2) → (b = false → True) → ∀ (N : L2.St → Hp → Prop), (∀ τ2, rAt a i X.N.length τ2 → τ2.length = X.N.length → b = false → N τ2 G) →
      L2.gTup X.K 2 (L2.gCons (L2.gName jn) (L2.gCons (L2.gName jt) L2.gNil)) (.ref q) τ G fun τ2 G2 => (tIfS (tB (tVar jt)) (tRet (tVar jn)) tNext) { { D with nx := rToldG a i X.N.length v D } with nx := N, ct := N, bk := (rToldG a i X.N.length v D) } τ2 G2 := fun q nm b w sq ht _ N hn => by
    have ln : (τ.set jn (some (.str nm))).length = X.N.length := by rw [List.length_set]; exact w2
    have at2 : ((τ.set jn (some (.str nm))).set jt (some (.bl b)))[jt]? = some (some (.bl b)) := List.getElem?_set_self (by rw [ln]; exact i2)
    have at1 : ((τ.set jn (some (.str nm))).set jt (some (.bl b)))[jn]? = some (some (.str nm)) := by
      rw [List.getElem?_set_ne (Ne.symm hne)]
      exact List.getElem?_set_self (by rw [w2]; exact i1)
    have ra : rAt a i X.N.length ((τ.set jn (some (.str nm))).set jt (some (.bl b))) := fun _ => by
      rw [List.getElem?_set_ne hi2, List.getElem?_set_ne hi1]
      exact w1 w2
    refine ⟨q, _, rfl, sq, rfl, _, _, rfl, _, _, rfl, rfl, .bl b, at2, b, rfl, ?_⟩
    cases b with
    | true =>
      rw [if_pos rfl]
      exact ⟨.str nm, at1, ht rfl G gr⟩
    | false =>
      rw [if_neg (by decide)]
      exact hn _ ra (by rw [List.length_set]; exact ln) rfl
  have hn3 : n = 0 ∨ n = 1 ∨ n = 2 := by omega
  rcases hn3 with rfl | rfl | rfl
  · refine .inr ⟨⟨_, .ref q1, ls, rfl⟩, fun τ2 G2 => G2 = G ∧ rAt a i X.N.length τ2 ∧ τ2.length = X.N.length ∧ b1 = false, fun τ2 G2 ⟨z1, z2, z3, z4⟩ => ⟨1, by omega, z1, z2, z3, by omega, fun _ => z4, fun z => by omega, rfl⟩, fun x G2 ⟨z1, z2⟩ => ?_⟩
    subst z1
    have hx := z2 _ ls
    simp only [List.getElem?_cons_zero, Option.some.injEq] at hx
    subst hx
    exact turn q1 n1 b1 v t1 (fun z H2 g => by have := h2 H2 g; rw [if_pos z] at this; exact this) (fun _ => trivial) _ fun τ2 r1 r2 r3 => ⟨rfl, r1, r2, r3⟩
  · have c1 := w4 (by omega)
    refine .inr ⟨⟨_, .ref q2, ls, rfl⟩, fun τ2 G2 => G2 = G ∧ rAt a i X.N.length τ2 ∧ τ2.length = X.N.length ∧ b2 = false, fun τ2 G2 ⟨z1, z2, z3, z4⟩ => ⟨0, by omega, z1, z2, z3, by omega, fun _ => c1, fun _ => z4, rfl⟩, fun x G2 ⟨z1, z2⟩ => ?_⟩
    subst z1
    have hx := z2 _ ls
    simp only [List.getElem?_cons_succ, List.getElem?_cons_zero, Option.some.injEq] at hx
    subst hx
    exact turn q2 n2 b2 v t2 (fun z H2 g => by have := h2 H2 g; rw [c1, if_neg (by decide), if_pos z] at this; exact this) (fun _ => trivial) _ fun τ2 r1 r2 r3 => ⟨rfl, r1, r2, r3⟩
  · have c1 := w4 (by omega)
    have c2 := w5 (by omega)
    refine .inl ⟨⟨_, ls, Nat.le_refl _⟩, w1, fun H2 g => ?_⟩
    have := h2 H2 (gr.trans g)
    rw [c1, c2, if_neg (by decide), if_neg (by decide)] at this
    exact this
end
section
variable {X : Cx} {p1 p2 p3 p4 pos : Pos} {K : KW}
theorem told_isE {a D C : Addr} {i : Nat} {oe : Obj} {pn : List (Addr × Obj)} {en cn : Str} {b : Bool} (hs : PySem.W.kitOne X.kw (.ref D) (.ref C) = some b) (hC : X.mg cn = some (.ref C)) (ec : ExcC X.kw D) (hz : L2N.Zn (.ref D) none oe) (hf : ∃ vs, oe.data = .fields vs)
    (hi : X.N[i]? = some en) (hbi : X.mg "isinstance" = none) (hgi : Gl (X.suite a ((a, oe) :: pn)) "isinstance") (hgc : Gl (X.suite a ((a, oe) :: pn)) cn) (hv : Vis X.env.scope en) (hd : (en == ("__debug__" : Str)) = false) (hcd : (en == ("__classdict__" : Str)) = false) (hdc : (cn == ("__debug__" : Str)) = false)
    (he1 : starEach [(.Name en p2 : Expr), .Name cn p3] X.env = (false, eval (.Name en p2) X.env) :: starEach [.Name cn p3] X.env) (he2 : starEach [(.Name cn p3 : Expr)] X.env = (false, eval (.Name cn p3) X.env) :: starEach [] X.env) (hpl : (backTo pos (starEach [(.Name cn p3 : Expr)] X.env)).any (·.1) = false) :
    PE (X.suite a ((a, oe) :: pn)) (.Call (.Name "isinstance" p1) [.Name en p2, .Name cn p3] [] pos) (rIs a i X.N.length b) := by
  have hE := pe_callB (X := X.suite a ((a, oe) :: pn)) (p := p1) (pos := pos) (call_isE (pn := pn) ec hz.zc hf) hgi hbi (by decide +kernel) (pa_cons (pe_var (X := X.suite a ((a, oe) :: pn)) (pos := p2) hi hv hd hcd) (pa_cons (pe_glob (X := X.suite a ((a, oe) :: pn)) (v := .ref C) (pos := p3) hgc hC rfl hdc) pa_nil he2) he1) (by decide) (by decide) he1 hpl
  exact ⟨fun pins s σ H Q I ⟨h1, h2⟩ => hE.run pins s σ H Q I ⟨.ref a, h1 I.len, ⟨.ref C, .ref C, b, rfl, fun u r => r, hs, h2⟩⟩⟩
end
end TT
end

section
set_option Elab.async false
set_option linter.all false
set_option autoImplicit false
set_option maxRecDepth 100000
/-! TT: lambdas handed to a def that tells what was raised -/
namespace TT
open PySem PySem.Spec PyProof.Rows L2
section
variable {X : Cx} {a : Addr} {i L : Nat} {b : Bool} {v1 v2 : Str} {pos : Pos} {test A B : Expr} {sA rest : List Stmt}
theorem told_ite (ht : PT X test (rToldT a i L b)) (hA : PE X A (rTold a i L v1)) (hB : PE X B (rTold a i L v2)) : PE X (.IfExp test A B pos) (rTold a i L (if b = true then v1 else v2)) :=
  PE_imp (pe_ifExp ht hA hB) fun σ H Q ⟨h1, h2⟩ => ⟨h1, by
    cases b with
    | true => exact iteT ⟨h1, h2⟩
    | false => exact iteF ⟨h1, h2⟩⟩
theorem told_ret (hA : PE X A (rTold a i L v1)) : PSs X [.Return (some A) pos] (rToldG a i L v1) := PSs_imp (pss_one (ps_ret hA)) fun D σ H ⟨h1, h2⟩ => ⟨h1, h2 H (Gro.refl H)⟩
theorem told_sif (ht : PT X test (rToldT a i L b)) (hA : PSs X sA (rToldG a i L v1)) (hB : PSs X rest (rToldG a i L v2)) : PSs X (.If test sA [] pos :: rest) (rToldG a i L (if b = true then v1 else v2)) :=
  PSs_imp (pss_cons (ps_if ht hA pss_nil) hB) fun D σ H ⟨h1, h2⟩ => ⟨h1, by
    cases b with
    | true => exact iteT ⟨h1, h2⟩
    | false => exact iteF ⟨h1, h2⟩⟩
end
/-- what the def makes of the lambda -/
def TTold (mg : Str → Option Value) (t : Told) (els : List Nat) (cs : List Nat) : (XK → Hp → VK → Prop) → Hp → VK → Prop := fun tl H Q =>
  tl (fun cls d H' => ∃ c D, c ∈ cs ∧ cls = .ref D ∧ d = none ∧ mg (exN c) = some (.ref D) ∧ ∀ H2, Gro H' H2 → Q (.str ⟨(t.ev c).toArray⟩) H2) H (fun _ H' => Q (.str ⟨els.toArray⟩) H')
theorem told_gives {X : Cx} {Ng : List Str} {x a xT en : Str} {sg : Scope} {g CT : Addr} {cdg : Value} {q : Str} {i j : Nat} {b₀ : Stmt} {suite : List Stmt} {t : Told} {els cs : List Nat} {elsS : Str} {p1 p2 p3 p4 p5 p6 p7 p8 : Pos}
    (hN : Ng.Nodup) (hi : Ng[i]? = some en) (hln : sg.names.lookup en = some .local) (hgT : sg.names.lookup xT = some .globalImplicit) (hmT : X.mg xT = some (.ref CT)) (hdT : (xT == ("__debug__" : Str)) = false) (h0 : ∀ f : Addr, (L2.start Ng [V.ref f])[0]? = some (some (V.ref f)))
    (hels : elsS = ⟨els.toArray⟩) (hexm : ∀ c ∈ cs, ∀ D, X.mg (exN c) = some (.ref D) → PySem.W.exmOne X.kw (.ref D) (.ref CT) = some true)
    (hsu : ∀ (Y : Cx), Y.K = X.kw → Y.mg = X.mg → Y.N = Ng → Y.env.scope = sg → ∀ c ∈ cs, ∀ D, X.mg (exN c) = some (.ref D) → ∀ (a : Addr) (oe : Obj) (pn : List (Addr × Obj)), L2N.Zn (.ref D) none oe → (∃ vs, oe.data = .fields vs) → PSs (Y.suite a ((a, oe) :: pn)) (b₀ :: suite) (rToldG a i Ng.length ⟨(t.ev c).toArray⟩)) :
    GivesN X Ng x sg g cdg [.Try [.Expr (.Call (.Name a p1) [] [] p2) p3] [.ExceptHandler (some (.Name xT p4)) (some en) (b₀ :: suite) p5] [] [] p6, .Return (some (.Constant (.str elsS) j p7)) p8] a q (TTold X.mg t els cs) := by
  intro f c' s H Q tl act hc h
  have hil : i < Ng.length := (List.getElem?_eq_some_iff.mp hi).1
  have hgl : Gl (cxOf C8.CX0 X.prog X.w X.kw X.mg X.base Ng x sg g cdg X.A X.stack s H C8.E0).nox xT := hgT
  refine ⟨_, pss_cons (L2N.ps_try_as (X := (cxOf C8.CX0 X.prog X.w X.kw X.mg X.base Ng x sg g cdg X.A X.stack s H C8.E0).nox) (c := .ref CT) (i := i)
      (tb := fun W D σ H => ∃ Ech : XK, (∀ cls d σ' H', Ech cls d H' → W cls d σ' H') ∧ σ[0]? = some (some (.ref f)) ∧ H c' = some (LamX.CodeO c' q) ∧ tl Ech H fun _ H' => D.nx σ H')
      (ts := fun a cls d D σ H => ∃ c Dc, c ∈ cs ∧ cls = .ref Dc ∧ d = none ∧ X.mg (exN c) = some (.ref Dc) ∧ rToldG a i Ng.length ⟨(t.ev c).toArray⟩ D σ H)
      rfl rfl hN hi hln ⟨hgl, hdT, .inl hmT⟩ takes0N (fun W pn xe tk _ => ?_) (fun a oe cls d pn hz hf => ?_)) (pss_one (ps_ret pe_str)), ?_⟩
  · refine ⟨fun pins s' σ H' D I h' => ?_⟩
    obtain ⟨Ech, hW, h1, h2, h3⟩ := h'
    have hp := act W pn xe Ech p1 p2 tk hW
    have hq := pss_one (ps_expr (pos := p3) hp)
    exact hq.run pins s' σ H' D I ⟨h1, h2, h3⟩
  · refine ⟨fun pins s' σ H' D I h' => ?_⟩
    obtain ⟨c, Dc, hc', rfl, rfl, hm, h1⟩ := h'
    exact (hsu (cxOf C8.CX0 X.prog X.w X.kw X.mg X.base Ng x sg g cdg X.A X.stack s H C8.E0).nox rfl rfl rfl rfl c hc' Dc hm a oe pn hz hf).run pins s' σ H' D I h1
  · refine ⟨fun cls d H' => ∃ c D, c ∈ cs ∧ cls = .ref D ∧ d = none ∧ X.mg (exN c) = some (.ref D) ∧ ∀ H2, Gro H' H2 → Q (.str ⟨(t.ev c).toArray⟩) H2, fun cls d σ' H' ⟨c, D, k1, k2, k3, k4, k5⟩ => ?_, h0 f, hc, ?_⟩
    · subst k2
      refine ⟨true, hexm c k1 D k4, fun _ a _ => ⟨c, D, k1, rfl, k3, k4, fun hl => ?_, k5⟩, fun z => nomatch z⟩
      rw [List.length_set] at hl
      exact List.getElem?_set_self (by rw [hl]; exact hil)
    · subst hels
      exact h
/-- a def that tells what was raised stands there -/
structure ToldAt (K : KW) (mg : Str → Option Value) (x : Str) (t : Told) (els cs : List Nat) : Prop where
  ex : ∃ (g : Addr) (Ng : List Str) (a : Str) (sg : Scope) (pg : Arguments) (bg : List Stmt) (dV kV doc pm cdv ct oc : Value) (an od : Option Addr) (osl : Array (Option Value)),
    mg x = some (.ref g) ∧ PySem.W.keepIn K (.ref g) = true ∧ K.K.lookup g = some ⟨oc, od, .func (PySem.W.fnOf x x pg bg sg dV kV doc pm an cdv ct), osl⟩ ∧ PySem.W.codeIn K cdv x = true ∧
    L2.Binds K (PySem.W.fnOf x x pg bg sg dV kV doc pm an cdv ct) [a] [] ∧ FnScope Ng [a] sg ∧ Ng[0]? = some a ∧ Vis sg a ∧ (a == ("__debug__" : Str)) = false ∧ (a == ("__classdict__" : Str)) = false ∧
    ∀ (X : Cx) (q : Str), X.K = K.K → X.mg = mg → GivesN X Ng x sg g cdv bg a q (TTold mg t els cs)
theorem Emb.extN {K : KW} {g : Gh} {m : Mm} {H H1 : Hp} (e : Emb K g m H) (x : LamX.ExtN H H1) (t : LamX.Tabs g.T H1) : Ext g H g H1 ∧ Emb K g m H1 := by
  have xx : Ext g H g H1 := ⟨fun _ _ h => h, fun _ _ h => h, fun a u h _ n => x a u h n, fun _ _ _ h _ => h, fun _ _ _ _ _ h => h, rfl⟩
  refine ⟨xx, ⟨fun n o h => ?_, fun n a h => ?_, e.inj, fun a u h => ?_, e.nt, t⟩⟩
  · have q := e.obj n o h
    cases o with
    | lst ys =>
      obtain ⟨a, ws, h1, h2, h3⟩ := q
      exact ⟨a, ws, h1, x _ _ h2 (fun _ z => nomatch z), h3.ext e xx⟩
    | dict ys =>
      obtain ⟨a, ws, h1, h2, h3⟩ := q
      exact ⟨a, ws, h1, x _ _ h2 (fun _ z => nomatch z), h3.ext e xx⟩
    | ins cN ys =>
      obtain ⟨a, cC, cD, ws, h1, cM, h2, h3⟩ := q
      exact ⟨a, cC, cD, ws, h1, cM, x _ _ h2 (fun _ z => nomatch z), h3.ext e xx⟩
    | dl ys =>
      obtain ⟨a, o, ws, h1, h2, h3⟩ := q
      exact ⟨a, o, ws, h1, h2, h3.ext e xx⟩
    | kd ys =>
      obtain ⟨a, ws, h1, h2, h3⟩ := q
      exact ⟨a, ws, h1, x _ _ h2 kd_nt, h3.ext e xx⟩
    | kl ys =>
      obtain ⟨a, o, ws, h1, h2, h3⟩ := q
      exact ⟨a, o, ws, h1, h2, h3.ext e xx⟩
    | dead => trivial
    | tab P l => exact q
  · obtain ⟨h1, u, h2, h3⟩ := e.dom n a h
    exact ⟨h1, u, x _ _ h2 (nt_mutl h3), h3⟩
  · obtain ⟨h1, h2⟩ := e.ro a u h
    exact ⟨x _ _ h1 (e.nt a u h), h2⟩
section
variable {X : Cx} {Ξ : XC}
theorem se_told {x : Str} {c P : Addr} {k : Nat} {q : List Nat} {params : Arguments} {body : Expr} {scope : Scope} {t : Told} {els cs : List Nat} {B : SE} {p lpos pos : Pos} (h : ToldAt X.kw X.mg x t els cs) (TB : LamX.TabB X.base X.mg c P) (hcode : X.env.code = .ref c) (hr : Room (k + 2) X.A)
    (hbody : ∀ (A : Around) (outer : List Env) (s : Shared) (H : Hp) (E : XK) (f c' : Addr), Room k (A.deeper (LamX.lamEnv X scope s.heap.objs.size f c')) → PE (lamN X A outer s H E scope f c') body (rdE X.kw (XofE X.kw X.mg E) B))
    (hq : X.env.qual ++ "<lambda>" = ⟨q.toArray⟩ := by rfl) (L : LamX.LamS X.env.scope scope := by exact LamX.lamS_by rfl) (hdef : defaultsOf params X.env = ([], []) := by rfl)
    (hbind : ∀ (q : Str) (cl : List (Str × Addr)) (pm cv ctv : Value), bindArgs (PySem.W.kla_fn "<lambda>" q params body scope cl pm cv ctv) ⟨[], []⟩ = pure [] := by intro _ _ _ _ _; rfl) (hg : Gl X x := by rfl) (hdb : (x == ("__debug__" : Str)) = false := by decide) :
    PE X (.Call (.Name x p) [.Lambda params body scope lpos] [] pos) (rdE X.kw Ξ (eTold P q t els cs B)) := by
  obtain ⟨g, Ng, a, sg, pg, bg, dV, kV, doc, pm, cdv, ct, oc, an, od, osl, hm, hk, lk, hcd, hb, S, hN0, hva, hda, hca, hG⟩ := h.ex
  refine PE_imp (lamcall_n (T := [(P, ⟨q.toArray⟩)]) (U := TTold X.mg t els cs) (tt := fun E => rdE X.kw (XofE X.kw X.mg E) B) hg hm hk lk hcd hb S hN0 hva (hG X _ rfl rfl) TB hcode (by rw [hq]; exact List.mem_singleton.mpr rfl) (fun p hp _ => by rw [hq]; cases List.mem_singleton.mp hp; rfl) hr L hdef hbind hbody hdb hda hca) fun σ H Q ⟨gh, s, m, em, sr, q1⟩ => ?_
  unfold eTold at q1
  split at q1
  · rename_i P' q' hm0
    split at q1
    · rename_i hh
      obtain ⟨rfl, rfl⟩ := hh
      have hT : gh.T = [(P', ⟨q'.toArray⟩)] := em.obj 0 _ hm0
      refine ⟨by rw [← hT]; exact em.tab, fun H1 eN T1 => ?_⟩
      obtain ⟨xx, ee⟩ := em.extN eN (by rw [hT]; exact T1)
      refine ⟨gh, s, m, ee, sr.ext em xx, ?_⟩
      cases hB : B s m with
      | ok pr =>
        obtain ⟨v, m'⟩ := pr
        rw [hB] at q1
        intro g2 H2 V x2 e2 r2
        exact q1 g2 H2 _ (xx.trans x2) e2 (.str els)
      | ex e m' =>
        rw [hB] at q1
        obtain ⟨cc, fs⟩ := e
        cases fs with
        | cons _ _ => exact q1.elim
        | nil =>
          by_cases hc : cs.contains cc = true
          · have q2 : QE X.kw Ξ gh H Q (.ok (.str (t.ev cc), m')) := by
              have q3 := q1
              simp only at q3
              rw [if_pos hc] at q3
              exact q3
            intro g2 H2 x2 e2 C d hmC hF
            refine ⟨cc, C, by simpa using hc, rfl, ?_, hmC, fun H3 gr => ?_⟩
            · cases hF; rfl
            · obtain ⟨x3, e3⟩ := e2.extN (LamX.ExtN.of gr) (LamX.Tabs.ext e2.tab gr)
              exact q2 g2 H3 _ ((xx.trans x2).trans x3) e3 (.str _)
          · have q3 := q1
            simp only at q3
            rw [if_neg hc] at q3
            exact q3.elim
      | no => rw [hB] at q1; exact q1.elim
    · exact q1.elim
  · exact q1.elim
end
section
variable {X : Cx} {Ξ : XC} {k : Nat} {x : Str} {p pos : Pos} {e : Expr} {es : List Expr} {fs : SA}
theorem cP_cX {K : KW} {mg : Str → Option Value} {E : XK} {g : Gh} {H : Hp} {Q : VK} {F : PF} {as : List PV} {m : Mm} (q : QE K Ξ g H Q (cP F as m)) : QE K (XofE K mg E) g H Q (cX F as m) := by
  unfold cP at q
  unfold cX
  split at q
  · rename_i hp
    rw [if_pos hp]
    cases h : F as with
    | ok p => rw [h] at q; exact q
    | ex e m => rw [h] at q; exact q.elim
    | no => rw [h] at q; exact q.elim
  · exact q.elim
theorem passN {X : Cx} : L2.Passes (L2N.CX X.prog X.w) X L2.E0 := fun _ _ _ _ _ _ _ h => by
  obtain ⟨_, _, _, _, _, _, _, _, _, _, _, _, z⟩ := h
  exact z.elim
/-- the call of a def that may raise, where it does not -/
theorem sh_callXP {n : Nat} {F : PF} (h : HasX X.prog X.w X.kw X.mg X.base x k (spX X.kw X.mg n F)) (hr : Room k X.A) (ha : PA X (e :: es) (rdA X.kw Ξ fs)) (hl : ∀ s m xs m', fs s m = .ok (xs, m') → xs.length = (e :: es).length)
    (hn : (e :: es).length = n := by rfl) (hg : Gl X x := by rfl) (hdb : (x == ("__debug__" : Str)) = false := by decide) (he : starEach (e :: es) X.env = (false, eval e X.env) :: starEach es X.env := by rfl) (hpl : (backTo pos (starEach es X.env)).any (·.1) = false := by rfl) :
    PE X (.Call (.Name x p) (e :: es) [] pos) (rdE X.kw Ξ (eN (cP F) fs)) := by
  obtain ⟨f, fd, ps, G, hm, hk, hb⟩ := h
  refine PE_imp (pe_call G hr hg hm hk hb .nil passN ha hdb he hpl) fun σ H Q ⟨g, s, m, em, sr, q⟩ => ?_
  refine ⟨g, s, m, em, sr, QR.bind q fun p hp q1 g1 H1 V x1 e1 r1 => ?_⟩
  exact ⟨g1, p.2, p.1, by rw [hl s m p.1 p.2 hp, hn], e1, by rw [List.append_nil]; exact r1, cP_cX (QE.later x1 q1)⟩
end

/-! ### the law's own promise, with a table -/
def spLawT (K : KW) (Pt : Addr) : Sp := fun vs H Q _ => ∃ (a : Addr) (ns : List Int), vs = [.ref a] ∧ SqL K H a (ns.map V.int) ∧ ns.length ≤ 63 ∧ H Pt = some (.tbl #[]) ∧ ∀ H', Q (.bl true) H'
theorem spLawT_of {K : KW} {Pt : Addr} {q : List Nat} {F : IF} (h : ∀ ns : List Int, ns.length ≤ 63 → ∃ m, F [.fz (ns.map PV.int)] [.tab Pt q] = .ok (.bl true, m)) {vs : List V} {H : Hp} {Q : VK} {E : XK} (z : spLawT K Pt vs H Q E) : spI K 1 F vs H Q E := by
  obtain ⟨a, ns, rfl, hS, hl, hP, z⟩ := z
  refine ⟨⟨fun _ => none, ntOf H, [(Pt, ⟨q.toArray⟩)]⟩, [.tab Pt q], [.fz (ns.map PV.int)], rfl, ⟨(fun n o h => ?_), (fun n a h => nomatch h), (fun n k a h _ => nomatch h), (fun a u h => ⟨(ntOf_inv h).1, (fun n z => nomatch z)⟩), (fun a u h => (ntOf_inv h).2), (fun p hp => ?_)⟩, .cons (.fz (ntOf_sq hS) (rps_ints ns)) .nil, ?_⟩
  · cases n with
    | zero => simp at h; subst h; rfl
    | succ n => simp at h
  · cases List.mem_singleton.mp hp
    exact LamX.TabS.nil hP
  · obtain ⟨m, hm⟩ := h ns hl
    unfold cI
    rw [hm]
    intro g' H' V x e r
    cases r.bl_inv
    exact z H'
theorem law_fnT {P : Program} {w : World} {K : KW} {mg : Str → Option Value} {base : Heap} {x : Str} {st : Stmt} {f c Pt : Addr} {N : List Str} {p : Str} {k : Nat} {b : SS} {q : List Nat} {oc kV doc pm ct : Value} {od an : Option Addr} {osl : Array (Option Value)}
    (lk : K.K.lookup f = some ⟨oc, od, .func (PySem.W.fnOf x x (defArgs st) (defBody st) (defScope st) .none kV doc pm an (.ref c) ct), osl⟩) (hcd : PySem.W.codeIn K (.ref c) x = true) (S : FnScope N [p] (defScope st)) (hN : 1 ≤ N.length)
    (hbody : ∀ (A : Around) (outer : List Env) (s : Shared) (H : Hp) (E : XK), Room k (A.deeper (envOfC x (defScope st) s.heap.objs.size f (.ref c))) →
      PSs (cxOf CX0 P w K mg base N x (defScope st) f (.ref c) A outer s H E).nox (defBody st) (rdS K X0 b))
    (h : ∀ ns : List Int, ns.length ≤ 63 → ∃ m, bodyI N.length 1 b [.fz (ns.map PV.int)] [.tab Pt q] = .ok (.bl true, m)) : FnOk P w K mg base CX0 (k + 1) f (PySem.W.fnOf x x (defArgs st) (defBody st) (defScope st) .none kV doc pm an (.ref c) ct) [p] (spLawT K Pt) := by
  refine fn_of lk hcd S (fun vs H Q E z => ?_) fun A outer s H vs Q E hr z => ?_
  · obtain ⟨a, ns, rfl, _⟩ := z; rfl
  · obtain ⟨g, m, as, hl, em, r, q⟩ := spLawT_of h z
    exact ⟨_, (hbody A outer s H E hr).nox, body_rd em r (by rw [hl]; exact hN) (by rw [hl]; exact q)⟩
end TT
end

section
set_option Elab.async false
set_option linter.all false
set_option autoImplicit false
set_option maxRecDepth 100000
/-! TT: defs as values, called by a name that holds one -/
namespace TT
open PySem PySem.Spec PyProof.Rows L2
/-- v(..), v one of these defs -/
def eCallV (tbl : List (Nat × ON)) (f : SE) (args : SA) : SE := fun s m => (f s m).bind fun (v, m1) => match v with
  | .fn a => (match tbl.lookup a with
    | some G => (args s m1).bind fun (xs, m2) => G xs m2
    | none => .no)
  | _ => .no
/-- a def that may raise stands at a, with the values of what is left out -/
def CalV (P : Program) (w : World) (K : KW) (mg : Str → Option Value) (base : Heap) (x : Str) (a : Addr) (k : Nat) (ds : List PV) (sp : Sp) : Prop :=
  ∃ fd ps us zs, FnOk P w K mg base (L2N.CX P w) k a fd ps sp ∧ mg x = some (.ref a) ∧ PySem.W.keepIn K (.ref a) = true ∧ Binds K fd ps us ∧ Vals zs us ∧ ∀ g H, Rps K g H ds zs
section
variable {P : Program} {w : World} {K : KW} {mg : Str → Option Value} {base : Heap}
theorem CalV.toX {x : Str} {a : Addr} {k n N : Nat} {ds : List PV} {b : SS} (h : CalV P w K mg base x a k ds (spXI K mg n (bodyI N n b))) : CalV P w K mg base x a k ds (spX K mg n (bodyP N n b)) :=
  let ⟨fd, ps, us, zs, c, r⟩ := h; ⟨fd, ps, us, zs, c.imp fun _ _ _ _ => spX_of, r⟩
theorem cal_def {x : Str} {st : Stmt} {a : Addr} {fd : FuncData} {ps : List Str} {k : Nat} {sp : Sp} (c : FnOk P w K mg base (L2N.CX P w) k a fd ps sp) (F : Fun K x x st a fd) (hm : mg x = some (.ref a))
    (h : ∀ (kV doc pm : Value) (an : Option Addr) (cdv ct : Value) (us : List Value), us.length = ps.length → bindArgs (PySem.W.fnOf x x (defArgs st) (defBody st) (defScope st) .none kV doc pm an cdv ct) ⟨us, []⟩ = pure (ps.zip us)) : CalV P w K mg base x a k [] sp :=
  ⟨fd, ps, [], [], c, hm, F.kp, F.binds h, .nil, fun _ _ => .nil⟩
theorem CalV.hasX {x : Str} {a : Addr} {k : Nat} {sp : Sp} (h : CalV P w K mg base x a k [] sp) : HasX P w K mg base x k sp := by
  obtain ⟨fd, ps, us, zs, c, hm, kp, hb, hv, hz⟩ := h
  have h0 : zs = [] := by
    have := (hz ⟨fun _ => none, fun _ => none, []⟩ fun _ => none).length
    cases zs with
    | nil => rfl
    | cons _ _ => cases this
  subst h0
  cases hv
  exact ⟨a, fd, ps, c, hm, kp, hb⟩
theorem cal_defD {x : Str} {st : Stmt} {f : Addr} {fd : FuncData} {ps : List Str} {k : Nat} {sp : Sp} {kws : List (Str × V)} {ds : List PV} (n : Nat) (a : FnOk P w K mg base (L2N.CX P w) k f fd ps sp) (hm : mg x = some (.ref f)) (F : FunD K x x (defArgs st) (defBody st) (defScope st) [] kws f fd) (hk : kws ≠ []) (hn : n + kws.length = ps.length)
    (hc : ∀ (D : Addr) (doc pm : Value) (an : Option Addr) (cdv ct : Value) (us ks : List Value), us.length = n → ks.length = kws.length →
      KwChain D ((kws.map (·.1)).zip ks) (bindArgs (PySem.W.fnOf x x (defArgs st) (defBody st) (defScope st) .none (.ref D) doc pm an cdv ct) ⟨us, []⟩) (ps.zip (us ++ ks))) (hd : ∀ g H, Rps K g H ds (kws.map (·.2))) : CalV P w K mg base x f k ds sp := by
  obtain ⟨us, hv, hb⟩ := F.binds0 n hk hn hc
  exact ⟨fd, ps, us, _, a, hm, F.kp, hb, hv, hd⟩
end
section
variable {X : Cx} {Ξ : XC} {j : Nat} {x : Str} {p pos : Pos} {e : Expr} {es : List Expr} {fs : SA}
theorem se_fnv {a : Addr} {k : Nat} {ds : List PV} {sp : Sp} (h : CalV X.prog X.w X.kw X.mg X.base x a k ds sp) (hg : Gl X x := by rfl) (hd : (x == ("__debug__" : Str)) = false := by decide) : PE X (.Name x pos) (rdE X.kw Ξ (eC (.fn a))) := by
  obtain ⟨fd, ps, us, zs, c, hm, _⟩ := h
  exact PE_imp (pe_glob (v := .ref a) hg hm rfl hd) fun σ H Q ⟨g, s, m, em, sr, q⟩ => q g H _ (Ext.refl _ _) em (.fn a)
/-- each def of the table -/
def TblOk (X : Cx) (j n : Nat) (tbl : List (Nat × ON)) : Prop := ∀ a G, (a, G) ∈ tbl → ∃ (k : Nat) (x : Str) (ds : List PV) (N : Nat) (F : PF), k ≤ j ∧ n + ds.length = N ∧ CalV X.prog X.w X.kw X.mg X.base x a k ds (spX X.kw X.mg N F) ∧ G = fun xs m => cX F (xs ++ ds) m
theorem tbl_nil {n : Nat} : TblOk X j n [] := fun _ _ h => nomatch h
theorem tbl_cons {n : Nat} {tbl : List (Nat × ON)} {a : Addr} {k N : Nat} {y : Str} {ds : List PV} {F : PF} (h : CalV X.prog X.w X.kw X.mg X.base y a k ds (spX X.kw X.mg N F)) (hk : k ≤ j) (hn : n + ds.length = N) (ht : TblOk X j n tbl) : TblOk X j n ((a, fun xs m => cX F (xs ++ ds) m) :: tbl) := fun b G hm => by
  rcases List.mem_cons.mp hm with z | z
  · cases z
    exact ⟨k, y, ds, N, F, hk, hn, h, rfl⟩
  · exact ht b G z
theorem lookup_mem {α : Type} : ∀ {l : List (Nat × α)} {a : Nat} {v : α}, l.lookup a = some v → (a, v) ∈ l
  | (b, w) :: l, a, v, h => by
    rw [List.lookup_cons] at h
    split at h
    · rename_i hb
      cases h
      rw [beq_iff_eq.mp hb]; exact List.mem_cons_self
    · exact List.mem_cons_of_mem _ (lookup_mem h)
theorem se_callV {tbl : List (Nat × ON)} {n : Nat} {E : XK} (i : Nat) (ok : TblOk X j n tbl) (hr : Room j X.A) (tk : L2N.Takes X (fun cls d _ H => E cls d H)) (ha : PA X (e :: es) (rdA X.kw (XofE X.kw X.mg E) fs)) (hl : ∀ s m xs m', fs s m = .ok (xs, m') → xs.length = (e :: es).length)
    (hn : (e :: es).length = n := by rfl) (hN : X.N[i]? = some x := by rfl) (hv : Vis X.env.scope x := by first | exact Or.inl rfl | exact Or.inr (Or.inl rfl) | exact Or.inr (Or.inr rfl)) (hd : (x == ("__debug__" : Str)) = false := by decide) (hcd : (x == ("__classdict__" : Str)) = false := by decide)
    (he : starEach (e :: es) X.env = (false, eval e X.env) :: starEach es X.env := by rfl) (hpl : (backTo pos (starEach es X.env)).any (·.1) = false := by rfl) :
    PE X (.Call (.Name x p) (e :: es) [] pos) (rdE X.kw (XofE X.kw X.mg E) (eCallV tbl (eVar i) fs)) := by
  refine ⟨fun pins s σ H Q I ⟨g, sl, m, em, sr, q⟩ => ?_⟩
  unfold eCallV eVar at q
  cases hsl : sl[i]? with
  | none => rw [hsl] at q; exact q.elim
  | some o =>
    cases o with
    | none => rw [hsl] at q; exact q.elim
    | some v =>
      rw [hsl] at q
      simp only [Rs.bind_ok] at q
      obtain ⟨wv, hσ, rv⟩ := sr.at_ i v hsl
      cases v with
      | fn a =>
        cases rv
        cases htb : tbl.lookup a with
        | none => simp only [htb] at q; exact q.elim
        | some G =>
          obtain ⟨k, y, ds, N, F, hk, hN2, ⟨fd, ps, us, zs, c, hm, kp, hb, hvz, hz⟩, hG⟩ := ok a G (lookup_mem htb)
          have name := (pe_var (X := X) (pos := p) hN hv hd hcd).run pins s σ H (fun v H1 => v = .ref a ∧ H1 = H) I ⟨.ref a, hσ, rfl, rfl⟩
          simp only [htb, hG] at q
          have args : rdA X.kw (XofE X.kw X.mg E) fs σ H fun vs H1 => spX X.kw X.mg N F (vs ++ zs) H1 Q E := by
            refine ⟨g, sl, m, em, sr, QR.bind q fun pr hp q1 g1 H1 V x1 e1 r1 => ?_⟩
            exact ⟨g1, pr.2, pr.1 ++ ds, by rw [List.length_append, hl _ _ _ _ hp, hn, hN2], e1, r1.append (hz _ _), QE.later x1 q1⟩
          refine wpAny_Call_Name_kw (thn name fun u s1 ⟨v, H1, I1, r1, q1⟩ => ?_)
          obtain ⟨rfl, rfl⟩ := q1
          cases r1
          have step := fun (I1 : Inv X pins σ H1 s1) => ha.run pos pins s1 σ H1 _ I1 args
          refine PySem.W.callWith_K (h₀ := X.base) I1.ok.mod.kin kp (thn (step I1) fun vs2 s2 ⟨ws, H2, I2, r2, q2⟩ => ⟨I2.kIn, ?_⟩) he hpl
          exact run_fn (X := X) c (hr.mono hk) hb hvz (L2N.passes_call tk fun _ _ _ _ h => h) I2 r2 q2
      | _ => exact q.elim
end
theorem ss_nevers {X : Cx} {Ξ : XC} {sts : List Stmt} : PSs X sts (rdS X.kw Ξ sNever) := ⟨fun pins s σ H D I ⟨g, sl, m, em, sr, q⟩ => q.elim⟩
end TT
end

section
set_option linter.all false
set_option autoImplicit false
/-! TT: equations for simp -/
namespace TT
section
variable {s : Sl} {m : Mm} {a b c : SE} {v w : PV} {i : Nat} {t u : ST} {f h : SS} {r : SA}
@[simp] theorem eVar_ap : eVar i s m = (match s[i]? with | some (some v) => .ok (v, m) | _ => .no) := rfl
@[simp] theorem eC_ap : eC v s m = .ok (v, m) := rfl
@[simp] theorem e1_ap {f : O1} : e1 f a s m = (a s m).bind fun p => f p.1 p.2 := rfl
@[simp] theorem e2_ap {f : O2} : e2 f a b s m = (a s m).bind fun p => (b s p.2).bind fun q => f p.1 q.1 q.2 := rfl
@[simp] theorem aNil_ap : aNil s m = .ok ([], m) := rfl
@[simp] theorem aCons_ap : aCons a r s m = (a s m).bind fun p => (r s p.2).bind fun q => .ok (p.1 :: q.1, q.2) := rfl
@[simp] theorem eN_ap {f : ON} : eN f r s m = (r s m).bind fun p => f p.1 p.2 := rfl
@[simp] theorem eTup_ap : eTup r s m = (r s m).bind fun p => .ok (.tup p.1, p.2) := rfl
@[simp] theorem eLst_ap : eLst r s m = (r s m).bind fun p => .ok (.vl p.1, p.2) := rfl
@[simp] theorem eLstM_ap : eLstM r s m = (r s m).bind fun p => .ok (.ref p.2.length, p.2 ++ [.lst p.1]) := rfl
@[simp] theorem eIf_ap : eIf t a b s m = (t s m).bind fun p => if p.1 = true then a s p.2 else b s p.2 := rfl
@[simp] theorem eM_ap {g : Tag} {f : PV → List PV → Mm → Rs (PV × Mm)} : eM g f a r s m = (a s m).bind fun p => if tyOk p.2 g p.1 = true then (r s p.2).bind fun q => f p.1 q.1 q.2 else .no := rfl
@[simp] theorem eSlL_ap : eSlL a b s m = (b s m).bind fun p => (a s p.2).bind fun q => match q.1 with
  | .int i => oSlice (some i) none p.1 q.2
  | _ => .no := rfl
@[simp] theorem eSlH_ap : eSlH a b s m = (b s m).bind fun p => (a s p.2).bind fun q => match q.1 with
  | .int i => oSlice none (some i) p.1 q.2
  | _ => .no := rfl
@[simp] theorem eSlLH_ap : eSlLH a b c s m = (c s m).bind fun p => (a s p.2).bind fun q => match q.1 with
  | .int i => (b s q.2).bind fun z => match z.1 with
    | .int j => oSlice (some i) (some j) p.1 z.2
    | _ => .no
  | _ => .no := rfl
@[simp] theorem asB_bl {k : Bool} : asB (.bl k) m = .ok (k, m) := rfl
@[simp] theorem eAnd_ap : eAnd a b s m = (a s m).bind fun p => match p.1 with
  | .bl true => b s p.2
  | .bl false => .ok (.bl false, p.2)
  | _ => .no := rfl
@[simp] theorem eOr_ap : eOr a b s m = (a s m).bind fun p => match p.1 with
  | .bl false => b s p.2
  | .bl true => .ok (.bl true, p.2)
  | _ => .no := rfl
@[simp] theorem eNot_ap : eNot a s m = (a s m).bind fun p => match p.1 with
  | .bl b => .ok (.bl (!b), p.2)
  | _ => .no := rfl
@[simp] theorem tV_ap : tV a s m = (a s m).bind fun p => asB p.1 p.2 := rfl
@[simp] theorem tAnd_ap : tAnd t u s m = (t s m).bind fun p => if p.1 = true then u s p.2 else .ok (false, p.2) := rfl
@[simp] theorem tOr_ap : tOr t u s m = (t s m).bind fun p => if p.1 = true then .ok (true, p.2) else u s p.2 := rfl
@[simp] theorem tNot_ap : tNot t s m = (t s m).bind fun p => .ok (!p.1, p.2) := rfl
@[simp] theorem tT_ap : tT a s m = (a s m).bind fun p => match tru p.2 p.1 with
  | some b => .ok (b, p.2)
  | none => .no := rfl
@[simp] theorem tYes_ap : tYes s m = .ok (true, m) := rfl
@[simp] theorem tru_bl {k : Bool} : tru m (.bl k) = some k := rfl
@[simp] theorem tru_non : tru m .non = some false := rfl
@[simp] theorem tru_int {i : Int} : tru m (.int i) = some (i != 0) := rfl
@[simp] theorem gName_ap : gName i v s m = .ok (s.set i (some v), m) := rfl
@[simp] theorem gNames_nil : gNames [] [] s = some s := rfl
@[simp] theorem gNames_cons {is : List Nat} {vs : List PV} : gNames (i :: is) (v :: vs) s = gNames is vs (s.set i (some v)) := rfl
@[simp] theorem gTup_ap {is : List Nat} {vs : List PV} : gTup is (.tup vs) s m = (match gNames is vs s with | some s' => .ok (s', m) | none => .no) := rfl
@[simp] theorem gSub_ap : gSub a b v s m = (a s m).bind fun p => (b s p.2).bind fun q => (oSet p.1 q.1 v q.2).bind fun m3 => .ok (s, m3) := rfl
@[simp] theorem sSkip_ap : sSkip s m = .ok (.nx, s, m) := rfl
@[simp] theorem sSeq_ap : sSeq f h s m = (f s m).bind fun p => match p.1 with
  | .nx => h p.2.1 p.2.2
  | g => .ok (g, p.2.1, p.2.2) := rfl
@[simp] theorem sExpr_ap : sExpr a s m = (a s m).bind fun p => .ok (.nx, s, p.2) := rfl
@[simp] theorem sAsg_ap {g : SG} : sAsg a g s m = (a s m).bind fun p => (g p.1 s p.2).bind fun q => .ok (.nx, q.1, q.2) := rfl
@[simp] theorem sRet_ap : sRet a s m = (a s m).bind fun p => .ok (.rt p.1, s, p.2) := rfl
@[simp] theorem sRetN_ap : sRetN s m = .ok (.rt .non, s, m) := rfl
@[simp] theorem sIf_ap : sIf t f h s m = (t s m).bind fun p => if p.1 = true then f s p.2 else h s p.2 := rfl
@[simp] theorem sBreak_ap : sBreak s m = .ok (.bk, s, m) := rfl
@[simp] theorem sCont_ap : sCont s m = .ok (.ct, s, m) := rfl
@[simp] theorem sPar2_ap {i j : Nat} : sPar2 i j r s m = (r s m).bind fun p => match p.1 with
  | [x, y] => .ok (.nx, (s.set i (some x)).set j (some y), p.2)
  | _ => .no := rfl
@[simp] theorem sPar3_ap {i j l : Nat} : sPar3 i j l r s m = (r s m).bind fun p => match p.1 with
  | [x, y, z] => .ok (.nx, ((s.set i (some x)).set j (some y)).set l (some z), p.2)
  | _ => .no := rfl
theorem sFor_ap {it : SI} {g : SG} : sFor it g f s m = (it s m).bind fun p => forL g f p.1 s p.2 := rfl
@[simp] theorem forL_nil {g : SG} : forL g f [] s m = .ok (.nx, s, m) := rfl
theorem forL_cons {g : SG} {xs : List PV} : forL g f (v :: xs) s m = (g v s m).bind fun p => (f p.1 p.2).bind fun q => match q.1 with
  | .nx => forL g f xs q.2.1 q.2.2
  | .ct => forL g f xs q.2.1 q.2.2
  | .bk => .ok (.nx, q.2.1, q.2.2)
  | .rt v => .ok (.rt v, q.2.1, q.2.2) := rfl
@[simp] theorem iL_ap : iL a s m = (a s m).bind fun p => match p.1 with
  | .vl xs => .ok (xs, p.2)
  | _ => .no := rfl
@[simp] theorem iT_ap : iT a s m = (a s m).bind fun p => match p.1 with
  | .tup xs => .ok (xs, p.2)
  | _ => .no := rfl
@[simp] theorem iZip_ap : iZip a b s m = (a s m).bind fun p => (b s p.2).bind fun q => match p.1, q.1 with
  | .tup xs, .tup ys => .ok (zipP xs ys, q.2)
  | .vl xs, .vl ys => .ok (zipP xs ys, q.2)
  | _, _ => .no := rfl
@[simp] theorem iRng1_ap : iRng1 a s m = (a s m).bind fun p => match p.1 with
  | .int j => if (decide (-P62 ≤ j) && decide (j < P62)) = true then .ok (rngL 0 j.toNat, p.2) else .no
  | _ => .no := rfl
theorem eLc_ap {own : List Nat} {it : SI} {g : SG} : eLc own it g t a s m = (it s m).bind fun p => (lcL g t a (wipe s own) p.1 p.2 []).bind fun q => .ok (.vl q.1, q.2) := rfl
@[simp] theorem look_non : look1 m .non = .non := rfl
@[simp] theorem look_bl {k : Bool} : look1 m (.bl k) = .bl k := rfl
@[simp] theorem look_int {k : Int} : look1 m (.int k) = .int k := rfl
@[simp] theorem look_str {k : List Nat} : look1 m (.str k) = .str k := rfl
@[simp] theorem look_tup {k : List PV} : look1 m (.tup k) = .tup k := rfl
@[simp] theorem look_vl {k : List PV} : look1 m (.vl k) = .vl k := rfl
@[simp] theorem look_fz {k : List PV} : look1 m (.fz k) = .fz k := rfl
theorem look_ref {n : Nat} {k : List PV} (h : m[n]? = some (.lst k)) : look1 m (.ref n) = .vl k := by simp [look1, h]
/-! operators -/
@[simp] theorem oAdd_int {i j : Int} : oAdd (.int i) (.int j) m = .ok (.int (i + j), m) := rfl
@[simp] theorem oSub_int {i j : Int} : oSub (.int i) (.int j) m = .ok (.int (i - j), m) := rfl
theorem oAdd_tup {x y : List PV} : oAdd (.tup x) (.tup y) m = if x.length + y.length ≤ LINE then .ok (.tup (x ++ y), m) else .no := rfl
theorem oAdd_vl {x y : List PV} : oAdd (.vl x) (.vl y) m = if x.length + y.length ≤ LINE then .ok (.vl (x ++ y), m) else .no := rfl
theorem oAdd_str {x y : List Nat} : oAdd (.str x) (.str y) m = if x.length + y.length ≤ LINE then .ok (.str (x ++ y), m) else .no := rfl
theorem oMul_int {i j : Int} : oMul (.int i) (.int j) m = if (within64 i || within64 j) = true then .ok (.int (i * j), m) else .no := rfl
theorem oFDiv_int {i j : Int} : oFDiv (.int i) (.int j) m = if (decide (0 < j) && decide (j < 1073741824)) = true then .ok (.int (i / j), m) else .no := rfl
theorem oMod_int {i j : Int} : oMod (.int i) (.int j) m = if decide (0 < j) = true then .ok (.int (i % j), m) else .no := rfl
@[simp] theorem oNeg_int {i : Int} : oNeg (.int i) m = .ok (.int (-i), m) := rfl
@[simp] theorem oLt_int {i j : Int} : oLt (.int i) (.int j) m = .ok (.bl (decide (i < j)), m) := rfl
@[simp] theorem oLe_int {i j : Int} : oLe (.int i) (.int j) m = .ok (.bl (decide (i ≤ j)), m) := rfl
@[simp] theorem oGt_int {i j : Int} : oGt (.int i) (.int j) m = .ok (.bl (decide (j < i)), m) := rfl
@[simp] theorem oGe_int {i j : Int} : oGe (.int i) (.int j) m = .ok (.bl (decide (j ≤ i)), m) := rfl
@[simp] theorem oIs_non {neg : Bool} : oIs neg .non .non m = .ok (.bl (!neg), m) := rfl
@[simp] theorem oIs_bl {neg : Bool} {k : Bool} : oIs neg .non (.bl k) m = .ok (.bl neg, m) := rfl
@[simp] theorem oIs_int {neg : Bool} {k : Int} : oIs neg .non (.int k) m = .ok (.bl neg, m) := rfl
@[simp] theorem oIs_str {neg : Bool} {k : List Nat} : oIs neg .non (.str k) m = .ok (.bl neg, m) := rfl
@[simp] theorem oIs_tup {neg : Bool} {k : List PV} : oIs neg .non (.tup k) m = .ok (.bl neg, m) := rfl
@[simp] theorem oIs_vl {neg : Bool} {k : List PV} : oIs neg .non (.vl k) m = .ok (.bl neg, m) := rfl
@[simp] theorem fInt_int {i : Int} : fInt [.int i] m = .ok (.int i, m) := rfl
@[simp] theorem fInt_bl {k : Bool} : fInt [.bl k] m = .ok (.int (b2i k), m) := rfl
@[simp] theorem fLen_vl {xs : List PV} : fLen [.vl xs] m = .ok (.int xs.length, m) := rfl
@[simp] theorem fLen_fz {xs : List PV} : fLen [.fz xs] m = .ok (.int xs.length, m) := rfl
@[simp] theorem fLen_tup {xs : List PV} : fLen [.tup xs] m = .ok (.int xs.length, m) := rfl
@[simp] theorem fMin_int {i j : Int} : fMin [.int i, .int j] m = .ok (.int (if j < i then j else i), m) := rfl
@[simp] theorem fMax_int {i j : Int} : fMax [.int i, .int j] m = .ok (.int (if j > i then j else i), m) := rfl
@[simp] theorem fList_tup {xs : List PV} : fList [.tup xs] m = .ok (.vl xs, m) := rfl
@[simp] theorem fList_vl {xs : List PV} : fList [.vl xs] m = .ok (.vl xs, m) := rfl
@[simp] theorem fTuple_tup {xs : List PV} : fTuple [.tup xs] m = .ok (.tup xs, m) := rfl
@[simp] theorem fTuple_vl {xs : List PV} : fTuple [.vl xs] m = .ok (.tup xs, m) := rfl
/-! eq -/
@[simp] theorem sh_non {n : Nat} : PV.sh n .non = true := by cases n <;> rfl
@[simp] theorem sh_bl {n : Nat} {k : Bool} : PV.sh n (.bl k) = true := by cases n <;> rfl
@[simp] theorem sh_int {n : Nat} {k : Int} : PV.sh n (.int k) = true := by cases n <;> rfl
@[simp] theorem sh_str {n : Nat} {k : List Nat} : PV.sh n (.str k) = true := by cases n <;> rfl
@[simp] theorem sh_tup {n : Nat} {k : List PV} : PV.sh (n + 1) (.tup k) = k.all (PV.sh n) := rfl
@[simp] theorem sh_vl {n : Nat} {k : List PV} : PV.sh (n + 1) (.vl k) = k.all (PV.sh n) := rfl
theorem oEq_of (h1 : (look1 m v).sh DEP = true) (h2 : (look1 m w).sh DEP = true) : oEq v w m = .ok (.bl (PV.eqv (look1 m v) (look1 m w)), m) := by simp [oEq, h1, h2]
theorem oNe_of (h1 : (look1 m v).sh DEP = true) (h2 : (look1 m w).sh DEP = true) : oNe v w m = .ok (.bl (!PV.eqv (look1 m v) (look1 m w)), m) := by simp [oNe, h1, h2]
end
end TT
namespace TT
section
variable {m : Mm} {a b : PV} {i j : Int} {p q : Bool} {x y : List Nat} {xs ys : List PV}
@[simp] theorem eqv_int : PV.eqv (.int i) (.int j) = (i == j) := rfl
@[simp] theorem eqv_bl : PV.eqv (.bl p) (.bl q) = (p == q) := rfl
@[simp] theorem eqv_str : PV.eqv (.str x) (.str y) = (x == y) := rfl
@[simp] theorem eqv_blint : PV.eqv (.bl p) (.int j) = (b2i p == j) := rfl
@[simp] theorem eqv_intbl : PV.eqv (.int i) (.bl q) = (i == b2i q) := rfl
@[simp] theorem eqv_tup : PV.eqv (.tup xs) (.tup ys) = PV.eqvs xs ys := rfl
@[simp] theorem eqv_vl : PV.eqv (.vl xs) (.vl ys) = PV.eqvs xs ys := rfl
@[simp] theorem eqvs_nil : PV.eqvs [] [] = true := rfl
@[simp] theorem eqvs_cons : PV.eqvs (a :: xs) (b :: ys) = (PV.eqv a b && PV.eqvs xs ys) := rfl
@[simp] theorem eqvs_nc : PV.eqvs [] (b :: ys) = false := rfl
@[simp] theorem eqvs_cn : PV.eqvs (a :: xs) [] = false := rfl
@[simp] theorem eqv_nn : PV.eqv .non .non = true := rfl
@[simp] theorem eqv_ni : PV.eqv .non (.int j) = false := rfl
@[simp] theorem eqv_in : PV.eqv (.int j) .non = false := rfl
@[simp] theorem eqv_ns : PV.eqv .non (.str x) = false := rfl
@[simp] theorem eqv_sn : PV.eqv (.str x) .non = false := rfl
@[simp] theorem eqv_nb : PV.eqv .non (.bl q) = false := rfl
@[simp] theorem eqv_bn : PV.eqv (.bl q) .non = false := rfl
@[simp] theorem eqv_nt : PV.eqv .non (.tup xs) = false := rfl
@[simp] theorem eqv_tn : PV.eqv (.tup xs) .non = false := rfl
@[simp] theorem eqv_nv : PV.eqv .non (.vl xs) = false := rfl
@[simp] theorem eqv_vn : PV.eqv (.vl xs) .non = false := rfl
@[simp] theorem eqv_is : PV.eqv (.int i) (.str x) = false := rfl
@[simp] theorem eqv_si : PV.eqv (.str x) (.int i) = false := rfl
@[simp] theorem eqv_it : PV.eqv (.int i) (.tup xs) = false := rfl
@[simp] theorem eqv_ti : PV.eqv (.tup xs) (.int i) = false := rfl
@[simp] theorem eqv_iv : PV.eqv (.int i) (.vl xs) = false := rfl
@[simp] theorem eqv_vi : PV.eqv (.vl xs) (.int i) = false := rfl
@[simp] theorem eqv_bs : PV.eqv (.bl p) (.str x) = false := rfl
@[simp] theorem eqv_sb : PV.eqv (.str x) (.bl p) = false := rfl
@[simp] theorem eqv_bt : PV.eqv (.bl p) (.tup xs) = false := rfl
@[simp] theorem eqv_tb : PV.eqv (.tup xs) (.bl p) = false := rfl
@[simp] theorem eqv_bv : PV.eqv (.bl p) (.vl xs) = false := rfl
@[simp] theorem eqv_vb : PV.eqv (.vl xs) (.bl p) = false := rfl
@[simp] theorem eqv_st : PV.eqv (.str x) (.tup xs) = false := rfl
@[simp] theorem eqv_ts : PV.eqv (.tup xs) (.str x) = false := rfl
@[simp] theorem eqv_sv : PV.eqv (.str x) (.vl xs) = false := rfl
@[simp] theorem eqv_vs : PV.eqv (.vl xs) (.str x) = false := rfl
@[simp] theorem eqv_tv : PV.eqv (.tup xs) (.vl ys) = false := rfl
@[simp] theorem eqv_vt : PV.eqv (.vl xs) (.tup ys) = false := rfl
theorem oEq_pl (h1 : a.sh DEP = true) (h2 : b.sh DEP = true) : oEq a b m = .ok (.bl (PV.eqv a b), m) := by
  have l1 : look1 m a = a := by cases a with
    | ref n => cases h1
    | _ => rfl
  have l2 : look1 m b = b := by cases b with
    | ref n => cases h2
    | _ => rfl
  have := oEq_of (m := m) (v := a) (w := b) (by rw [l1]; exact h1) (by rw [l2]; exact h2)
  rw [l1, l2] at this
  exact this
theorem oNe_pl (h1 : a.sh DEP = true) (h2 : b.sh DEP = true) : oNe a b m = .ok (.bl (!PV.eqv a b), m) := by
  have l1 : look1 m a = a := by cases a with
    | ref n => cases h1
    | _ => rfl
  have l2 : look1 m b = b := by cases b with
    | ref n => cases h2
    | _ => rfl
  have := oNe_of (m := m) (v := a) (w := b) (by rw [l1]; exact h1) (by rw [l2]; exact h2)
  rw [l1, l2] at this
  exact this
@[simp] theorem oEq_int : oEq (.int i) (.int j) m = .ok (.bl (i == j), m) := oEq_pl (by simp) (by simp)
@[simp] theorem oNe_int : oNe (.int i) (.int j) m = .ok (.bl (!(i == j)), m) := oNe_pl (by simp) (by simp)
@[simp] theorem oEq_bl : oEq (.bl p) (.bl q) m = .ok (.bl (p == q), m) := oEq_pl (by simp) (by simp)
@[simp] theorem oEq_str : oEq (.str x) (.str y) m = .ok (.bl (x == y), m) := oEq_pl (by simp) (by simp)
@[simp] theorem oNe_str : oNe (.str x) (.str y) m = .ok (.bl (!(x == y)), m) := oNe_pl (by simp) (by simp)
end
end TT
namespace TT
section
variable {m : Mm} {b n : Nat} {xs : List PV} {k : Int} {v : PV} {o o' : Ob}
theorem getset1 (h : m[b]? = some o) : (m.set b o')[b]? = some o' := List.getElem?_set_self (List.getElem?_eq_some_iff.mp h).1
theorem oIx_ref (h : m[b]? = some (.lst xs)) (hk : atI xs k = some v) : oIx (.ref b) (.int k) m = .ok (v, m) := by
  unfold oIx; rw [look_ref h]; simp only [hk]
theorem oIx_vl (hk : atI xs k = some v) : oIx (.vl xs) (.int k) m = .ok (v, m) := by
  unfold oIx; simp only [look_vl, hk]
theorem oIx_fz (hk : atI xs k = some v) : oIx (.fz xs) (.int k) m = .ok (v, m) := by
  unfold oIx; simp only [look_fz, hk]
theorem oIx_tup (hk : atI xs k = some v) : oIx (.tup xs) (.int k) m = .ok (v, m) := by
  unfold oIx; simp only [look_tup, hk]
theorem oSet_ref {j : Nat} (h : m[b]? = some (.lst xs)) (hk : ixN xs.length k = some j) : oSet (.ref b) (.int k) v m = .ok (m.set b (.lst (xs.set j v))) := by
  unfold oSet; simp only [h, hk]
theorem atI_nat {α : Type} {xs : List α} {j : Nat} {x : α} (h : xs[j]? = some x) : atI xs (j : Int) = some x := by
  have hl : j < xs.length := (List.getElem?_eq_some_iff.mp h).1
  unfold atI ixN
  rw [if_pos (by omega), if_pos (by omega)]
  simpa using h
theorem atI_lt {α : Type} {xs : List α} {k : Int} (h0 : 0 ≤ k) (h1 : k < xs.length) : ∃ x ∈ xs, atI xs k = some x := by
  have hlt : k.toNat < xs.length := by omega
  refine ⟨xs[k.toNat], List.getElem_mem _, ?_⟩
  have e := atI_nat (List.getElem?_eq_getElem hlt)
  have : ((k.toNat : Nat) : Int) = k := by omega
  rw [this] at e
  exact e
theorem mAppend_ref (h : m[b]? = some (.lst xs)) (hl : xs.length < LINE) : mAppend (.ref b) [v] m = .ok (.non, m.set b (.lst (xs ++ [v]))) := by
  unfold mAppend; simp only [h]; rw [if_pos hl]
theorem tyOk_ref (h : m[b]? = some (.lst xs)) : tyOk m .list (.ref b) = true := by simp [tyOk, h]
/-- a comprehension that only picks: [x for x in xs if p] -/
theorem lc_pick {i : Nat} {t : ST} {s : Sl} (p : PV → Bool) (hi : i < s.length) : ∀ (ys acc : List PV), (∀ x ∈ ys, t (s.set i (some x)) m = .ok (p x, m)) → acc.length + ys.length ≤ LINE → lcL (gName i) t (eVar i) s ys m acc = .ok (acc ++ ys.filter p, m)
  | [], acc, _, _ => by simp [lcL]
  | x :: ys, acc, h, hl => by
    have hx := h x List.mem_cons_self
    have hr := fun acc' hl' => lc_pick p hi ys acc' (fun y hy => h y (List.mem_cons_of_mem _ hy)) hl'
    simp only [List.length_cons] at hl
    simp only [lcL, gName, Rs.nx_ok, Rs.bind_ok, hx]
    cases hp : p x with
    | true =>
      have e : eVar i (s.set i (some x)) m = .ok (x, m) := by simp [eVar, List.getElem?_set_self hi]
      simp only [if_true, e, Rs.nx_ok, Rs.bind_ok]
      rw [if_pos (by omega), hr _ (by rw [List.length_append, List.length_singleton]; omega)]
      simp [hp]
    | false =>
      simp only [Bool.false_eq_true, if_false]
      rw [hr _ (by omega)]
      simp [hp]
/-- [f x for x in xs] where all stays as it is -/
theorem lc_map {g : SG} {e : SE} {s : Sl} (f : PV → PV) : ∀ (ys acc : List PV), (∀ x ∈ ys, ∃ s1, g x s m = .ok (s1, m) ∧ e s1 m = .ok (f x, m)) → acc.length + ys.length ≤ LINE → lcL g tYes e s ys m acc = .ok (acc ++ ys.map f, m)
  | [], acc, _, _ => by simp [lcL]
  | x :: ys, acc, h, hl => by
    obtain ⟨s1, h1, h2⟩ := h x List.mem_cons_self
    have hr := fun acc' hl' => lc_map f ys acc' (fun y hy => h y (List.mem_cons_of_mem _ hy)) hl'
    simp only [List.length_cons] at hl
    simp only [lcL, tYes, Rs.nx_ok, Rs.bind_ok, h1, h2, if_true]
    rw [if_pos (by omega), hr _ (by rw [List.length_append, List.length_singleton]; omega)]
    simp
end
end TT
namespace TT
section
variable {m : Mm} {k : Nat} {v : PV} {b : Bool} {i : Int} {l : List Nat} {xs : List PV}
@[simp] theorem pu_non : PV.pu .non = true := rfl
@[simp] theorem pu_bl : PV.pu (.bl b) = true := rfl
@[simp] theorem pu_int : PV.pu (.int i) = true := rfl
@[simp] theorem pu_str : PV.pu (.str l) = true := rfl
@[simp] theorem pu_tup : PV.pu (.tup xs) = pus xs := rfl
@[simp] theorem pu_vl : PV.pu (.vl xs) = pus xs := rfl
@[simp] theorem pus_nil : pus [] = true := rfl
@[simp] theorem pus_cons : pus (v :: xs) = (PV.pu v && pus xs) := rfl
theorem frz_pu (h : v.pu = true) : frz k m v = some v := by cases k <;> simp [frz, h]
@[simp] theorem frz_non : frz k m .non = some .non := frz_pu rfl
@[simp] theorem frz_bl : frz k m (.bl b) = some (.bl b) := frz_pu rfl
@[simp] theorem frz_int : frz k m (.int i) = some (.int i) := frz_pu rfl
@[simp] theorem frz_str : frz k m (.str l) = some (.str l) := frz_pu rfl
end
end TT
namespace TT
section
variable {m : Mm} {k : Int} {xs : List PV}
theorem oIx_vl_e : oIx (.vl xs) (.int k) m = (atI xs k).elim .no fun v => .ok (v, m) := by
  unfold oIx; simp only [look_vl]; cases atI xs k <;> rfl
theorem oIx_tup_e : oIx (.tup xs) (.int k) m = (atI xs k).elim .no fun v => .ok (v, m) := by
  unfold oIx; simp only [look_tup]; cases atI xs k <;> rfl
end
end TT
end

section
set_option linter.all false
set_option autoImplicit false
namespace TT
/-! steps of bodies, one by one -/
theorem set_self {m : Mm} {j : Nat} {o : Ob} (h : m[j]? = some o) : m.set j o = m := by
  apply List.ext_getElem?
  intro k
  by_cases hk : j = k
  · subst hk; rw [List.getElem?_set_self (List.getElem?_eq_some_iff.mp h).1, h]
  · rw [List.getElem?_set_ne hk]
theorem seq_nx {a b : SS} {s s1 : Sl} {m m1 : Mm} (h : a s m = .ok (.nx, s1, m1)) : sSeq a b s m = b s1 m1 := by
  unfold sSeq
  rw [h]; rfl
theorem seq_rt {a b : SS} {s s1 : Sl} {m m1 : Mm} {v : PV} (h : a s m = .ok (.rt v, s1, m1)) : sSeq a b s m = .ok (.rt v, s1, m1) := by
  unfold sSeq
  rw [h]; rfl
theorem seq_ct {a b : SS} {s s1 : Sl} {m m1 : Mm} (h : a s m = .ok (.ct, s1, m1)) : sSeq a b s m = .ok (.ct, s1, m1) := by
  unfold sSeq
  rw [h]; rfl
theorem body_fin {b : SS} {a : List PV} {v : PV} {m : Mm} {n k : Nat} (h : bodyI n k b a [] = .ok (v, m)) (hp : v.pu = true) : bodyP n k b a = .ok v := by
  unfold bodyP
  rw [h]
  simp only [frz_pu hp, Rs.ofO_some]
theorem cP_ok {F : PF} {xs : List PV} {v : PV} {m : Mm} (hp : pus xs = true) (h : F xs = .ok v) : cP F xs m = .ok (v, m) := by unfold cP; rw [if_pos hp, h]
theorem cX_ok {F : PF} {xs : List PV} {v : PV} {m : Mm} (hp : pus xs = true) (h : F xs = .ok v) : cX F xs m = .ok (v, m) := by unfold cX; rw [if_pos hp, h]
theorem cX_ex {F : PF} {xs : List PV} {c : Nat} {m : Mm} (hp : pus xs = true) (h : F xs = .ex (.mk c []) []) : cX F xs m = .ex (.mk c []) m := by unfold cX; rw [if_pos hp, h]; rfl
theorem kget_ap {fd fk fx : SE} {s : Sl} {m : Mm} {n : Nat} {k x : PV} {kvs : List (PV × PV)} (h1 : fd s m = .ok (.ref n, m)) (h2 : fk s m = .ok (k, m)) (h3 : fx s m = .ok (x, m)) (h : kdOf m n = some kvs) (ht : isTup k = true) (hk : k.ky 8 = true) : eKGetD fd fk fx s m = .ok ((kFind kvs k).getD x, m) := by
  unfold eKGetD
  simp [h1, h2, h3, h, ht, hk]
theorem kset_ap {m : Mm} {n : Nat} {k v : PV} {kvs : List (PV × PV)} (h : m[n]? = some (.kd kvs)) (ht : isTup k = true) (hk : k.ky 8 = true) (hl : kvs.length < LINE) : oKSet (.ref n) k v m = .ok (m.set n (.kd (kPut kvs k v))) := by
  unfold oKSet
  simp [h, ht, hk, hl]
theorem kin_ap {m : Mm} {n : Nat} {k : PV} {kvs : List (PV × PV)} (h : kdOf m n = some kvs) (ht : isTup k = true) (hk : k.ky 8 = true) : oKIn2 false k (.ref n) m = .ok (.bl (kHas kvs k), m) := by
  unfold oKIn2
  simp [h, ht, hk]
theorem knin_ap {m : Mm} {n : Nat} {k : PV} {kvs : List (PV × PV)} (h : kdOf m n = some kvs) (ht : isTup k = true) (hk : k.ky 8 = true) : oKIn2 true k (.ref n) m = .ok (.bl (!kHas kvs k), m) := by
  unfold oKIn2
  simp [h, ht, hk]
theorem kix_ap {m : Mm} {n : Nat} {k v : PV} {kvs : List (PV × PV)} (h : kdOf m n = some kvs) (ht : isTup k = true) (hk : k.ky 8 = true) (hv : kFind kvs k = some v) : oKIx (.ref n) k m = .ok (v, m) := by
  unfold oKIx
  simp [h, ht, hk, hv]
theorem kd_of {m : Mm} {n : Nat} {kvs : List (PV × PV)} (h : m[n]? = some (.kd kvs)) : kdOf m n = some kvs := by unfold kdOf; rw [h]
theorem kl_of {m : Mm} {n : Nat} {kvs : List (PV × PV)} (h : m[n]? = some (.kl kvs)) : kdOf m n = some kvs := by unfold kdOf; rw [h]
theorem line_small {n : Nat} (hn : n ≤ 1000000) : n ≤ LINE := by
  unfold LINE; omega
theorem line_lt' {n : Nat} (hn : n ≤ 1000000) : n < LINE := by
  unfold LINE; omega
theorem kvals_ok {s : Sl} {m : Mm} {i j : Nat} {kvs : List (PV × PV)} (hs : s[i]? = some (some (.ref j))) (h : kdOf m j = some kvs) (hl : kvs.length ≤ LINE) : eKVals (eVar i) s m = .ok (.vl (kvs.map (·.2)), m) := by
  unfold eKVals
  simp [hs, h, hl]
theorem kkeys_ok {s : Sl} {m : Mm} {i j : Nat} {kvs : List (PV × PV)} (hs : s[i]? = some (some (.ref j))) (h : kdOf m j = some kvs) (hl : kvs.length ≤ LINE) : eKKeys (eVar i) s m = .ok (.vl (kvs.map (·.1)), m) := by
  unfold eKKeys
  simp [hs, h, hl]
theorem p62_small {n : Nat} (hn : n ≤ 1000) : -P62 ≤ (n : Int) ∧ (n : Int) < P62 := by
  have : P62 = 4611686018427387904 := rfl
  omega
theorem rng1_ok {s : Sl} {m : Mm} {i : Nat} {x : Int} (hs : s[i]? = some (some (.int x))) (h : -P62 ≤ x ∧ x < P62) : TT.iRng1 (eVar i) s m = .ok (rngL 0 x.toNat, m) := by
  unfold TT.iRng1
  simp only [eVar_ap, hs, Rs.bind_ok]
  rw [if_pos (by simp [h])]
theorem rng1_nat {s : Sl} {m : Mm} {i n : Nat} (hs : s[i]? = some (some (.int n))) (hn : n ≤ 1000) : TT.iRng1 (eVar i) s m = .ok (rngL ((0 : Nat) : Int) n, m) := by
  have h := p62_small hn
  generalize hx : (n : Int) = x at hs h
  rw [rng1_ok hs h, show x.toNat = n by omega]
  rfl
/-- min(len(..), c) + d turns -/
theorem span_ok (c d : Nat) (hc : c ≤ 500) (hd : d ≤ 400) (ns : List Int) (hl : ns.length ≤ 63) (s : Sl) (hs : s[0]? = some (some (.fz (ns.map PV.int)))) (m : Mm) : ∃ n : Nat, n ≤ c + d ∧ (TT.iRng1 (e2 oAdd (eN fMin (aCons (eN fLen (aCons (eVar 0) aNil)) (aCons (eC (.int c)) aNil))) (eC (.int d)))) s m = .ok (rngL 0 n, m) := by
  refine ⟨min ns.length c + d, by omega, ?_⟩
  have hz : (if (c : Int) < ns.length then (c : Int) else (ns.length : Int)) = ((min ns.length c : Nat) : Int) := by split <;> omega
  have q1 : (eN fLen (aCons (eVar 0) aNil)) s m = .ok (.int ns.length, m) := by
    simp [hs, fLen]
  have q2 : fMin [.int ns.length, .int c] m = .ok (.int (min ns.length c : Nat), m) := by
    simp only [fMin, hz]
  have q3 : (e2 oAdd (eN fMin (aCons (eN fLen (aCons (eVar 0) aNil)) (aCons (eC (.int c)) aNil))) (eC (.int d))) s m = .ok (.int ((min ns.length c : Nat) + (d : Int)), m) := by
    generalize eN fLen (aCons (eVar 0) aNil) = L at q1
    simp [q1, q2]
  have h := p62_small (n := min ns.length c + d) (by omega)
  have hx : (((min ns.length c : Nat) : Int) + (d : Int)) = ((min ns.length c + d : Nat) : Int) := by omega
  rw [hx] at q3
  generalize hg : ((min ns.length c + d : Nat) : Int) = x at q3 h
  unfold TT.iRng1
  rw [q3, Rs.bind_ok]
  show (if (decide (-P62 ≤ x) && decide (x < P62)) = true then Rs.ok (rngL 0 x.toNat, m) else .no) = _
  rw [if_pos (by simp [h]), show x.toNat = min ns.length c + d by omega]
theorem told_ex {P : Nat} {t : Told} {els cs : List Nat} {B : SE} {s : Sl} {m m' : Mm} {q : List Nat} {c : Nat} (h0 : m[0]? = some (.tab P q)) (hB : B s m = .ex (.mk c []) m') (hc : cs.contains c = true) : eTold P q t els cs B s m = .ok (.str (t.ev c), m') := by
  unfold eTold
  rw [h0]
  simp only [and_self, if_true, hB, hc]
/-- a loop that leaves all but its own slot -/
theorem each_ok (i : Nat) (b : SS) (m : Mm) (s0 : Sl) (hi : i < s0.length) : ∀ (vs : List PV), (∀ v ∈ vs, ∀ s' : Sl, s'.length = s0.length → (∀ j, j ≠ i → s'[j]? = s0[j]?) → s'[i]? = some (some v) → b s' m = .ok (.nx, s', m)) → ∀ s : Sl, s.length = s0.length → (∀ j, j ≠ i → s[j]? = s0[j]?) →
    ∃ s', s'.length = s0.length ∧ (∀ j, j ≠ i → s'[j]? = s0[j]?) ∧ forL (gName i) b vs s m = .ok (.nx, s', m)
  | [], _, s, h1, h2 => ⟨s, h1, h2, rfl⟩
  | v :: vs, hb, s, h1, h2 => by
    obtain ⟨s', e1, e2, e3⟩ := each_ok i b m s0 hi vs (fun u hu => hb u (List.mem_cons_of_mem _ hu)) (s.set i (some v)) (by simp [h1]) (fun j hj => by rw [List.getElem?_set_ne (Ne.symm hj)]; exact h2 j hj)
    refine ⟨s', e1, e2, ?_⟩
    rw [forL_cons, gName_ap, Rs.bind_ok]
    show Rs.bind (b (s.set i (some v)) m) _ = _
    rw [hb v List.mem_cons_self (s.set i (some v)) (by simp [h1]) (fun j hj => by rw [List.getElem?_set_ne (Ne.symm hj)]; exact h2 j hj) (List.getElem?_set_self (by rw [h1]; exact hi))]
    exact e3
/-- one turn of a while -/
theorem while_step {t : ST} {b : SS} {n : Nat} {s s1 : Sl} {m m1 : Mm} (ht : t s m = .ok (true, m)) (hb : b s m = .ok (.nx, s1, m1) ∨ b s m = .ok (.ct, s1, m1)) : whileF t b (n + 1) s m = whileF t b n s1 m1 := by
  conv => lhs; unfold whileF
  rw [ht]
  simp only [Rs.bind_ok, if_true]
  rcases hb with hb | hb <;> rw [hb] <;> rfl
theorem while_rt {t : ST} {b : SS} {n : Nat} {s s1 : Sl} {m m1 : Mm} {v : PV} (ht : t s m = .ok (true, m)) (hb : b s m = .ok (.rt v, s1, m1)) : whileF t b (n + 1) s m = .ok (.rt v, s1, m1) := by
  conv => lhs; unfold whileF
  rw [ht]
  simp only [Rs.bind_ok, if_true]
  rw [hb]; rfl
theorem while_end {t : ST} {b : SS} {n : Nat} {s : Sl} {m : Mm} (ht : t s m = .ok (false, m)) : whileF t b (n + 1) s m = .ok (.nx, s, m) := by
  conv => lhs; unfold whileF
  rw [ht]; rfl
end TT
end

section
set_option linter.all false
set_option autoImplicit false
/-! TT: what holds behind a statement (for simp: continuations are names, not functions) -/
namespace TT
abbrev FQ := Fl → Sl → Mm → Prop
def Wr (r : Rs (Fl × Sl × Mm)) (Q : FQ) : Prop := ∃ f s m, r = .ok (f, s, m) ∧ Q f s m
def Wp (b : SS) (s : Sl) (m : Mm) (Q : FQ) : Prop := Wr (b s m) Q
def Wv (r : Rs (PV × Mm)) (K : PV → Mm → Prop) : Prop := ∃ v m, r = .ok (v, m) ∧ K v m
def Wt (r : Rs (Bool × Mm)) (K : Bool → Mm → Prop) : Prop := ∃ v m, r = .ok (v, m) ∧ K v m
def Wg (r : Rs (Sl × Mm)) (K : Sl → Mm → Prop) : Prop := ∃ v m, r = .ok (v, m) ∧ K v m
def Wi (r : Rs (List PV × Mm)) (K : List PV → Mm → Prop) : Prop := ∃ v m, r = .ok (v, m) ∧ K v m
def Wf (g : SG) (b : SS) (xs : List PV) (s : Sl) (m : Mm) (Q : FQ) : Prop := Wr (forL g b xs s m) Q
def Ww (t : ST) (b : SS) (n : Nat) (s : Sl) (m : Mm) (Q : FQ) : Prop := Wr (whileF t b n s m) Q
def Kq (b : SS) (Q : FQ) : FQ := fun f s m => match f with
  | .nx => Wp b s m Q
  | f => Q f s m
def Lq (I : Sl → Mm → Prop) (Q : FQ) : FQ := fun f s m => match f with
  | .nx => I s m
  | .ct => I s m
  | .bk => Q .nx s m
  | .rt v => Q (.rt v) s m
def Ca (g : SG) (Q : FQ) (s : Sl) (v : PV) (m : Mm) : Prop := Wg (g v s m) (Q .nx)
def Ce (Q : FQ) (s : Sl) (_ : PV) (m : Mm) : Prop := Q .nx s m
def Cr (Q : FQ) (s : Sl) (v : PV) (m : Mm) : Prop := Q (.rt v) s m
def Ci (a b : SS) (Q : FQ) (s : Sl) (c : Bool) (m : Mm) : Prop := match c with
  | true => Wp a s m Q
  | false => Wp b s m Q
def Cf (g : SG) (b : SS) (Q : FQ) (s : Sl) (xs : List PV) (m : Mm) : Prop := Wf g b xs s m Q
def Cb (b : SS) (Q : FQ) (s : Sl) (m : Mm) : Prop := Wp b s m Q
section
variable {Q : FQ} {s s1 : Sl} {m m1 : Mm} {a b : SS} {e : SE} {g : SG} {v : PV} {f : Fl}
@[simp] theorem Wr_ok : Wr (.ok (f, s, m)) Q = Q f s m := by
  apply propext
  constructor
  · rintro ⟨_, _, _, h, q⟩; cases h; exact q
  · exact fun h => ⟨_, _, _, rfl, h⟩
@[simp] theorem Wv_ok {K : PV → Mm → Prop} : Wv (.ok (v, m)) K = K v m := by
  apply propext
  constructor
  · rintro ⟨_, _, h, q⟩; cases h; exact q
  · exact fun h => ⟨_, _, rfl, h⟩
@[simp] theorem Wt_ok {K : Bool → Mm → Prop} {c : Bool} : Wt (.ok (c, m)) K = K c m := by
  apply propext
  constructor
  · rintro ⟨_, _, h, q⟩; cases h; exact q
  · exact fun h => ⟨_, _, rfl, h⟩
@[simp] theorem Wg_ok {K : Sl → Mm → Prop} : Wg (.ok (s, m)) K = K s m := by
  apply propext
  constructor
  · rintro ⟨_, _, h, q⟩; cases h; exact q
  · exact fun h => ⟨_, _, rfl, h⟩
@[simp] theorem Wi_ok {K : List PV → Mm → Prop} {xs : List PV} : Wi (.ok (xs, m)) K = K xs m := by
  apply propext
  constructor
  · rintro ⟨_, _, h, q⟩; cases h; exact q
  · exact fun h => ⟨_, _, rfl, h⟩
@[simp] theorem Kq_nx : Kq b Q .nx s m = Wp b s m Q := rfl
@[simp] theorem Kq_bk : Kq b Q .bk s m = Q .bk s m := rfl
@[simp] theorem Kq_ct : Kq b Q .ct s m = Q .ct s m := rfl
@[simp] theorem Kq_rt : Kq b Q (.rt v) s m = Q (.rt v) s m := rfl
@[simp] theorem Lq_nx {I : Sl → Mm → Prop} : Lq I Q .nx s m = I s m := rfl
@[simp] theorem Lq_bk {I : Sl → Mm → Prop} : Lq I Q .bk s m = Q .nx s m := rfl
@[simp] theorem Lq_ct {I : Sl → Mm → Prop} : Lq I Q .ct s m = I s m := rfl
@[simp] theorem Lq_rt {I : Sl → Mm → Prop} : Lq I Q (.rt v) s m = Q (.rt v) s m := rfl
@[simp] theorem Ca_ap : Ca g Q s v m = Wg (g v s m) (Q .nx) := rfl
@[simp] theorem Ce_ap : Ce Q s v m = Q .nx s m := rfl
@[simp] theorem Cr_ap : Cr Q s v m = Q (.rt v) s m := rfl
@[simp] theorem Ci_t : Ci a b Q s true m = Wp a s m Q := rfl
@[simp] theorem Ci_f : Ci a b Q s false m = Wp b s m Q := rfl
@[simp] theorem Cf_ap {xs : List PV} : Cf g b Q s xs m = Wf g b xs s m Q := rfl
@[simp] theorem Cb_ap : Cb b Q s m = Wp b s m Q := rfl
theorem Ci_split {c : Bool} (h1 : c = true → Wp a s m Q) (h2 : c = false → Wp b s m Q) : Ci a b Q s c m := by
  cases c
  · exact h2 rfl
  · exact h1 rfl
@[simp] theorem Wp_seq : Wp (sSeq a b) s m Q = Wp a s m (Kq b Q) := by
  apply propext
  unfold Wp Wr sSeq
  constructor
  · rintro ⟨f, s1, m1, h, q⟩
    obtain ⟨⟨f0, s0, m0⟩, h0, h1⟩ := Rs.bind_eq_ok h
    refine ⟨f0, s0, m0, h0, ?_⟩
    cases f0 with
    | nx => exact ⟨f, s1, m1, h1, q⟩
    | bk => cases h1; exact q
    | ct => cases h1; exact q
    | rt v => cases h1; exact q
  · rintro ⟨f0, s0, m0, h0, q⟩
    rw [h0, Rs.bind_ok]
    cases f0 with
    | nx => exact q
    | bk => exact ⟨_, _, _, rfl, q⟩
    | ct => exact ⟨_, _, _, rfl, q⟩
    | rt v => exact ⟨_, _, _, rfl, q⟩
@[simp] theorem Wp_asg : Wp (sAsg e g) s m Q = Wv (e s m) (Ca g Q s) := by
  apply propext
  unfold Wp Wr Wv Ca Wg
  constructor
  · rintro ⟨f, s1, m1, h, q⟩
    obtain ⟨⟨v, m2⟩, h0, h1⟩ := Rs.bind_eq_ok h
    obtain ⟨⟨s3, m3⟩, h2, h3⟩ := Rs.bind_eq_ok h1
    cases h3
    exact ⟨v, m2, h0, s1, m1, h2, q⟩
  · rintro ⟨v, m2, h0, s3, m3, h2, q⟩
    exact ⟨.nx, s3, m3, by rw [sAsg_ap, h0, Rs.bind_ok, h2, Rs.bind_ok], q⟩
@[simp] theorem Wp_expr : Wp (sExpr e) s m Q = Wv (e s m) (Ce Q s) := by
  apply propext
  unfold Wp Wr Wv Ce
  constructor
  · rintro ⟨f, s1, m1, h, q⟩
    obtain ⟨⟨v, m2⟩, h0, h1⟩ := Rs.bind_eq_ok h
    cases h1
    exact ⟨v, m1, h0, q⟩
  · rintro ⟨v, m2, h0, q⟩
    exact ⟨.nx, s, m2, by rw [sExpr_ap, h0, Rs.bind_ok], q⟩
@[simp] theorem Wp_ret : Wp (sRet e) s m Q = Wv (e s m) (Cr Q s) := by
  apply propext
  unfold Wp Wr Wv Cr
  constructor
  · rintro ⟨f, s1, m1, h, q⟩
    obtain ⟨⟨v, m2⟩, h0, h1⟩ := Rs.bind_eq_ok h
    cases h1
    exact ⟨v, m1, h0, q⟩
  · rintro ⟨v, m2, h0, q⟩
    exact ⟨.rt v, s, m2, by rw [sRet_ap, h0, Rs.bind_ok], q⟩
@[simp] theorem Wp_if {t : ST} : Wp (sIf t a b) s m Q = Wt (t s m) (Ci a b Q s) := by
  apply propext
  unfold Wp Wr Wt
  constructor
  · rintro ⟨f, s1, m1, h, q⟩
    obtain ⟨⟨c, m2⟩, h0, h1⟩ := Rs.bind_eq_ok h
    refine ⟨c, m2, h0, ?_⟩
    cases c with
    | true => exact ⟨f, s1, m1, h1, q⟩
    | false => exact ⟨f, s1, m1, h1, q⟩
  · rintro ⟨c, m2, h0, q⟩
    cases c with
    | true => obtain ⟨f, s1, m1, h1, q⟩ := q; exact ⟨f, s1, m1, by rw [sIf_ap, h0, Rs.bind_ok]; exact h1, q⟩
    | false => obtain ⟨f, s1, m1, h1, q⟩ := q; exact ⟨f, s1, m1, by rw [sIf_ap, h0, Rs.bind_ok]; exact h1, q⟩
@[simp] theorem Wp_skip : Wp sSkip s m Q = Q .nx s m := Wr_ok
@[simp] theorem Wp_bk : Wp sBreak s m Q = Q .bk s m := Wr_ok
@[simp] theorem Wp_ct : Wp sCont s m Q = Q .ct s m := Wr_ok
@[simp] theorem Wp_retN : Wp sRetN s m Q = Q (.rt .non) s m := Wr_ok
@[simp] theorem Wp_par2 {i j : Nat} {r : SA} : Wp (sPar2 i j r) s m Q = Wr (sPar2 i j r s m) Q := rfl
@[simp] theorem Wp_par3 {i j l : Nat} {r : SA} : Wp (sPar3 i j l r) s m Q = Wr (sPar3 i j l r s m) Q := rfl
@[simp] theorem Wp_dset {v d k : SE} : Wp (sDSet v d k) s m Q = Wr (sDSet v d k s m) Q := rfl
@[simp] theorem Wp_frz {i : Nat} : Wp (sFrz i) s m Q = Wr (sFrz i s m) Q := rfl
@[simp] theorem Wp_lock {i : Nat} : Wp (sLock i) s m Q = Wr (sLock i s m) Q := rfl
@[simp] theorem Wp_for {it : SI} : Wp (sFor it g b) s m Q = Wi (it s m) (Cf g b Q s) := by
  apply propext
  unfold Wp Wr Wi
  constructor
  · rintro ⟨f, s1, m1, h, q⟩
    obtain ⟨⟨xs, m2⟩, h0, h1⟩ := Rs.bind_eq_ok h
    exact ⟨xs, m2, h0, f, s1, m1, h1, q⟩
  · rintro ⟨xs, m2, h0, f, s1, m1, h1, q⟩
    exact ⟨f, s1, m1, by rw [sFor_ap, h0, Rs.bind_ok]; exact h1, q⟩
theorem Wp_while {t : ST} : Wp (sWhile t b) s m Q = Ww t b FUEL s m Q := rfl
theorem Wp.mono {Q' : FQ} (h : Wp b s m Q) (hq : ∀ f s m, Q f s m → Q' f s m) : Wp b s m Q' := by
  obtain ⟨f, s1, m1, h, q⟩ := h
  exact ⟨f, s1, m1, h, hq _ _ _ q⟩
theorem Wp_eq (h : b s m = .ok (f, s1, m1)) (q : Q f s1 m1) : Wp b s m Q := ⟨_, _, _, h, q⟩
theorem Wp_out (h : Wp b s m Q) : ∃ f s1 m1, b s m = .ok (f, s1, m1) ∧ Q f s1 m1 := h
theorem Wf_nil : Wf g b [] s m Q = Q .nx s m := Wr_ok
theorem Wf_cons {x : PV} {xs : List PV} : Wf g b (x :: xs) s m Q = Wg (g x s m) (Cb b (Lq (fun s m => Wf g b xs s m Q) Q)) := by
  apply propext
  unfold Wf Wr Wg Cb Wp
  constructor
  · rintro ⟨f, s1, m1, h, q⟩
    rw [forL_cons] at h
    obtain ⟨⟨s2, m2⟩, h0, h1⟩ := Rs.bind_eq_ok h
    obtain ⟨⟨f3, s3, m3⟩, h2, h3⟩ := Rs.bind_eq_ok h1
    refine ⟨s2, m2, h0, f3, s3, m3, h2, ?_⟩
    cases f3 with
    | nx => exact ⟨f, s1, m1, h3, q⟩
    | ct => exact ⟨f, s1, m1, h3, q⟩
    | bk => cases h3; exact q
    | rt v => cases h3; exact q
  · rintro ⟨s2, m2, h0, f3, s3, m3, h2, q⟩
    cases f3 with
    | nx => obtain ⟨f, s1, m1, h3, q⟩ := q; exact ⟨f, s1, m1, by rw [forL_cons, h0, Rs.bind_ok, h2]; exact h3, q⟩
    | ct => obtain ⟨f, s1, m1, h3, q⟩ := q; exact ⟨f, s1, m1, by rw [forL_cons, h0, Rs.bind_ok, h2]; exact h3, q⟩
    | bk => exact ⟨_, _, _, by rw [forL_cons, h0, Rs.bind_ok, h2]; rfl, q⟩
    | rt v => exact ⟨_, _, _, by rw [forL_cons, h0, Rs.bind_ok, h2]; rfl, q⟩
/-- a loop by an invariant over what is done and what is left -/
theorem wf_list {α : Type} {enc : α → PV} {all : List α} (I : List α → List α → Sl → Mm → Prop) (h0 : I [] all s m)
    (hs : ∀ done x rest s m, all = done ++ x :: rest → I done (x :: rest) s m → Wg (g (enc x) s m) (Cb b (Lq (I (done ++ [x]) rest) Q)))
    (hq : ∀ s m, I all [] s m → Q .nx s m) : Wf g b (all.map enc) s m Q := by
  have key : ∀ (rest done : List α) (s : Sl) (m : Mm), all = done ++ rest → I done rest s m → Wf g b (rest.map enc) s m Q := by
    intro rest
    induction rest with
    | nil =>
      intro done s m ha hi
      rw [List.append_nil] at ha
      subst ha
      rw [List.map_nil, Wf_nil]
      exact hq s m hi
    | cons x rest ih =>
      intro done s m ha hi
      rw [List.map_cons, Wf_cons]
      obtain ⟨s1, m1, h1, f, s2, m2, h2, q⟩ := hs done x rest s m ha hi
      refine ⟨s1, m1, h1, f, s2, m2, h2, ?_⟩
      have ha' : all = (done ++ [x]) ++ rest := by rw [ha]; simp
      cases f with
      | nx => exact ih _ _ _ ha' q
      | ct => exact ih _ _ _ ha' q
      | bk => exact q
      | rt v => exact q
  exact key all [] s m rfl h0
theorem wf_vals {xs : List PV} (I : List PV → List PV → Sl → Mm → Prop) (h0 : I [] xs s m)
    (hs : ∀ done x rest s m, xs = done ++ x :: rest → I done (x :: rest) s m → Wg (g x s m) (Cb b (Lq (I (done ++ [x]) rest) Q)))
    (hq : ∀ s m, I xs [] s m → Q .nx s m) : Wf g b xs s m Q := by
  have := wf_list (enc := id) I h0 hs hq
  simpa using this
/-- a loop whose turns do not hang together -/
theorem wf_all {xs : List PV} (I : Sl → Mm → Prop) (h0 : I s m)
    (hs : ∀ x ∈ xs, ∀ s m, I s m → Wg (g x s m) (Cb b (Lq I Q)))
    (hq : ∀ s m, I s m → Q .nx s m) : Wf g b xs s m Q :=
  wf_vals (fun _ _ => I) h0 (fun done x rest s m ha hi => hs x (by rw [ha]; simp) s m hi) hq
/-- a loop over numbers -/
theorem wf_rng {k : Int} {n : Nat} (I : Nat → Sl → Mm → Prop) (h0 : I 0 s m)
    (hs : ∀ i s m, i < n → I i s m → Wg (g (.int (k + i)) s m) (Cb b (Lq (I (i + 1)) Q)))
    (hq : ∀ s m, I n s m → Q .nx s m) : Wf g b (rngL k n) s m Q := by
  have key : ∀ (r i : Nat) (s : Sl) (m : Mm), i + r = n → I i s m → Wf g b (rngL (k + i) r) s m Q := by
    intro r
    induction r with
    | zero =>
      intro i s m ha hi
      have : i = n := by omega
      subst this
      rw [rngL, Wf_nil]
      exact hq s m hi
    | succ r ih =>
      intro i s m ha hi
      rw [rngL, Wf_cons]
      obtain ⟨s1, m1, h1, f, s2, m2, h2, q⟩ := hs i s m (by omega) hi
      refine ⟨s1, m1, h1, f, s2, m2, h2, ?_⟩
      have e : k + (i : Int) + 1 = k + ((i + 1 : Nat) : Int) := by omega
      rw [e]
      cases f with
      | nx => exact ih _ _ _ (by omega) q
      | ct => exact ih _ _ _ (by omega) q
      | bk => exact q
      | rt v => exact q
  have := key n 0 s m (by omega) h0
  simpa using this
/-- while: a measure that falls -/
theorem ww_inv {t : ST} (I : Nat → Sl → Mm → Prop) (hs : ∀ n s m, I n s m → Wt (t s m) fun c m1 => if c = true then Wp b s m1 (Lq (fun s m => ∃ n', n' < n ∧ I n' s m) Q) else Q .nx s m1) :
    ∀ (n fuel : Nat) (s : Sl) (m : Mm), n < fuel → I n s m → Ww t b fuel s m Q := by
  intro n
  induction n using Nat.strongRecOn with
  | ind n ih =>
    intro fuel s m hf hi
    cases fuel with
    | zero => omega
    | succ fuel =>
      obtain ⟨c, m1, h1, q⟩ := hs n s m hi
      unfold Ww whileF
      rw [h1, Rs.bind_ok]
      cases c with
      | false => exact ⟨_, _, _, rfl, q⟩
      | true =>
        rw [if_pos rfl] at q
        obtain ⟨f, s2, m2, h2, q⟩ := q
        simp only [if_true]
        rw [h2, Rs.bind_ok]
        cases f with
        | nx => obtain ⟨n', hn, hi'⟩ := q; exact ih n' hn fuel s2 m2 (by omega) hi'
        | ct => obtain ⟨n', hn, hi'⟩ := q; exact ih n' hn fuel s2 m2 (by omega) hi'
        | bk => exact ⟨_, _, _, rfl, q⟩
        | rt v => exact ⟨_, _, _, rfl, q⟩
end
/-! defs -/
def Ret (v : PV) : FQ := fun f _ m => match f with
  | .rt w => frz 4 m w = some v
  | .nx => v = .non
  | _ => False
def RetI (P : PV → Mm → Prop) : FQ := fun f _ m => match f with
  | .rt w => P w m
  | .nx => P .non m
  | _ => False
section
variable {v w : PV} {s : Sl} {m : Mm} {P : PV → Mm → Prop}
@[simp] theorem Ret_rt : Ret v (.rt w) s m = (frz 4 m w = some v) := rfl
@[simp] theorem Ret_nx : Ret v .nx s m = (v = .non) := rfl
@[simp] theorem RetI_rt : RetI P (.rt w) s m = P w m := rfl
@[simp] theorem RetI_nx : RetI P .nx s m = P .non m := rfl
theorem bodyP_of {n k : Nat} {b : SS} {args : List PV} (hk : args.length = k) (h : Wp b (startS n args) [] (Ret v)) : bodyP n k b args = .ok v := by
  obtain ⟨f, s1, m1, h1, q⟩ := h
  unfold bodyP bodyI
  rw [if_pos hk, h1]
  cases f with
  | rt w =>
    have q : frz 4 m1 w = some v := q
    simp only [endF, q, Rs.ofO_some]
  | nx =>
    have q : v = .non := q
    simp only [endF, q, frz_non, Rs.ofO_some]
  | bk => exact q.elim
  | ct => exact q.elim
theorem bodyI_of {n k : Nat} {b : SS} {args : List PV} (hk : args.length = k) (h : Wp b (startS n args) m (RetI P)) : ∃ v m', bodyI n k b args m = .ok (v, m') ∧ P v m' := by
  obtain ⟨f, s1, m1, h1, q⟩ := h
  unfold bodyI
  rw [if_pos hk, h1]
  cases f with
  | rt w => exact ⟨w, m1, rfl, q⟩
  | nx => exact ⟨.non, m1, rfl, q⟩
  | bk => exact q.elim
  | ct => exact q.elim
end
/-! comprehensions, more -/
/-- [f x for x in xs if p x], where all stays as it is -/
theorem lc_gen {α : Type} {enc : α → PV} {g : SG} {t : ST} {e : SE} {s : Sl} {m : Mm} (p : α → Bool) (f : α → PV) : ∀ (ys : List α) (acc : List PV), (∀ x ∈ ys, ∃ s1, g (enc x) s m = .ok (s1, m) ∧ t s1 m = .ok (p x, m) ∧ (p x = true → e s1 m = .ok (f x, m))) → acc.length + ys.length ≤ LINE → lcL g t e s (ys.map enc) m acc = .ok (acc ++ (ys.filter p).map f, m)
  | [], acc, _, _ => by simp [lcL]
  | x :: ys, acc, h, hl => by
    obtain ⟨s1, h1, h2, h3⟩ := h x List.mem_cons_self
    have hr := fun acc' hl' => lc_gen p f ys acc' (fun y hy => h y (List.mem_cons_of_mem _ hy)) hl'
    simp only [List.length_cons] at hl
    rw [List.map_cons]
    simp only [lcL, Rs.nx_ok, Rs.bind_ok, h1, h2]
    cases hp : p x with
    | true =>
      simp only [if_true, h3 hp, Rs.nx_ok, Rs.bind_ok]
      rw [if_pos (by omega), hr _ (by rw [List.length_append, List.length_singleton]; omega)]
      simp [hp]
    | false =>
      simp only [Bool.false_eq_true, if_false]
      rw [hr _ (by omega)]
      simp [hp]
theorem iRng2_ap {a b : SE} {s : Sl} {m : Mm} : TT.iRng2 a b s m = (a s m).bind fun p => (b s p.2).bind fun q => match p.1, q.1 with
  | .int i, .int j => if (decide (-P62 ≤ i) && decide (i < P62) && decide (-P62 ≤ j) && decide (j < P62)) = true then .ok (rngL i (j - i).toNat, q.2) else .no
  | _, _ => .no := rfl
theorem p62_of {i : Int} (h : -1000000 ≤ i) (h' : i ≤ 1000000) : -P62 ≤ i ∧ i < P62 := by
  have : P62 = 4611686018427387904 := rfl
  omega
theorem rng2_ok {a b : SE} {s : Sl} {m : Mm} {i j : Int} (h1 : a s m = .ok (.int i, m)) (h2 : b s m = .ok (.int j, m)) (hi : -1000000 ≤ i ∧ i ≤ 1000000) (hj : -1000000 ≤ j ∧ j ≤ 1000000) : TT.iRng2 a b s m = .ok (rngL i (j - i).toNat, m) := by
  have p1 := p62_of hi.1 hi.2
  have p2 := p62_of hj.1 hj.2
  rw [iRng2_ap, h1, Rs.bind_ok, h2, Rs.bind_ok]
  simp only [p1.1, p1.2, p2.1, p2.2, decide_true, Bool.and_self, if_true]
theorem rng2_nat {a b : SE} {s : Sl} {m : Mm} {i j : Nat} {x y : Int} (h1 : a s m = .ok (.int x, m)) (h2 : b s m = .ok (.int y, m)) (hx : x = i) (hy : y = j) (hi : i ≤ 1000000) (hj : j ≤ 1000000) : TT.iRng2 a b s m = .ok (rngL x (j - i), m) := by
  rw [rng2_ok h1 h2 (by omega) (by omega)]
  congr 3
  omega
theorem rng1_of {a : SE} {s : Sl} {m : Mm} {n : Nat} {x : Int} (h1 : a s m = .ok (.int x, m)) (hx : x = n) (hn : n ≤ 1000000) : TT.iRng1 a s m = .ok (rngL 0 n, m) := by
  have p1 := p62_of (i := x) (by omega) (by omega)
  rw [iRng1_ap, h1, Rs.bind_ok]
  simp only [p1.1, p1.2, decide_true, Bool.and_self, if_true]
  congr 3
  omega
end TT
end

section
set_option Elab.async false
set_option linter.all false
set_option autoImplicit false
set_option maxRecDepth 100000
/-! TT: dicts whose keys are tuples (nested, of whole numbers, texts, truth values, None) -/
namespace TT
open PySem PySem.Spec PyProof.Rows L2
section
variable {K : KW} {g g' : Gh} {m m' : Mm} {H H' : Hp}
/-- a new one -/
theorem Emb.new_kd (e : Emb K g m H) {p : Addr} (hp : H p = none) :
    Ext g H (g.addP m.length p) (upd H p (KDo K.w p [])) ∧ Emb K (g.addP m.length p) (m ++ [.kd []]) (upd H p (KDo K.w p [])) ∧ Rp K (g.addP m.length p) (upd H p (KDo K.w p [])) (.ref m.length) (.ref p) := by
  have x : Ext g H (g.addP m.length p) (upd H p (KDo K.w p [])) :=
    ⟨fun n a h => by
      have : n ≠ m.length := fun z => by subst z; rw [e.fresh_id] at h; cases h
      show (if n = m.length then some p else g.φ n) = some a
      rw [if_neg this]; exact h, fun a u h => h, fun a u h _ _ => by rw [upd_ne (ne_of_none h hp)]; exact h, fun a u h hn _ n => by
      show (if n = m.length then some p else g.φ n) ≠ some a
      split
      · intro z; cases z; rw [hp] at h; cases h
      · exact hn n, fun _ _ _ _ _ h => h, rfl⟩
  refine ⟨x, ⟨fun n o h => ?_, fun n a h => ?_, fun n k a h1 h2 => ?_, fun a u h => ?_, e.nt, tabs_new e.tab hp⟩, .ref (by show (if m.length = m.length then some p else _) = _; rw [if_pos rfl])⟩
  · by_cases hn : n < m.length
    · rw [List.getElem?_append_left hn] at h
      have q := e.obj n o h
      cases o with
      | lst ys =>
        obtain ⟨a, ws, h1, h2, h3⟩ := q
        exact ⟨a, ws, x.phi _ _ h1, by rw [upd_ne (ne_of_none h2 hp)]; exact h2, h3.ext e x⟩
      | dict ys =>
        obtain ⟨a, ws, h1, h2, h3⟩ := q
        exact ⟨a, ws, x.phi _ _ h1, by rw [upd_ne (ne_of_none h2 hp)]; exact h2, h3.ext e x⟩
      | ins cN ys =>
        obtain ⟨a, cC, cD, ws, h1, cM, h2, h3⟩ := q
        exact ⟨a, cC, cD, ws, x.phi _ _ h1, cM, by rw [upd_ne (ne_of_none h2 hp)]; exact h2, h3.ext e x⟩
      | dl zs =>
        obtain ⟨a, ob, ws, h1, h2, h3⟩ := q
        exact ⟨a, ob, ws, x.phi _ _ h1, x.ro _ _ h2, h3.ext e x⟩
      | kd ys =>
        obtain ⟨a, ws, h1, h2, h3⟩ := q
        exact ⟨a, ws, x.phi _ _ h1, by rw [upd_ne (ne_of_none h2 hp)]; exact h2, h3.ext e x⟩
      | kl zs =>
        obtain ⟨a, ob, ws, h1, h2, h3⟩ := q
        exact ⟨a, ob, ws, x.phi _ _ h1, x.ro _ _ h2, h3.ext e x⟩
      | dead => trivial
      | tab P l => exact q
    · have hle : m.length ≤ n := Nat.le_of_not_lt hn
      rw [List.getElem?_append_right hle] at h
      have h0 : n - m.length = 0 := by
        cases hk : n - m.length with
        | zero => rfl
        | succ j => rw [hk] at h; simp at h
      rw [h0] at h
      have hnm : n = m.length := by omega
      simp at h
      subst h
      subst hnm
      exact ⟨p, [], by show (if m.length = m.length then some p else _) = _; rw [if_pos rfl], upd_same, .nil⟩
  · have h' : (if n = m.length then some p else g.φ n) = some a := h
    rw [List.length_append, List.length_singleton]
    split at h'
    · cases h'
      exact ⟨by omega, _, upd_same, .inl trivial⟩
    · obtain ⟨h1, u, h2, h3⟩ := e.dom n a h'
      exact ⟨by omega, u, by rw [upd_ne (ne_of_none h2 hp)]; exact h2, h3⟩
  · have h1' : (if n = m.length then some p else g.φ n) = some a := h1
    have h2' : (if k = m.length then some p else g.φ k) = some a := h2
    split at h1' <;> split at h2'
    · omega
    · cases h1'; exact (e.free hp _ h2').elim
    · cases h2'; exact (e.free hp _ h1').elim
    · exact e.inj n k a h1' h2'
  · obtain ⟨h1, h2⟩ := e.ro a u h
    refine ⟨by rw [upd_ne (ne_of_none h1 hp)]; exact h1, fun n hn => ?_⟩
    have hn' : (if n = m.length then some p else g.φ n) = some a := hn
    split at hn'
    · cases hn'; rw [hp] at h1; cases h1
    · have q := h2 n hn'
      have : n < m.length := (e.dom n a hn').1
      rw [List.getElem?_append_left this]; exact q
/-- one is written -/
theorem Emb.wr_kd (e : Emb K g m H) {n : Nat} {a : Addr} {xs ys : List (PV × PV)} {ws : List (NestedKey × Addr × V)} (hm : m[n]? = some (.kd xs)) (ha : g.φ n = some a) (r : RND K g H ys ws) :
    Ext g H g (upd H a (KDo K.w a ws)) ∧ Emb K g (m.set n (.kd ys)) (upd H a (KDo K.w a ws)) := by
  have x : Ext g H g (upd H a (KDo K.w a ws)) := ⟨fun _ _ h => h, fun _ _ h => h, fun b u h hb _ => by
    rw [upd_ne (fun z => hb n (by rw [z]; exact ha))]; exact h, fun _ _ _ h _ => h, fun _ _ _ _ _ h => h, rfl⟩
  have hlt : n < m.length := (List.getElem?_eq_some_iff.mp hm).1
  obtain ⟨a0, vs0, p1, p2, _⟩ := e.obj n _ hm
  rw [ha] at p1; cases p1
  refine ⟨x, fun k o h => ?_, fun k b h => ?_, e.inj, fun b u h => ?_, e.nt, tabs_wr2 e.tab p2 kd_nt kd_code⟩
  · by_cases hk : n = k
    · subst hk
      rw [List.getElem?_set_self hlt] at h
      cases h
      exact ⟨a, ws, ha, upd_same, r.ext e x⟩
    · rw [List.getElem?_set_ne hk] at h
      have q := e.obj k o h
      cases o with
      | lst zs =>
        obtain ⟨b, us, h1, h2, h3⟩ := q
        refine ⟨b, us, h1, ?_, h3.ext e x⟩
        rw [upd_ne (fun z => hk (e.inj n k a ha (by rw [← z]; exact h1)))]
        exact h2
      | dict zs =>
        obtain ⟨b, us, h1, h2, h3⟩ := q
        refine ⟨b, us, h1, ?_, h3.ext e x⟩
        rw [upd_ne (fun z => hk (e.inj n k a ha (by rw [← z]; exact h1)))]
        exact h2
      | ins cN zs =>
        obtain ⟨b, cC, cD, us, h1, cM, h2, h3⟩ := q
        refine ⟨b, cC, cD, us, h1, cM, ?_, h3.ext e x⟩
        rw [upd_ne (fun z => hk (e.inj n k a ha (by rw [← z]; exact h1)))]
        exact h2
      | dl zs =>
        obtain ⟨b, ob, us, h1, h2, h3⟩ := q
        exact ⟨b, ob, us, h1, x.ro _ _ h2, h3.ext e x⟩
      | kd zs =>
        obtain ⟨b, us, h1, h2, h3⟩ := q
        refine ⟨b, us, h1, ?_, h3.ext e x⟩
        rw [upd_ne (fun z => hk (e.inj n k a ha (by rw [← z]; exact h1)))]
        exact h2
      | kl zs =>
        obtain ⟨b, ob, us, h1, h2, h3⟩ := q
        exact ⟨b, ob, us, h1, x.ro _ _ h2, h3.ext e x⟩
      | dead => trivial
      | tab P l => exact q
  · obtain ⟨h1, u, h2, h3⟩ := e.dom k b h
    rw [List.length_set]
    by_cases hb : b = a
    · subst hb; exact ⟨h1, _, upd_same, .inl trivial⟩
    · exact ⟨h1, u, by rw [upd_ne hb]; exact h2, h3⟩
  · obtain ⟨h1, h2⟩ := e.ro b u h
    have hb : b ≠ a := fun z => by
      subst z
      have := h2 n ha
      rw [hm] at this; cases this
    refine ⟨by rw [upd_ne hb]; exact h1, fun k hk => ?_⟩
    have q := h2 k hk
    have hkn : n ≠ k := fun z => by subst z; rw [hm] at q; cases q
    rw [List.getElem?_set_ne hkn]; exact q
end
/-! ### keys -/
theorem str_inj {x y : List Nat} : ((⟨x.toArray⟩ : Str) = ⟨y.toArray⟩) ↔ x = y := by
  constructor
  · intro h
    have : x.toArray = y.toArray := by injection h
    simpa using this
  · rintro rfl; rfl
mutual
theorem eqv_nk : ∀ (a b : PV) (n k : Nat), a.ky n = true → b.ky k = true → (PV.eqv a b = true ↔ nkOf a = nkOf b)
  | .non, b, n, k, _, hb => by cases b <;> simp [PV.eqv, nkOf] <;> (cases k <;> cases hb)
  | .bl x, b, n, k, _, hb => by
    cases b with
    | bl y => cases x <;> cases y <;> simp [PV.eqv, nkOf]
    | int j => simp [PV.eqv, nkOf, b2i]
    | non => simp [PV.eqv, nkOf]
    | str l => simp [PV.eqv, nkOf]
    | tup l => simp [PV.eqv, nkOf]
    | _ => cases k <;> cases hb
  | .int i, b, n, k, _, hb => by
    cases b with
    | bl y => simp [PV.eqv, nkOf, b2i]
    | int j => simp [PV.eqv, nkOf]
    | non => simp [PV.eqv, nkOf]
    | str l => simp [PV.eqv, nkOf]
    | tup l => simp [PV.eqv, nkOf]
    | _ => cases k <;> cases hb
  | .str x, b, n, k, _, hb => by
    cases b with
    | str y => simp only [PV.eqv, nkOf, beq_iff_eq, NestedKey.text.injEq]; exact str_inj.symm
    | bl y => simp [PV.eqv, nkOf]
    | int j => simp [PV.eqv, nkOf]
    | non => simp [PV.eqv, nkOf]
    | tup l => simp [PV.eqv, nkOf]
    | _ => cases k <;> cases hb
  | .tup xs, b, n, k, ha, hb => by
    cases n with
    | zero => cases ha
    | succ n =>
    cases b with
    | tup ys =>
      cases k with
      | zero => cases hb
      | succ k =>
        simp only [PV.eqv, nkOf, NestedKey.tup.injEq]
        exact eqvs_nk xs ys n k (by simpa only [PV.ky] using ha) (by simpa only [PV.ky] using hb)
    | str y => simp [PV.eqv, nkOf]
    | bl y => simp [PV.eqv, nkOf]
    | int j => simp [PV.eqv, nkOf]
    | non => simp [PV.eqv, nkOf]
    | _ => cases k <;> cases hb
  | .vl _, _, n, _, ha, _ => by cases n <;> cases ha
  | .fz _, _, n, _, ha, _ => by cases n <;> cases ha
  | .vd _, _, n, _, ha, _ => by cases n <;> cases ha
  | .ref _, _, n, _, ha, _ => by cases n <;> cases ha
  | .fn _, _, n, _, ha, _ => by cases n <;> cases ha
theorem eqvs_nk : ∀ (xs ys : List PV) (n k : Nat), xs.all (PV.ky n) = true → ys.all (PV.ky k) = true → (PV.eqvs xs ys = true ↔ nkOfs xs = nkOfs ys)
  | [], [], _, _, _, _ => by simp [PV.eqvs, nkOfs]
  | [], _ :: _, _, _, _, _ => by simp [PV.eqvs, nkOfs]
  | _ :: _, [], _, _, _, _ => by simp [PV.eqvs, nkOfs]
  | x :: xs, y :: ys, n, k, ha, hb => by
    simp only [List.all_cons, Bool.and_eq_true] at ha hb
    simp only [PV.eqvs, nkOfs, Bool.and_eq_true, List.cons.injEq]
    exact and_congr (eqv_nk x y n k ha.1 hb.1) (eqvs_nk xs ys n k ha.2 hb.2)
end
theorem eqv_dec {a b : PV} {n k : Nat} (ha : a.ky n = true) (hb : b.ky k = true) : PV.eqv a b = decide (nkOf a = nkOf b) := by
  rw [Bool.eq_iff_iff, decide_eq_true_eq]; exact eqv_nk a b n k ha hb
section
variable {X : Cx} {pins : List (Addr × Obj)} {σ : L2.St} {H : Hp} {s : Shared} {g : Gh} {m : Mm}
mutual
theorem nk_is (I : Inv X pins σ H s) : ∀ {v : PV} {w : V} {u : Value} (n : Nat), v.ky n = true → Rp X.kw g H v w → RelV w u → NestedIs s.heap (nkOf v) u
  | _, _, u, _, _, .non, r => by cases r; exact .none
  | _, _, u, _, _, .bl b, r => by cases r; exact .bool rfl
  | _, _, u, _, _, .int i, r => by obtain ⟨t, rfl⟩ := (show ∃ t, u = Value.int i t from r); exact .int i t
  | _, _, u, _, _, .str l, r => by obtain ⟨t, rfl⟩ := (show ∃ t, u = Value.str ⟨l.toArray⟩ t from r); exact .text _ t
  | _, _, _, 0, h, .tup _ _, _ => by cases h
  | _, _, u, n + 1, h, .tup (a := a) hs hr, r => by
    obtain rfl : u = Value.ref a := r
    obtain ⟨its, rv, ⟨o, e1, e2, k, e3⟩, _⟩ := I.tuple hs
    exact .tup e1 e2 e3 (by simpa using nks_is I n (by simpa only [PV.ky] using h) hr rv)
  | _, _, _, 0, h, .vl _ _, _ => by cases h
  | _, _, _, _ + 1, h, .vl _ _, _ => by cases h
  | _, _, _, 0, h, .fz _ _, _ => by cases h
  | _, _, _, _ + 1, h, .fz _ _, _ => by cases h
  | _, _, _, 0, h, .ref _, _ => by cases h
  | _, _, _, _ + 1, h, .ref _, _ => by cases h
  | _, _, _, 0, h, .fn _, _ => by cases h
  | _, _, _, _ + 1, h, .fn _, _ => by cases h
theorem nks_is (I : Inv X pins σ H s) : ∀ {v : List PV} {w : List V} {u : List Value} (n : Nat), v.all (PV.ky n) = true → Rps X.kw g H v w → Vals w u → NestedAll s.heap (nkOfs v) u
  | _, _, _, _, _, .nil, .nil => .nil
  | _, _, _, n, h, .cons a b, .cons r t => by
    simp only [List.all_cons, Bool.and_eq_true] at h
    exact .cons (nk_is I n h.1 a r) (nks_is I n h.2 b t)
end
end
mutual
theorem nk_depth : ∀ (v : PV) (n : Nat), v.ky n = true → (nkOf v).depth ≤ n
  | .non, _, _ => Nat.zero_le _
  | .bl _, _, _ => Nat.zero_le _
  | .int _, _, _ => Nat.zero_le _
  | .str _, _, _ => Nat.zero_le _
  | .tup xs, n, h => by
    cases n with
    | zero => cases h
    | succ n =>
      simp only [nkOf, NestedKey.depth]
      have := nks_depth xs n (by simpa only [PV.ky] using h)
      omega
  | .vl _, n, h => by cases n <;> cases h
  | .fz _, n, h => by cases n <;> cases h
  | .vd _, n, h => by cases n <;> cases h
  | .ref _, n, h => by cases n <;> cases h
  | .fn _, n, h => by cases n <;> cases h
theorem nks_depth : ∀ (v : List PV) (n : Nat), v.all (PV.ky n) = true → NestedKey.depthAll (nkOfs v) ≤ n
  | [], _, _ => Nat.zero_le _
  | x :: xs, n, h => by
    simp only [List.all_cons, Bool.and_eq_true] at h
    simp only [nkOfs, NestedKey.depthAll]
    have h1 := nk_depth x n h.1
    have h2 := nks_depth xs n h.2
    omega
end
theorem isTup_inv {k : PV} (h : isTup k = true) : ∃ xs, k = .tup xs := by
  cases k with
  | tup xs => exact ⟨xs, rfl⟩
  | _ => cases h
/-- what is found -/
theorem find_rel {K : KW} {g : Gh} {H : Hp} {k : PV} (hk : k.ky 8 = true) : ∀ {kvs : List (PV × PV)} {xs : List (NestedKey × Addr × V)} {ys : List (NestedKey × Addr × Value)}, RND K g H kvs xs → KA xs ys →
    kHas kvs k = (atKey ys (nkOf k)).isSome ∧ ∀ v, kFind kvs k = some v → ∃ q w u, atKey ys (nkOf k) = some (q, u) ∧ Rp K g H v w ∧ RelV w u
  | _, _, _, .nil, .nil => ⟨rfl, fun v h => nomatch h⟩
  | _, _, _, .cons (k := k') (x := x) y a b r, .cons (b := q) c t => by
    obtain ⟨ih1, ih2⟩ := find_rel hk r t
    obtain ⟨n', q', u'⟩ := q
    obtain ⟨c1, c2, c3⟩ := c
    simp only at c1 c2 c3
    subst c1 c2
    have e := eqv_dec y hk
    unfold kHas atKey kFind at *
    simp only [List.any_cons, List.find?_cons]
    by_cases hh : nkOf k' = nkOf k
    · rw [e, decide_eq_true hh]
      refine ⟨rfl, fun v hv => ?_⟩
      simp only [Option.map_some, Option.some.injEq] at hv
      subst hv
      exact ⟨_, _, _, rfl, b, c3⟩
    · rw [e, decide_eq_false hh]
      simp only [Bool.false_or]
      exact ⟨ih1, ih2⟩
/-- what is stored -/
theorem put_rel {K : KW} {g : Gh} {H : Hp} {k v : PV} {q : Addr} {w : V} {u : Value} (hk : k.ky 8 = true) (rk : Rp K g H k (.ref q)) (rv : Rp K g H v w) (ru : RelV w u) : ∀ {kvs : List (PV × PV)} {xs : List (NestedKey × Addr × V)} {ys : List (NestedKey × Addr × Value)}, RND K g H kvs xs → KA xs ys →
    ∃ xs', RND K g H (kvs.map fun p => if PV.eqv p.1 k = true then (p.1, v) else p) xs' ∧ KA xs' (ys.map (putAt (nkOf k) u))
  | _, _, _, .nil, .nil => ⟨[], .nil, .nil⟩
  | _, _, _, .cons (k := k') (x := x) (q := q0) (v := v0) y a b r, .cons (b := q1) c t => by
    obtain ⟨xs', i1, i2⟩ := put_rel hk rk rv ru r t
    obtain ⟨n', q', u'⟩ := q1
    obtain ⟨c1, c2, c3⟩ := c
    simp only at c1 c2 c3
    subst c1 c2
    have e := eqv_dec y hk
    simp only [List.map_cons, e, decide_eq_true_eq, putAt]
    by_cases hh : nkOf k' = nkOf k
    · rw [if_pos hh, if_pos hh]
      exact ⟨_, .cons y a rv i1, .cons ⟨rfl, rfl, ru⟩ i2⟩
    · rw [if_neg hh, if_neg hh]
      exact ⟨_, .cons y a b i1, .cons ⟨rfl, rfl, c3⟩ i2⟩
theorem add_rel {K : KW} {g : Gh} {H : Hp} {k v : PV} {q : Addr} {w : V} {u : Value} (hk : k.ky 8 = true) (rk : Rp K g H k (.ref q)) (rv : Rp K g H v w) (ru : RelV w u) : ∀ {kvs : List (PV × PV)} {xs : List (NestedKey × Addr × V)} {ys : List (NestedKey × Addr × Value)}, RND K g H kvs xs → KA xs ys →
    RND K g H (kvs ++ [(k, v)]) (xs ++ [(nkOf k, q, w)]) ∧ KA (xs ++ [(nkOf k, q, w)]) (ys ++ [(nkOf k, q, u)])
  | _, _, _, .nil, .nil => ⟨.cons hk rk rv .nil, .cons ⟨rfl, rfl, ru⟩ .nil⟩
  | _, _, _, .cons y a b r, .cons c t => ⟨.cons y a b (add_rel hk rk rv ru r t).1, .cons c (add_rel hk rk rv ru r t).2⟩
theorem stored_rel {K : KW} {g : Gh} {H : Hp} {k v : PV} {q : Addr} {w : V} {u : Value} (hk : k.ky 8 = true) (rk : Rp K g H k (.ref q)) (rv : Rp K g H v w) (ru : RelV w u) {kvs : List (PV × PV)} {xs : List (NestedKey × Addr × V)} {ys : List (NestedKey × Addr × Value)} (r : RND K g H kvs xs) (t : KA xs ys) :
    ∃ xs', RND K g H (kPut kvs k v) xs' ∧ KA xs' (storedH ys (nkOf k) q u) := by
  have f := (find_rel hk r t).1
  unfold kPut storedH
  by_cases h : kHas kvs k = true
  · rw [if_pos h, if_pos (by rw [← f]; exact h)]
    exact put_rel hk rk rv ru r t
  · rw [if_neg h, if_neg (by rw [← f]; exact h)]
    exact ⟨_, add_rel hk rk rv ru r t⟩
theorem RND.length {K : KW} {g : Gh} {H : Hp} : ∀ {kvs : List (PV × PV)} {xs : List (NestedKey × Addr × V)}, RND K g H kvs xs → kvs.length = xs.length
  | _, _, .nil => rfl
  | _, _, .cons _ _ _ r => by simp [RND.length r]
theorem kPut_len (kvs : List (PV × PV)) (k v : PV) : (kPut kvs k v).length ≤ kvs.length + 1 := by
  unfold kPut
  split
  · rw [List.length_map]; omega
  · simp
section
variable {X : Cx} {pins : List (Addr × Obj)} {σ : L2.St} {H : Hp} {s : Shared} {g : Gh} {m : Mm}
theorem keys_at {K : KW} : ∀ {kvs : List (PV × PV)} {xs : List (NestedKey × Addr × V)} {ys : List (NestedKey × Addr × Value)}, RND K g H kvs xs → KA xs ys → ∀ y ∈ ys, ∃ k : PV, y.1 = nkOf k ∧ k.ky 8 = true ∧ Rp K g H k (.ref y.2.1)
  | _, _, _, .nil, .nil, _, h => nomatch h
  | _, _, _, .cons y a b r, .cons c t, z, h => by
    rcases List.mem_cons.mp h with e | h
    · subst e
      obtain ⟨c1, c2, _⟩ := c
      exact ⟨_, c1.symm, y, by rw [← c2]; exact a⟩
    · exact keys_at r t z h
theorem kd_at {a : Addr} {kvs : List (PV × PV)} {xs : List (NestedKey × Addr × V)} (I : Inv X pins σ H s) (h : H a = some (KDo X.w a xs)) (r : RND X.kw g H kvs xs) :
    (a == sysModules) = false ∧ xs.length ≤ sizeLine ∧ ∃ ys, KA xs ys ∧ s.heap.DictOfH (nestedKind X.prog X.w) a ys := by
  obtain ⟨⟨h1, h2, ys, ka, o, es, ep, e1, e2, e3, e4, nd⟩, _⟩ := I.hok a _ h
  refine ⟨h1, h2, ys, ka, o, es, ep, e1, e2, e3, e4, fun y hy => ?_, nd⟩
  obtain ⟨k, k1, k2, k3⟩ := keys_at r ka y hy
  rw [k1]
  exact ⟨nk_is I 8 k2 k3 rfl, nk_depth k 8 k2⟩
theorem kd_new {P : Program} {w : World} {H' : Hp} {h' : Heap} {a : Addr} {xs : List (NestedKey × Addr × V)} {ys : List (NestedKey × Addr × Value)} (z : xs.length ≤ sizeLine) (hd : (a == sysModules) = false) (ka : KA xs ys) (dd : h'.DictOfH (nestedKind P w) a ys) : ObjOk P w H' h' a (KDo w a xs) := by
  obtain ⟨o, es, ep, e1, e2, e3, e4, _, nd⟩ := dd
  exact ⟨⟨hd, z, ys, ka, o, es, ep, e1, e2, e3, e4, nd⟩, ⟨o, e1⟩, fun h1 h2 ⟨q1, q2, y2, q3, o2, s2, p2, q4, q5⟩ st => ⟨q1, q2, y2, q3, o2, s2, p2, st _ q4, q5⟩⟩
end
section
variable {X : Cx} {Ξ : XC} {pos : Pos} {o e : Expr} {fa fb : SE}
theorem kd_room {A : Around} (hu : A.units + 64 < cLine) : A.in1.units + 8 < cLine := by show A.units + 1 + 8 < cLine; omega
/-- {} -/
theorem se_knew : PE X (.Dict [] [] pos) (rdE X.kw Ξ eKNew) := ⟨fun pins s σ H Q I ⟨g, sl, m, em, sr, q⟩ => by
  have hp : H s.heap.objs.size = none := I.hok.fresh (Nat.le_refl _)
  have dd : (s.heap.push { cls := .type "dict", data := .dict #[] }).DictOfH (nestedKind X.prog X.w) s.heap.objs.size [] := Heap.DictOfH.new s.heap
  have ok : ObjOk X.prog X.w (upd H s.heap.objs.size (KDo X.w s.heap.objs.size [])) (s.heap.push { cls := .type "dict", data := .dict #[] }) s.heap.objs.size (KDo X.w s.heap.objs.size []) := kd_new (Nat.zero_le _) (beq_eq_false_iff_ne.mpr (Ne.symm (Nat.ne_of_lt I.big))) .nil dd
  obtain ⟨x1, e1, r1⟩ := em.new_kd hp
  have keep : ∀ b u, s.heap.get? b = some u → (s.heap.push { cls := .type "dict", data := .dict #[] }).get? b = some u := fun b u z => Heap.get?_push_of_some _ z
  exact wpAny_Dict_empty ⟨.ref s.heap.objs.size, _, I.laid (t' := s.toks) keep (Nat.le_refl _) ok, rfl, q _ _ _ x1 e1 r1⟩⟩
theorem op_tKIn (hu : X.A.units + 64 < cLine) : OpR X (compareOp .In) (rd2 X.kw Ξ (oKIn false)) := by
  intro pins s σ H x y v u Q I rx ry ⟨g, m, a, b, em, ra, rb, q⟩
  unfold oKIn at q
  split at q
  · rename_i n
    split at q
    · rename_i kvs hm
      split at q
      · rename_i hc
        simp only [Bool.and_eq_true] at hc
        obtain ⟨zs, rfl⟩ := isTup_inv hc.1
        obtain ⟨d, rfl, hd⟩ := rb.ref_inv
        obtain ⟨d', xs, h1, h2, h3⟩ := em.obj _ _ hm
        rw [hd] at h1; cases h1
        obtain ⟨ka, _, rfl, _⟩ := ra.tup_inv
        cases rx; cases ry
        obtain ⟨s1, s2, ys, t1, dd⟩ := kd_at I h2 h3
        have fr := (find_rel hc.2 h3 t1).1
        refine wpAny_in_heap (knd := nestedKind X.prog X.w) (kd_room hu) ⟨nk_is I 8 hc.2 ra rfl, nk_depth _ 8 hc.2⟩ s1 dd ?_
        rw [← fr]
        exact ⟨.bl _, H, I.tok _, rfl, QE.ret em (.bl _) q⟩
      · exact q.elim
    · exact q.elim
  · exact q.elim
theorem op_tKNotIn (hu : X.A.units + 64 < cLine) : OpR X (compareOp .NotIn) (rd2 X.kw Ξ (oKIn true)) := by
  intro pins s σ H x y v u Q I rx ry ⟨g, m, a, b, em, ra, rb, q⟩
  unfold oKIn at q
  split at q
  · rename_i n
    split at q
    · rename_i kvs hm
      split at q
      · rename_i hc
        simp only [Bool.and_eq_true] at hc
        obtain ⟨zs, rfl⟩ := isTup_inv hc.1
        obtain ⟨d, rfl, hd⟩ := rb.ref_inv
        obtain ⟨d', xs, h1, h2, h3⟩ := em.obj _ _ hm
        rw [hd] at h1; cases h1
        obtain ⟨ka, _, rfl, _⟩ := ra.tup_inv
        cases rx; cases ry
        obtain ⟨s1, s2, ys, t1, dd⟩ := kd_at I h2 h3
        have fr := (find_rel hc.2 h3 t1).1
        refine notIn_keyed (knd := nestedKind X.prog X.w) (kd_room hu) ⟨nk_is I 8 hc.2 ra rfl, nk_depth _ 8 hc.2⟩ s1 ⟨ys, dd, rfl⟩ ?_
        rw [valueAt_pairsH, Option.isSome_map, ← fr]
        exact ⟨.bl _, H, I.tok _, rfl, QE.ret em (.bl _) q⟩
      · exact q.elim
    · exact q.elim
  · exact q.elim
theorem set_k (hu : X.A.units + 64 < cLine) : PSet X (fun o i v H Q => ∃ g m a b c, Emb X.kw g m H ∧ Rp X.kw g H a o ∧ Rp X.kw g H b i ∧ Rp X.kw g H c v ∧ QR X.kw Ξ g H (fun m' => ∀ g' H', Ext g H g' H' → Emb X.kw g' m' H' → Q H') (oKSet a b c m)) := by
  intro pins s σ H o i v ov iv u Q I ro ri rv ⟨g, m, a, b, c, em, ra, rb, rc, q⟩
  unfold oKSet at q
  split at q
  · rename_i n
    split at q
    · rename_i kvs hm
      split at q
      · rename_i hc
        simp only [Bool.and_eq_true, decide_eq_true_eq] at hc
        obtain ⟨⟨hc1, hc2⟩, hc3⟩ := hc
        obtain ⟨zs, rfl⟩ := isTup_inv hc1
        obtain ⟨d, rfl, hd⟩ := ra.ref_inv
        obtain ⟨d', xs, h1, h2, h3⟩ := em.obj _ _ hm
        rw [hd] at h1; cases h1
        obtain ⟨ka, _, rfl, _⟩ := rb.tup_inv
        cases ro; cases ri
        obtain ⟨s1, s2, ys, t1, dd⟩ := kd_at I h2 h3
        obtain ⟨xs', r', t'⟩ := stored_rel hc2 rb rc rv h3 t1
        have hz : ys.length ≤ sizeLine := by rw [← Paired.length t1]; exact s2
        have hl : xs'.length ≤ sizeLine := by
          have e1 := kPut_len kvs (.tup zs) c
          rw [r'.length] at e1
          exact Nat.le_trans e1 (line_lt hc3)
        refine wpAny_setItem_heap (knd := nestedKind X.prog X.w) (hsz := hz) (kd_room hu) ⟨nk_is I 8 hc2 rb rfl, nk_depth _ 8 hc2⟩ dd fun h' dd' hs => ?_
        obtain ⟨x', e'⟩ := em.wr_kd hm hd r'
        have old : ∃ z, h'.get? d = some z := let ⟨z, _, _, hz, _⟩ := dd'; ⟨z, hz⟩
        have J := I.write (x := d) (e := d) (o := KDo X.w d xs') (t' := s.toks + (nestedKind X.prog X.w).draws (nkOf (.tup zs))) (by rw [h2]; trivial) (.inl rfl) (fun b u hb z => (hs.2 b hb).trans z) old (kd_new hl s1 t' dd')
        exact ⟨_, J, q _ _ x' e'⟩
      · exact q.elim
    · exact q.elim
  · exact q.elim
/-- d[k] = .. -/
theorem sg_ksub (hu : X.A.units + 64 < cLine) (ho : PE X o (rdE X.kw Ξ fa)) (hi : PE X e (rdE X.kw Ξ fb)) (ha : ∀ v, assign (.Subscript o e pos) X.env v = (do
      let ov ← holding [v] (eval o X.env)
      let iv ← holding [v, ov] (eval e X.env)
      standAt pos
      holding [v, ov, iv] (setItem ov iv v)
      release [v, ov, iv] []) := by intro _; rfl) : PG X (.Subscript o e pos) (rdG X.kw Ξ (gKSub fa fb)) :=
  PG_imp (pg_sub ho hi (set_k (Ξ := Ξ) hu) ha) fun v σ H Q ⟨g, s, m, pv, em, sr, rv, q⟩ => by
    refine ⟨g, s, m, em, sr, QR.bind q fun p hp q1 g1 H1 V x1 e1 r1 => ?_⟩
    refine ⟨g1, s, p.2, e1, sr.ext em x1, QR.bind (QG.later x1 q1) fun p2 hp2 q2 g2 H2 W x2 e2 r2 => ?_⟩
    refine ⟨g2, p2.2, p.1, p2.1, pv, e2, r1.ext e1 x2, r2, (rv.ext em x1).ext e1 x2, QR.bind (QG.later x2 q2) fun m3 hm3 q3 g3 H3 x3 e3 => ?_⟩
    exact q3 g3 H3 σ x3 e3 ((((sr.ext em x1).ext e1 x2)).ext e2 x3)
end
section
variable {X : Cx} {Ξ : XC} {a : Expr} {pos : Pos} {fa : SE}
/-- is not True, is not False of a truth value -/
theorem se_isNB {k : Bool} {j pos'} (ha : PE X a (rdE X.kw Ξ fa)) : PE X (.Compare a [.IsNot] [.Constant (.bool k) j pos'] pos) (rdE X.kw Ξ (e1 (oIs true (.bl k)) fa)) :=
  PE_imp (pe_cmpR op_notBl ha pe_bl (nomark _)) fun σ H Q q => by
    obtain ⟨g, s, m, em, sr, q⟩ := q
    refine ⟨g, s, m, em, sr, QR.bind q fun p hp q1 g1 H1 V x1 e1 r1 => ?_⟩
    have e := QE.later x1 q1
    obtain ⟨v, m1⟩ := p
    cases v with
    | bl c =>
      cases r1.bl_inv
      refine ⟨c, k, rfl, rfl, ?_⟩
      have : (if c == k then (!true : Bool) else true) = !decide (c = k) := by cases c <;> cases k <;> rfl
      simp only [oIs, this] at e
      exact QE.ret e1 (.bl _) e
    | _ => exact e.elim
theorem st_isNB {k : Bool} {j pos'} (ha : PE X a (rdE X.kw Ξ fa)) : PT X (.Compare a [.IsNot] [.Constant (.bool k) j pos'] pos) (rdT X.kw Ξ (tV (e1 (oIs true (.bl k)) fa))) :=
  PT_imp (pt_cmpR op_notBl ha pe_bl (nomark _)) fun σ H Q q => st_of (e := a) (fun _ q => by
    obtain ⟨g, s, m, em, sr, q⟩ := q
    refine ⟨g, s, m, em, sr, QR.bind q fun p hp q1 g1 H1 V x1 e1 r1 => ?_⟩
    have e := QE.later x1 q1
    obtain ⟨v, m1⟩ := p
    cases v with
    | bl c =>
      cases r1.bl_inv
      refine ⟨c, k, rfl, rfl, ?_⟩
      have : (if c == k then (!true : Bool) else true) = !decide (c = k) := by cases c <;> cases k <;> rfl
      simp only [oIs, this] at e
      exact QE.ret e1 (.bl _) e
    | _ => exact e.elim) q
end
end TT
end

section
set_option Elab.async false
set_option linter.all false
set_option autoImplicit false
set_option maxRecDepth 100000
namespace TT
open PySem PySem.Spec PyProof.Rows L2
section
variable {X : Cx} {Ξ : XC} {pos : Pos} {k v : Expr} {fk fv : SE}
/-- {k: v} -/
theorem se_kdisp1 (hu : X.A.units + 64 < cLine) (hk : PE X k (rdE X.kw Ξ fk)) (hv : PE X v (rdE X.kw Ξ fv)) : PE X (.Dict [some k] [v] pos) (rdE X.kw Ξ (eKDisp1 fk fv)) := ⟨fun pins s σ H Q I ⟨g, sl, m, em, sr, q⟩ => by
  have hp : H s.heap.objs.size = none := I.hok.fresh (Nat.le_refl _)
  have dd : (s.heap.push { cls := .type "dict", data := .dict #[] }).DictOfH (nestedKind X.prog X.w) s.heap.objs.size [] := Heap.DictOfH.new s.heap
  have ok : ObjOk X.prog X.w (upd H s.heap.objs.size (KDo X.w s.heap.objs.size [])) (s.heap.push { cls := .type "dict", data := .dict #[] }) s.heap.objs.size (KDo X.w s.heap.objs.size []) := kd_new (Nat.zero_le _) (beq_eq_false_iff_ne.mpr (Ne.symm (Nat.ne_of_lt I.big))) .nil dd
  obtain ⟨x1, e1, r1⟩ := em.new_kd hp
  have keep : ∀ b u, s.heap.get? b = some u → (s.heap.push { cls := .type "dict", data := .dict #[] }).get? b = some u := fun b u z => Heap.get?_push_of_some _ z
  have I1 := I.laid (t' := s.toks) keep (Nat.le_refl _) ok
  have q' := QE.later x1 q
  have hr : (nestedKind X.prog X.w).room X.A := by show X.A.units + 8 < cLine; omega
  have P := pps_cons (pos := pos) hk hv (pps_nil (X := X) (pos := pos))
  have hn := pairTrees_length [some k] [v] X.env pos rfl rfl
  have h0 : pairTrees [some k] [v] X.env pos ≠ [] := fun z => by rw [z] at hn; cases hn
  rw [arm_eval_Dict, zip_pairTrees [some k] [v] X.env pos rfl rfl, dictDisplay_pairs _ h0 (by rw [hn]; exact (by decide : 1 < 17))]
  refine wpAny_bind (wpAny_standAt (wpAny_bind (wpAny_subDictH (knd := nestedKind X.prog X.w) (Q := fun d s' => wpAny (model X.prog X.w) X.A (pure (Value.ref d)) _ X.xe s') hr (by rw [hn]; exact (by decide : 1 ≤ 15)) (thn (P.run pins _ σ _ (fun ps H' => ∃ g' m' a b x y, Emb X.kw g' m' H' ∧ ps = [(x, y)] ∧ Rp X.kw g' H' a x ∧ Rp X.kw g' H' b y ∧ g'.φ m.length = some s.heap.objs.size ∧
      QE X.kw Ξ g' H' Q (match m'[m.length]? with
        | some (.kd []) => if isTup a && a.ky 8 then Rs.ok (PV.ref m.length, m'.set m.length (.kd [(a, b)])) else .no
        | _ => .no)) I1 ⟨_, sl, _, e1, sr.ext em x1, QR.bind q' fun p hp q1 g1 H1 V x2 e2 r2 => ?_⟩) fun ws s2 ⟨ps, H2, I2, rel, g', m', a, b, x, y, em', ep, ra, rb, hphi, q3⟩ => ?_))))
  · have s1 := (sr.ext em x1).ext e1 x2
    obtain ⟨pk, m1⟩ := p
    refine ⟨g1, sl, m1, e2, s1, QR.bind (QE.later x2 q1) fun p2 hp2 q2 g2 H2 W x3 e3 r3 => ?_⟩
    obtain ⟨pv, m2⟩ := p2
    refine ⟨g2, m2, pk, pv, V, W, e3, rfl, r2.ext e2 x3, r3, x3.phi _ _ (x2.phi _ _ ?_), QE.later x3 q2⟩
    show (if m.length = m.length then some s.heap.objs.size else _) = _
    rw [if_pos rfl]
  · subst ep
    cases rel with
    | @cons _ q0 _ qs rel1 rel2 =>
    cases rel2
    obtain ⟨u1, u2⟩ := q0
    obtain ⟨rel1, relv⟩ := rel1
    split at q3
    · rename_i hm
      split at q3
      · rename_i hc
        simp only [Bool.and_eq_true] at hc
        obtain ⟨zs, rfl⟩ := isTup_inv hc.1
        obtain ⟨d', xs, h1, h2, h3⟩ := em'.obj _ _ hm
        rw [hphi] at h1; cases h1
        cases h3
        obtain ⟨ka, _, rfl, _⟩ := ra.tup_inv
        cases rel1
        obtain ⟨s1, s2', ys, t1, dd2⟩ := kd_at (g := g') I2 h2 .nil
        cases t1
        refine ⟨[(nkOf (.tup zs), ka, u2)], ⟨rfl, rfl, ⟨nk_is I2 8 hc.2 ra rfl, nk_depth _ 8 hc.2⟩, trivial⟩, dd2, fun h' tk dd' hs => wpAny_pure ?_⟩
        have old : ∃ z, h'.get? s.heap.objs.size = some z := let ⟨z, _, _, hz, _⟩ := dd'; ⟨z, hz⟩
        obtain ⟨x', e'⟩ := em'.wr_kd hm hphi (.cons hc.2 ra rb .nil)
        have J := I2.write (x := s.heap.objs.size) (e := s.heap.objs.size) (o := KDo X.w s.heap.objs.size [(nkOf (.tup zs), ka, y)]) (t' := tk) (by rw [h2]; trivial) (.inl rfl) (fun b u hb z => (hs.2 b hb).trans z) old (kd_new (Nat.le_trans (show 1 ≤ 1 from Nat.le_refl 1) (by rw [sizeLine_eq]; decide)) s1 (.cons ⟨rfl, rfl, relv⟩ .nil) dd')
        exact ⟨.ref s.heap.objs.size, _, J, rfl, q3 _ _ _ x' e' (.ref (x'.phi _ _ hphi))⟩
      · exact q3.elim
    · exact q3.elim⟩
end
end TT
end

section
set_option Elab.async false
set_option linter.all false
set_option autoImplicit false
set_option maxRecDepth 100000
/-! TT: dicts with tuple keys: read, locked, walked -/
namespace TT
open PySem PySem.Spec PyProof.Rows L2
section
variable {K : KW} {g g' : Gh} {m m' : Mm} {H H' : Hp}
/-- a dict is locked: its object is told from now on -/
theorem Emb.lock_kd (e : Emb K g m H) {n : Nat} {a : Addr} {kvs : List (PV × PV)} {vs : List (NestedKey × Addr × V)} (o : Obj) (hm : m[n]? = some (.kd kvs)) (ha : g.φ n = some a) (r : RND K g H kvs vs) :
    ∃ g', Ext g H g' (upd H a (KDl K.w a o vs)) ∧ Emb K g' (m.set n (.kl kvs)) (upd H a (KDl K.w a o vs)) ∧ g'.φ = g.φ := by
  have hlt : n < m.length := (List.getElem?_eq_some_iff.mp hm).1
  obtain ⟨a0, vs0, p1, p2, _⟩ := e.obj n _ hm
  rw [ha] at p1; cases p1
  have hro : g.ro a = none := by
    cases q : g.ro a with
    | none => rfl
    | some u =>
      have := (e.ro a u q).2 n ha
      rw [hm] at this; exact this.elim
  have x : Ext g H (g.addR a (KDl K.w a o vs)) (upd H a (KDl K.w a o vs)) := by
    refine ⟨fun _ _ h => h, fun b u h => ?_, fun b u h hb _ => ?_, fun _ _ _ h _ => h, fun b u h hb _ hr => ?_, rfl⟩
    · have nb : b ≠ a := fun z => by subst z; rw [hro] at h; cases h
      show upd g.ro a _ b = some u
      rw [upd_ne nb]; exact h
    · rw [upd_ne (fun z => hb n (by rw [z]; exact ha))]; exact h
    · show upd g.ro a _ b = none
      rw [upd_ne (fun z => hb n (by rw [z]; exact ha))]; exact hr
  refine ⟨g.addR a (KDl K.w a o vs), x, ⟨fun k ob h => ?_, fun k b h => ?_, e.inj, fun b u h => ?_, fun b u h => ?_, tabs_wr2 e.tab p2 kd_nt kd_code⟩, rfl⟩
  · by_cases hk : n = k
    · subst hk
      rw [List.getElem?_set_self hlt] at h
      cases h
      exact ⟨a, o, vs, ha, upd_same, r.ext e x⟩
    · rw [List.getElem?_set_ne hk] at h
      have q := e.obj k ob h
      have ne : ∀ b, g.φ k = some b → b ≠ a := fun b hb z => hk (e.inj n k a ha (by rw [← z]; exact hb))
      cases ob with
      | lst zs =>
        obtain ⟨b, us, h1, h2, h3⟩ := q
        exact ⟨b, us, h1, by rw [upd_ne (ne b h1)]; exact h2, h3.ext e x⟩
      | dict zs =>
        obtain ⟨b, us, h1, h2, h3⟩ := q
        exact ⟨b, us, h1, by rw [upd_ne (ne b h1)]; exact h2, h3.ext e x⟩
      | ins cN zs =>
        obtain ⟨b, cC, cD, us, h1, cM, h2, h3⟩ := q
        exact ⟨b, cC, cD, us, h1, cM, by rw [upd_ne (ne b h1)]; exact h2, h3.ext e x⟩
      | dl zs =>
        obtain ⟨b, ob, us, h1, h2, h3⟩ := q
        exact ⟨b, ob, us, h1, x.ro _ _ h2, h3.ext e x⟩
      | kd zs =>
        obtain ⟨b, us, h1, h2, h3⟩ := q
        exact ⟨b, us, h1, by rw [upd_ne (ne b h1)]; exact h2, h3.ext e x⟩
      | kl zs =>
        obtain ⟨b, ob, us, h1, h2, h3⟩ := q
        exact ⟨b, ob, us, h1, x.ro _ _ h2, h3.ext e x⟩
      | dead => trivial
      | tab P l => exact q
  · obtain ⟨h1, u, h2, h3⟩ := e.dom k b h
    rw [List.length_set]
    by_cases hb : b = a
    · subst hb; exact ⟨h1, _, upd_same, .inl trivial⟩
    · exact ⟨h1, u, by rw [upd_ne hb]; exact h2, h3⟩
  · have h' : upd g.ro a (KDl K.w a o vs) b = some u := h
    by_cases hb : b = a
    · subst hb
      rw [upd_same] at h'
      cases h'
      refine ⟨upd_same, fun k hk => ?_⟩
      have : n = k := e.inj n k _ ha hk
      subst this
      rw [List.getElem?_set_self hlt]; trivial
    · rw [upd_ne hb] at h'
      obtain ⟨h1, h2⟩ := e.ro b u h'
      refine ⟨by rw [upd_ne hb]; exact h1, fun k hk => ?_⟩
      have q := h2 k hk
      have hkn : n ≠ k := fun z => by subst z; rw [hm] at q; exact q.elim
      rw [List.getElem?_set_ne hkn]; exact q
  · have h' : upd g.ro a (KDl K.w a o vs) b = some u := h
    by_cases hb : b = a
    · subst hb
      rw [upd_same] at h'
      cases h'
      exact kdl_nt
    · rw [upd_ne hb] at h'
      exact e.nt b u h'
end
section
variable {X : Cx} {pins : List (Addr × Obj)} {σ : L2.St} {H : Hp} {s : Shared} {g : Gh} {m : Mm}
/-- what such a dict is in the heap -/
theorem kdl_at {a : Addr} {o : Obj} {kvs : List (PV × PV)} {xs : List (NestedKey × Addr × V)} (I : Inv X pins σ H s) (h : H a = some (KDl X.w a o xs)) (r : RND X.kw g H kvs xs) :
    (a == sysModules) = false ∧ xs.length ≤ sizeLine ∧ s.heap.get? a = some o ∧ o.ExactDict ∧ ∃ ys, KA xs ys ∧ s.heap.DictOfH (nestedKind X.prog X.w) a ys ∧ ∃ es ep, o.data = .dict es ep ∧ es.toList = ys.map (fun y => (⟨y.1.hash X.w, .ref y.2.1, y.2.2⟩ : DictEntry)) := by
  obtain ⟨⟨h1, h2, h3, h4, ys, ka, es, ep, e3, e4, nd⟩, _⟩ := I.hok a _ h
  refine ⟨h2, h3, h1, h4, ys, ka, ⟨o, es, ep, h1, h4, e3, e4, fun y hy => ?_, nd⟩, es, ep, e3, e4⟩
  obtain ⟨k, k1, k2, k3⟩ := keys_at r ka y hy
  rw [k1]
  exact ⟨nk_is I 8 k2 k3 rfl, nk_depth k 8 k2⟩
theorem kx_at {n : Nat} {a : Addr} {kvs : List (PV × PV)} (I : Inv X pins σ H s) (em : Emb X.kw g m H) (h : kdOf m n = some kvs) (ha : g.φ n = some a) :
    (a == sysModules) = false ∧ ∃ xs ys, RND X.kw g H kvs xs ∧ xs.length ≤ sizeLine ∧ KA xs ys ∧ s.heap.DictOfH (nestedKind X.prog X.w) a ys := by
  unfold kdOf at h
  split at h
  · rename_i xs hm
    cases h
    obtain ⟨a', vs, h1, h2, h3⟩ := em.obj _ _ hm
    rw [ha] at h1; cases h1
    obtain ⟨s1, s2, ys, t1, dd⟩ := kd_at I h2 h3
    exact ⟨s1, vs, ys, h3, s2, t1, dd⟩
  · rename_i xs hm
    cases h
    obtain ⟨a', o, vs, h1, h2, h3⟩ := em.obj _ _ hm
    rw [ha] at h1; cases h1
    obtain ⟨s1, s2, _, _, ys, t1, dd, _⟩ := kdl_at I (em.ro _ _ h2).1 h3
    exact ⟨s1, vs, ys, h3, s2, t1, dd⟩
  · cases h
theorem raw_of {P : Program} {w : World} {h : Heap} {a : Addr} {ys : List (NestedKey × Addr × Value)} (dd : h.DictOfH (nestedKind P w) a ys) : ∃ es ep, h.DictRaw a es ep ∧ es.toList = ys.map (fun y => (⟨y.1.hash w, .ref y.2.1, y.2.2⟩ : DictEntry)) := by
  obtain ⟨o, es, ep, e1, e2, e3, e4, _, _⟩ := dd
  exact ⟨es, ep, ⟨o, e1, e2, e3⟩, e4⟩
theorem vals_rel : ∀ {kvs : List (PV × PV)} {xs : List (NestedKey × Addr × V)} {ys : List (NestedKey × Addr × Value)} {K : KW}, RND K g H kvs xs → KA xs ys → Rps K g H (kvs.map (·.2)) (xs.map (·.2.2)) ∧ Vals (xs.map (·.2.2)) (ys.map (·.2.2))
  | _, _, _, _, .nil, .nil => ⟨.nil, .nil⟩
  | _, _, _, _, .cons y a b r, .cons c t => by
    obtain ⟨h1, h2⟩ := vals_rel r t
    exact ⟨.cons b h1, .cons c.2.2 h2⟩
theorem keys_rel : ∀ {kvs : List (PV × PV)} {xs : List (NestedKey × Addr × V)} {ys : List (NestedKey × Addr × Value)} {K : KW}, RND K g H kvs xs → KA xs ys → Rps K g H (kvs.map (·.1)) (xs.map fun x => V.ref x.2.1) ∧ Vals (xs.map fun x => V.ref x.2.1) (ys.map fun y => Value.ref y.2.1)
  | _, _, _, _, .nil, .nil => ⟨.nil, .nil⟩
  | _, _, _, _, .cons y a b r, .cons c t => by
    obtain ⟨h1, h2⟩ := keys_rel r t
    refine ⟨.cons a h1, .cons ?_ h2⟩
    show _ = _
    rw [c.2.1]
end
section
variable {X : Cx} {Ξ : XC} {pos : Pos} {o e i : Expr} {fa fb fc : SE}
theorem op_tKIn2 (neg : Bool) (op : CmpOp) (hop : op = if neg then .NotIn else .In) (hu : X.A.units + 64 < cLine) : OpR X (compareOp op) (rd2 X.kw Ξ (oKIn2 neg)) := by
  intro pins s σ H x y v u Q I rx ry ⟨g, m, a, b, em, ra, rb, q⟩
  unfold oKIn2 at q
  split at q
  · rename_i n
    split at q
    · rename_i kvs hm
      split at q
      · rename_i hc
        simp only [Bool.and_eq_true] at hc
        obtain ⟨zs, rfl⟩ := isTup_inv hc.1
        obtain ⟨d, rfl, hd⟩ := rb.ref_inv
        obtain ⟨ka, _, rfl, _⟩ := ra.tup_inv
        cases rx; cases ry
        obtain ⟨s1, xs, ys, h3, s2, t1, dd⟩ := kx_at I em hm hd
        have fr := (find_rel hc.2 h3 t1).1
        cases neg with
        | false =>
          subst hop
          refine wpAny_in_heap (knd := nestedKind X.prog X.w) (kd_room hu) ⟨nk_is I 8 hc.2 ra rfl, nk_depth _ 8 hc.2⟩ s1 dd ?_
          rw [← fr]
          exact ⟨.bl _, H, I.tok _, rfl, QE.ret em (.bl _) q⟩
        | true =>
          subst hop
          refine notIn_keyed (knd := nestedKind X.prog X.w) (kd_room hu) ⟨nk_is I 8 hc.2 ra rfl, nk_depth _ 8 hc.2⟩ s1 ⟨ys, dd, rfl⟩ ?_
          rw [valueAt_pairsH, Option.isSome_map, ← fr]
          exact ⟨.bl _, H, I.tok _, rfl, QE.ret em (.bl _) q⟩
      · exact q.elim
    · exact q.elim
  · exact q.elim
theorem op_kin (hu : X.A.units + 64 < cLine) : OpR X (compareOp .In) (rd2 X.kw Ξ (oKIn2 false)) := op_tKIn2 false .In rfl hu
theorem op_knotin (hu : X.A.units + 64 < cLine) : OpR X (compareOp .NotIn) (rd2 X.kw Ξ (oKIn2 true)) := op_tKIn2 true .NotIn rfl hu
/-- d[k] -/
theorem se_kix (hu : X.A.units + 64 < cLine) (ho : PE X o (rdE X.kw Ξ fa)) (hi : PE X i (rdE X.kw Ξ fb)) (hs : NoSl i := by exact fun _ _ => rfl) : PE X (.Subscript o i pos) (rdE X.kw Ξ (e2 oKIx fa fb)) := by
  refine ⟨fun pins s σ H Q I h => ?_⟩
  obtain ⟨g, sl, m, em, sr, q⟩ := h
  refine subD_of PySem.F.slot_dict_getitem.lookup hs (thn (ho.run pins s σ H (fun x H1 => ∃ g1 m1 a, Emb X.kw g1 m1 H1 ∧ Sr X.kw g1 H1 sl σ ∧ Rp X.kw g1 H1 a x ∧ QE X.kw Ξ g1 H1 Q ((fb sl m1).bind fun (y, m2) => oKIx a y m2)) I ⟨g, sl, m, em, sr, QR.bind q fun p hp q1 g1 H1 V x1 e1 r1 => ⟨g1, p.2, p.1, e1, sr.ext em x1, r1, QE.later x1 q1⟩⟩) fun u s1 ⟨x, H1, I1, rx, g1, m1, a, e1, sr1, ra, q1⟩ => ?_)
  refine thn (hi.run pins s1 σ H1 (fun y H2 => ∃ g2 m2 b, Emb X.kw g2 m2 H2 ∧ Rp X.kw g2 H2 a x ∧ Rp X.kw g2 H2 b y ∧ QE X.kw Ξ g2 H2 Q (oKIx a b m2)) I1 ⟨g1, sl, m1, e1, sr1, QR.bind q1 fun p hp q2 g2 H2 V x2 e2 r2 => ⟨g2, p.2, p.1, e2, ra.ext e1 x2, r2, QE.later x2 q2⟩⟩) fun iv s2 ⟨y, H2, I2, ry, g2, m2, b, e2, ra2, rb, q2⟩ => ?_
  unfold oKIx at q2
  split at q2
  · rename_i n
    split at q2
    · rename_i kvs hm
      split at q2
      · rename_i hc
        simp only [Bool.and_eq_true] at hc
        split at q2
        · rename_i v hv
          obtain ⟨zs, rfl⟩ := isTup_inv hc.1
          obtain ⟨d, rfl, hd⟩ := ra2.ref_inv
          obtain ⟨ka, _, rfl, _⟩ := rb.tup_inv
          cases rx; cases ry
          obtain ⟨z1, xs, ys, h3, z2, t1, dd⟩ := kx_at I2 e2 hm hd
          obtain ⟨q0, w0, u0, f1, f2, f3⟩ := (find_rel hc.2 h3 t1).2 v hv
          refine ⟨dd.typeIs, getItem_keyed (knd := nestedKind X.prog X.w) (kd_room hu) ⟨nk_is I2 8 hc.2 rb rfl, nk_depth _ 8 hc.2⟩ ⟨ys, dd, rfl⟩ (v := u0) (by rw [valueAt_pairsH, f1]; rfl) ?_⟩
          exact ⟨w0, H2, I2.tok _, f3, QE.ret e2 f2 q2⟩
        · exact q2.elim
      · exact q2.elim
    · exact q2.elim
  · exact q2.elim
theorem dictOfH_none {P : Program} {w : World} {h : Heap} {a : Addr} {ys : List (NestedKey × Addr × Value)} (dd : h.DictOfH (nestedKind P w) a ys) : ∀ b, Value.ref a = .ref b → ∃ ob, h.get? b = some ob ∧ ob.dict = none := fun b q => by
  cases q
  obtain ⟨ob, _, _, h1, h2, _⟩ := dd
  exact ⟨ob, h1, h2.2.1⟩
/-- d.get(k, x) -/
theorem se_kget {apos cpos : Pos} (hu : X.A.units + 64 < cLine) (ho : PE X o (rdE X.kw Ξ fa)) (hi : PE X i (rdE X.kw Ξ fb)) (hx : PE X e (rdE X.kw Ξ fc)) (mm : M2 X o "get" apos i e cpos := by exact ⟨rfl, rfl, rfl, rfl⟩) : PE X (.Call (.Attribute o "get" apos) [i, e] [] cpos) (rdE X.kw Ξ (eKGetD fa fb fc)) := by
  refine ⟨fun pins s σ H Q I h => ?_⟩
  obtain ⟨g, sl, m, em, sr, q⟩ := h
  refine wpAny_Call_method mm.base mm.few mm.line PySem.F.plainAttrs_dict PySem.F.slot_dict_get PySem.F.type_dict_get (thn (ho.run pins s σ H (fun x H1 => ∃ g1 m1 n d kvs, Emb X.kw g1 m1 H1 ∧ Sr X.kw g1 H1 sl σ ∧ g1.φ n = some d ∧ x = .ref d ∧ kdOf m1 n = some kvs ∧ QE X.kw Ξ g1 H1 Q ((fb sl m1).bind fun (y, m2) => (fc sl m2).bind fun (z, m3) => (match kdOf m3 n with
      | some kvs => if isTup y && y.ky 8 then .ok ((kFind kvs y).getD z, m3) else .no
      | none => .no))) I ⟨g, sl, m, em, sr, QR.bind q fun p hp q1 g1 H1 V x1 e1 r1 => ?_⟩) fun u s1 ⟨x, H1, I1, rx, g1, m1, n, d, kvs1, e1, sr1, hd, ex, hk1, q1⟩ => ?_)
  · have q2 := QE.later x1 q1
    obtain ⟨v, m1⟩ := p
    cases v with
    | ref n =>
      obtain ⟨d, rfl, hd⟩ := r1.ref_inv
      simp only at q2
      split at q2
      · rename_i kvs hk
        exact ⟨g1, m1, n, d, kvs, e1, sr.ext em x1, hd, rfl, hk, q2⟩
      · exact q2.elim
    | _ => exact q2.elim
  subst ex
  obtain rfl : u = Value.ref d := rx
  obtain ⟨_, _, _, _, _, _, dd1⟩ := kx_at I1 e1 hk1 hd
  refine ⟨dd1.typeIs, dictOfH_none dd1, ?_⟩
  rw [mm.trees]
  refine Calls.callWith_builtin rfl (Calls.evalArgs_plain (Calls.spliced_cons (thn (hi.run pins s1 σ H1 (fun y H2 => ∃ g2 m2 b, Emb X.kw g2 m2 H2 ∧ Sr X.kw g2 H2 sl σ ∧ g2.φ n = some d ∧ Rp X.kw g2 H2 b y ∧ QE X.kw Ξ g2 H2 Q ((fc sl m2).bind fun (z, m3) => (match kdOf m3 n with
      | some kvs => if isTup b && b.ky 8 then .ok ((kFind kvs b).getD z, m3) else .no
      | none => .no))) I1 ⟨g1, sl, m1, e1, sr1, QR.bind q1 fun p hp q2 g2 H2 V x2 e2 r2 => ⟨g2, p.2, p.1, e2, sr1.ext e1 x2, x2.phi _ _ hd, r2, QE.later x2 q2⟩⟩) fun iv s2 ⟨y, H2, I2, ry, g2, m2, b, e2, sr2, hd2, rb, q2⟩ =>
    Calls.spliced_cons (thn (hx.run pins s2 σ H2 (fun z H3 => ∃ g3 m3 c, Emb X.kw g3 m3 H3 ∧ g3.φ n = some d ∧ Rp X.kw g3 H3 b y ∧ Rp X.kw g3 H3 c z ∧ QE X.kw Ξ g3 H3 Q (match kdOf m3 n with
      | some kvs => if isTup b && b.ky 8 then .ok ((kFind kvs b).getD c, m3) else .no
      | none => .no)) I2 ⟨g2, sl, m2, e2, sr2, QR.bind q2 fun p hp q3 g3 H3 V x3 e3 r3 => ⟨g3, p.2, p.1, e3, x3.phi _ _ hd2, rb.ext e2 x3, r3, QE.later x3 q3⟩⟩) fun fv s3 ⟨z, H3, I3, rz, g3, m3, c, e3, hd3, rb3, rc, q3⟩ => Calls.spliced_nil ?_))))
  split at q3
  · rename_i kvs hk3
    split at q3
    · rename_i hc
      simp only [Bool.and_eq_true] at hc
      obtain ⟨zs, rfl⟩ := isTup_inv hc.1
      obtain ⟨ka, _, rfl, _⟩ := rb3.tup_inv
      cases ry
      obtain ⟨z1, xs, ys, h3, z2, t1, dd⟩ := kx_at I3 e3 hk3 hd3
      refine getOr_keyed (knd := nestedKind X.prog X.w) (kd_room hu) ⟨nk_is I3 8 hc.2 rb3 rfl, nk_depth _ 8 hc.2⟩ z1 ⟨ys, dd, rfl⟩ ?_
      obtain ⟨fr, fi⟩ := find_rel hc.2 h3 t1
      rw [valueAt_pairsH]
      cases hf : kFind kvs (.tup zs) with
      | none =>
        have hh : kHas kvs (.tup zs) = false := by
          unfold kFind at hf
          unfold kHas
          simpa using hf
        rw [hh] at fr
        have : (atKey ys (nkOf (.tup zs))) = none := by
          cases ha : atKey ys (nkOf (.tup zs)) with
          | none => rfl
          | some v => rw [ha] at fr; cases fr
        rw [this]
        rw [hf] at q3
        exact ⟨z, H3, I3.tok _, rz, QE.ret e3 rc q3⟩
      | some v =>
        obtain ⟨q0, w0, u0, f1, f2, f3⟩ := fi v hf
        rw [f1]
        rw [hf] at q3
        exact ⟨w0, H3, I3.tok _, f3, QE.ret e3 f2 q3⟩
    · exact q3.elim
  · exact q3.elim
end
section
variable {X : Cx} {Ξ : XC} {f : SS} {sts : List Stmt}
/-- a dict is locked -/
theorem ss_lock (i : Nat) (h1 : PSs X sts (rdS X.kw Ξ f)) : PSs X sts (rdS X.kw Ξ (sSeq (sLock i) f)) := by
  refine ⟨fun pins s σ H D I h => ?_⟩
  obtain ⟨g, sl, m, em, sr, q⟩ := h
  simp only [sSeq, sLock] at q
  split at q
  · rename_i n hn
    split at q
    · rename_i kvs hm
      obtain ⟨w, hw, rw'⟩ := sr.at_ i _ hn
      obtain ⟨a, rfl, ha⟩ := rw'.ref_inv
      obtain ⟨a', vs, p1, p2, p3⟩ := em.obj _ _ hm
      rw [ha] at p1; cases p1
      obtain ⟨⟨z1, z2, ys, ka, o, es, ep, e1, e2, e3, e4, nd⟩, _⟩ := I.hok a _ p2
      obtain ⟨g', x, e', _⟩ := em.lock_kd o hm ha p3
      have ok : ObjOk X.prog X.w (upd H a (KDl X.w a o vs)) s.heap a (KDl X.w a o vs) :=
        ⟨⟨e1, z1, z2, e2, ys, ka, es, ep, e3, e4, nd⟩, ⟨o, e1⟩, fun t1 t2 ⟨y1, y2, y3, y4, y5⟩ st => ⟨st _ y1, y2, y3, y4, y5⟩⟩
      have J := I.write (x := a) (e := a) (h' := s.heap) (o := KDl X.w a o vs) (t' := s.toks) (by rw [p2]; trivial) (.inl rfl) (fun b u hb z => z) ⟨o, e1⟩ ok
      exact h1.run pins s σ _ D J ⟨g', sl, _, e', sr.ext em x, QS.later x q⟩
    · exact q.elim
  · exact q.elim
end
/-! ### over the keys -/
/-- the keys of a locked dict, one after another -/
def ItKl (w : World) (d : Addr) (o : Obj) (xs : List (NestedKey × Addr × V)) : It :=
  ⟨fun i H => H d = some (KDl w d o xs) ∧ i < xs.length, fun i H x H' => H' = H ∧ ∃ y, xs[i]? = some y ∧ x = .ref y.2.1, fun i H => H d = some (KDl w d o xs) ∧ xs.length ≤ i⟩
theorem ka_get : ∀ {xs : List (NestedKey × Addr × V)} {ys : List (NestedKey × Addr × Value)}, KA xs ys → ∀ {i : Nat} {x : NestedKey × Addr × V}, xs[i]? = some x → ∃ y, ys[i]? = some y ∧ y.2.1 = x.2.1
  | _, _, .nil, _, _, h => by simp at h
  | _, _, .cons c t, 0, x, h => by simp at h; subst h; exact ⟨_, rfl, c.2.1.symm⟩
  | _, _, .cons c t, i + 1, x, h => by
    obtain ⟨y, h1, h2⟩ := ka_get t (i := i) (x := x) (by simpa using h)
    exact ⟨y, by simpa using h1, h2⟩
section
variable {P : Program} {w : World} {K : PySem.W.Frag} {tg : Expr}
theorem kdl_raw {X : Cx} {pins : List (Addr × Obj)} {σ : L2.St} {H : Hp} {s : Shared} {d : Addr} {o : Obj} {xs : List (NestedKey × Addr × V)} {es : Array DictEntry} {ep : Nat} (I : Inv X pins σ H s) (h : H d = some (KDl X.w d o xs)) (hod : o.data = .dict es ep) :
    s.heap.get? d = some o ∧ es.size = xs.length ∧ ∀ (i : Nat) (x : NestedKey × Addr × V), xs[i]? = some x → ∃ en : DictEntry, es[i]? = some en ∧ en.key = Value.ref x.2.1 := by
  obtain ⟨⟨h1, h2, h3, h4, ys, ka, es', ep', e3, e4, nd⟩, _⟩ := I.hok d _ h
  obtain ⟨rfl, rfl⟩ := L2.dict_ep hod e3
  have hl : es'.size = ys.length := by
    rw [← Array.length_toList, e4, List.length_map]
  refine ⟨h1, by rw [hl, Paired.length ka], fun i x hx => ?_⟩
  obtain ⟨y, hy, hq⟩ := ka_get ka hx
  refine ⟨⟨y.1.hash X.w, .ref y.2.1, y.2.2⟩, ?_, ?_⟩
  · rw [← Array.getElem?_toList, e4, List.getElem?_map, hy]; rfl
  · show Value.ref y.2.1 = _
    rw [hq]
theorem turn_kl {o : Obj} {es : Array DictEntry} {ep : Nat} {d : Addr} {xs : List (NestedKey × Addr × V)} (t : Addr) (hod : o.data = .dict es ep) : Turn P w K tg (ItKl w d o xs) [t] t (fun i h => h.IsKeyIter t d i xs.length ep) where
  mem := List.mem_singleton.mpr rfl
  obj := fun i h st b hb => by
    cases List.mem_singleton.mp hb
    obtain ⟨oi, y1, y2, y3⟩ := st
    exact ⟨oi, y1, fun v z => by rw [y3] at z; cases z⟩
  keep := fun i h h' st k => st.at fun oi y => k t (List.mem_singleton.mpr rfl) oi y
  item := by
    intro X hP hw hK hcalm i pins s σ H E I hfp st hgo
    subst hP hw hK
    obtain ⟨f0, f1, f2, f3, f4, f5⟩ := hfp t (List.mem_singleton.mpr rfl)
    obtain ⟨r1, r2, r3⟩ := kdl_raw I hgo.1 hod
    obtain ⟨en, hen, hkey⟩ := r3 i _ (List.getElem?_eq_getElem hgo.2)
    refine L2.next_key_item st r1 hod r2 hen fun h' st' sb => ?_
    have J : Inv X pins σ H { s with heap := h' } := I.turned (t' := s.toks) (fun b ob hb y => (sb.2 b hb).trans y) f0 f1 f3 f4 f5
    obtain ⟨oi, y1, y2, y3⟩ := id st'
    exact ⟨en.key, rfl, go_of (s := { s with heap := h' }) y1 y2 y3 (by decide) ⟨.ref (xs[i]'hgo.2).2.1, H, J, hkey, ⟨rfl, _, List.getElem?_eq_getElem hgo.2, rfl⟩, st', fun b hb => (hfp b hb).1⟩⟩
  done := by
    intro X hP hw hK hcalm i pins s σ H E I hfp st hgo
    subst hP hw hK
    obtain ⟨f0, f1, f2, f3, f4, f5⟩ := hfp t (List.mem_singleton.mpr rfl)
    obtain ⟨r1, r2, r3⟩ := kdl_raw I hgo.1 hod
    exact L2.next_key_end (I.ok.hd hcalm) st r1 hod r2 hgo.2 fun h' eb => ⟨rfl, I.turned (t' := s.toks) (fun b ob hb y => eb b ob hb y) f0 f1 f3 f4 f5⟩
  self := fun A i s Q E st h => wpAny_pyIter_keyiter st h
end
section
variable {X : Cx} {Ξ : XC} {tg e : Expr} {fa : SE}
theorem rnd_get {K : KW} {g : Gh} {H : Hp} : ∀ {kvs : List (PV × PV)} {xs : List (NestedKey × Addr × V)}, RND K g H kvs xs → ∀ {i : Nat} {y : NestedKey × Addr × V}, xs[i]? = some y → ∃ k, (kvs.map (·.1))[i]? = some k ∧ Rp K g H k (.ref y.2.1)
  | _, _, .nil, _, _, h => by simp at h
  | _, _, .cons a b c r, 0, y, h => by simp at h; subst h; exact ⟨_, rfl, b⟩
  | _, _, .cons a b c r, i + 1, y, h => by
    obtain ⟨k, h1, h2⟩ := rnd_get r (i := i) (y := y) (by simpa using h)
    exact ⟨k, by simpa using h1, h2⟩
theorem wk_kl {K : KW} {g : Gh} {H : Hp} {kvs : List (PV × PV)} {xs : List (NestedKey × Addr × V)} {d : Addr} {o : Obj} {m : Mm} (em : Emb K g m H) (hd : g.ro d = some (KDl K.w d o xs)) (r : RND K g H kvs xs) : Wk K g H (kvs.map (·.1)) (ItKl K.w d o xs) := by
  refine ⟨fun g' m' H' i x' e' hi => ?_, fun g' m' H' i x' e' hi => ?_⟩
  · rw [List.length_map, r.length] at hi
    refine ⟨⟨(e'.ro _ _ (x'.ro _ _ hd)).1, hi⟩, fun x H2 ⟨e2, y, hy, hx⟩ => ?_⟩
    subst e2 hx
    obtain ⟨k, hk, rk⟩ := rnd_get (r.ext em x') hy
    exact ⟨g', k, Ext.refl _ _, e', hk, rk⟩
  · rw [List.length_map, r.length] at hi
    exact ⟨(e'.ro _ _ (x'.ro _ _ hd)).1, hi⟩
/-- for k in d, locked -/
theorem si_kl (h : PE X e (rdE X.kw Ξ fa)) : PI X tg e (rdI X.kw Ξ (iKl fa)) := by
  refine ⟨fun pins s σ H R I ⟨g, sl, m, em, sr, q⟩ => ?_⟩
  refine thn (h.run pins s σ H (fun x H1 => ∃ g1 m1 n d kvs, Emb X.kw g1 m1 H1 ∧ x = .ref d ∧ g1.φ n = some d ∧ m1[n]? = some (.kl kvs) ∧ QR X.kw Ξ g1 H1 (fun (p : List PV × Mm) => ∀ g' H' J, Ext g1 H1 g' H' → Emb X.kw g' p.2 H' → Wk X.kw g' H' p.1 J → R J H') (.ok (kvs.map (·.1), m1))) I ⟨g, sl, m, em, sr, QR.bind q fun p hp q1 g1 H1 V x1 e1 r1 => ?_⟩) fun v s1 ⟨x, H1, I1, rx, g1, m1, n, d, kvs, e1, ex, hd, hm, q1⟩ => ?_
  · have q2 : QR X.kw Ξ g1 H1 (fun (p : List PV × Mm) => ∀ g' H' J, Ext g1 H1 g' H' → Emb X.kw g' p.2 H' → Wk X.kw g' H' p.1 J → R J H') _ := QR.later x1 q1 fun _ z g' H' J x => z g' H' J (x1.trans x)
    obtain ⟨v, m1⟩ := p
    cases v with
    | ref n =>
      obtain ⟨d, rfl, hd⟩ := r1.ref_inv
      simp only at q2
      split at q2
      · rename_i kvs hk
        exact ⟨g1, m1, n, d, kvs, e1, rfl, hd, hk, q2⟩
      · exact q2.elim
    | _ => exact q2.elim
  subst ex
  obtain rfl : v = Value.ref d := rx
  obtain ⟨a', o, xs, p1, p2, p3⟩ := e1.obj _ _ hm
  rw [hd] at p1; cases p1
  obtain ⟨z1, z2, z3, z4, ys, ka, dd, es, ep, hod, hes⟩ := kdl_at I1 (e1.ro _ _ p2).1 p3
  have hsz : es.size = xs.length := by
    rw [← Array.length_toList, hes, List.length_map]; exact (Paired.length ka).symm
  refine L2.iter_keys z1 z3 z4 hod (L2.pi_one (tk := s1.toks) I1 _ (turn_kl _ hod) ⟨_, Heap.get?_push_size _ rfl, rfl, ?_⟩ (q1 g1 H1 _ (Ext.refl _ _) e1 (wk_kl e1 p2 p3)))
  rw [hsz] <;> rfl
end
end TT
end

section
set_option Elab.async false
set_option linter.all false
set_option autoImplicit false
set_option maxRecDepth 100000
/-! TT: list(d.values()), list(d), sum; lists made by + and list() as objects; get and in of dicts of whole numbers -/
namespace TT
open PySem PySem.Spec PyProof.Rows L2
def viewO (p d : Addr) : HO := .ext fun h => h.IsValuesView p d
theorem viewO_ok {P : Program} {w : World} {H : Hp} {h : Heap} {p d : Addr} (e : h.get? p = some { cls := .type "dict_values", data := .fields #[.ref d] }) : ObjOk P w H h p (viewO p d) :=
  ⟨⟨_, e, rfl, rfl⟩, ⟨_, e⟩, fun t1 t2 ⟨ov, y1, y2⟩ st => ⟨ov, st _ y1, y2⟩⟩
theorem acc_list {α : Type} {F : DictEntry → Value} {G : α → Value} {mk : α → DictEntry} (hFG : ∀ y, F (mk y) = G y) {es : Array DictEntry} {ys : List α} (hes : es.toList = ys.map mk) {acc : Array Value} (h : ItemsOf (fun i v => ∃ hi : i < es.size, v = F es[i]) acc es.size) : acc.toList = ys.map G := by
  obtain ⟨h1, h2⟩ := h
  have hl : es.size = ys.length := by rw [← Array.length_toList, hes, List.length_map]
  refine List.ext_getElem (by rw [Array.length_toList, h1, hl, List.length_map]) fun i p1 p2 => ?_
  have p3 : i < acc.size := by simpa using p1
  obtain ⟨hi, hv⟩ := h2 i acc[i] (Array.getElem?_eq_getElem p3)
  have p4 : i < ys.length := by rw [← hl]; exact hi
  have e1 : es[i] = mk ys[i] := by
    have : es.toList[i]? = some (mk ys[i]) := by rw [hes, List.getElem?_map, List.getElem?_eq_getElem p4]; rfl
    rw [Array.getElem?_toList, Array.getElem?_eq_getElem hi] at this
    exact Option.some.inj this
  rw [Array.getElem_toList, hv, e1, hFG, List.getElem_map]
section
variable {X : Cx} {Ξ : XC} {pos : Pos} {o e i a b : Expr} {fa fb fc : SE}
def rVals (K : KW) (f : PV × PV → PV) (hd : Hp → Addr → Addr → Prop) : List V → Hp → VK → Prop := fun xs H Q => ∃ v d g m n kvs, xs = [.ref v] ∧ hd H v d ∧ Emb K g m H ∧ g.φ n = some d ∧ kdOf m n = some kvs ∧ kvs.length ≤ LINE ∧ ∀ p vs, H p = none → Rps K g H (kvs.map f) vs → Q (.ref p) (upd H p (.lst vs))
theorem cr_kvals (hc : X.calm = true) : CallR X (.type "list") (rVals X.kw (·.2) fun H v d => H v = some (viewO v d)) := by
  intro pins s σ H xs us Q I r ⟨v, d, g, m, n, kvs, ex, hv, em, hd, hk, hl, q⟩
  subst ex
  cases r with
  | cons r rr =>
    cases rr
    cases r
    obtain ⟨z1, xs, ys, h3, z2, t1, dd⟩ := kx_at I em hk hd
    obtain ⟨es, ep, raw, hes⟩ := raw_of dd
    have hw : s.heap.IsValuesView v d := (I.hok v _ hv).1
    have hsz : es.size = kvs.length := by rw [← Array.length_toList, hes, List.length_map, h3.length]; exact (Paired.length t1).symm
    refine PySem.W.kdl_call (KdlSrc.rawValues (ep := ep)) (I.ok.hd hc) ⟨hw, raw⟩ (by rw [hsz]; exact line_le hl) fun h' tk acc' c' kp e acc => ?_
    obtain ⟨r1, r2⟩ := vals_rel h3 t1
    have hacc := acc_list (F := fun e => e.val) (G := fun y : NestedKey × Addr × Value => y.2.2) (fun _ => rfl) hes acc
    refine ⟨.ref s.heap.objs.size, _, I.laid (t' := tk) kp (Nat.le_refl _) (show ObjOk X.prog X.w _ h' _ (.lst (xs.map (·.2.2))) from ⟨?_, acc'.toList, c', by rw [hacc]; exact r2, by simpa using e⟩), rfl, q _ _ (I.hok.fresh (Nat.le_refl _)) r1⟩
    rw [List.length_map]; exact z2
theorem cr_kkeys (hc : X.calm = true) : CallR X (.type "list") (rVals X.kw (·.1) fun H v d => v = d) := by
  intro pins s σ H xs us Q I r ⟨v, d, g, m, n, kvs, ex, hv, em, hd, hk, hl, q⟩
  subst ex
  subst hv
  cases r with
  | cons r rr =>
    cases rr
    cases r
    obtain ⟨z1, xs, ys, h3, z2, t1, dd⟩ := kx_at I em hk hd
    obtain ⟨es, ep, raw, hes⟩ := raw_of dd
    have hsz : es.size = kvs.length := by rw [← Array.length_toList, hes, List.length_map, h3.length]; exact (Paired.length t1).symm
    refine PySem.W.kdl_call (KdlSrc.rawDict (ep := ep) z1) (I.ok.hd hc) raw (by rw [hsz]; exact line_le hl) fun h' tk acc' c' kp e acc => ?_
    obtain ⟨r1, r2⟩ := keys_rel h3 t1
    have hacc := acc_list (F := fun e => e.key) (G := fun y : NestedKey × Addr × Value => Value.ref y.2.1) (fun _ => rfl) hes acc
    refine ⟨.ref s.heap.objs.size, _, I.laid (t' := tk) kp (Nat.le_refl _) (show ObjOk X.prog X.w _ h' _ (.lst (xs.map fun x => V.ref x.2.1)) from ⟨?_, acc'.toList, c', by rw [hacc]; exact r2, by simpa using e⟩), rfl, q _ _ (I.hok.fresh (Nat.le_refl _)) r1⟩
    rw [List.length_map]; exact z2
def tDc (K : KW) (Ξ : XC) (fd : SE) (k : Addr → Gh → Mm → Hp → (V → Hp → Prop) → Nat → List (PV × PV) → Prop) : TE := fun σ H Q => ∃ g s m, Emb K g m H ∧ Sr K g H s σ ∧ QR K Ξ g H (fun (p : PV × Mm) => ∃ n kvs, p.1 = .ref n ∧ kdOf p.2 n = some kvs ∧ ∀ g' H' d, Ext g H g' H' → Emb K g' p.2 H' → g'.φ n = some d → k d g' p.2 H' Q n kvs) (fd s m)
theorem tDc_of {fd : SE} {σ : L2.St} {H : Hp} {Q Q' : VK} {F : PV × PV → PV} {K : KW} {k : Addr → Gh → Mm → Hp → (V → Hp → Prop) → Nat → List (PV × PV) → Prop} (q : rdE K Ξ (fun s m => (fd s m).bind fun (d, m1) => match d with
  | .ref n => (match kdOf m1 n with
    | some kvs => if kvs.length ≤ LINE then .ok (.vl (kvs.map F), m1) else .no
    | none => .no)
  | _ => .no) σ H Q) (hk : ∀ g' m' H' d n kvs, kdOf m' n = some kvs → kvs.length ≤ LINE → Emb K g' m' H' → g'.φ n = some d → QE K Ξ g' H' Q (.ok (.vl (kvs.map F), m')) → k d g' m' H' Q' n kvs) : tDc K Ξ fd k σ H Q' := by
  obtain ⟨g, s, m, em, sr, q⟩ := q
  refine ⟨g, s, m, em, sr, QR.bind q fun p hp q1 => ?_⟩
  obtain ⟨v, m1⟩ := p
  cases v with
  | ref n =>
    simp only at q1
    split at q1
    · rename_i kvs hkd
      split at q1
      · rename_i hl
        exact ⟨n, kvs, rfl, hkd, fun g' H' d x' e' hd => hk _ _ _ _ _ _ hkd hl e' hd (QE.later x' q1)⟩
      · exact q1.elim
    · exact q1.elim
  | _ => exact q1.elim
theorem pe_dc {fd : SE} (h : PE X e (rdE X.kw Ξ fd)) : PE X e (tDc X.kw Ξ fd fun d g m H Q n kvs => Q (.ref d) H) :=
  PE_imp h fun σ H Q ⟨g, s, m, em, sr, q⟩ => ⟨g, s, m, em, sr, QR.imp q fun p hp ⟨n, kvs, hn, hk, q1⟩ g' H' V x' e' r' => by
    rw [hn] at r'
    obtain ⟨d, rfl, hd⟩ := r'.ref_inv
    exact q1 g' H' d x' e' hd⟩
theorem pe_kvalues {fd : SE} {apos cpos : Pos} (h : PE X e (rdE X.kw Ξ fd)) (hbase : attributeBase e "values" X.env (eval e X.env) = eval e X.env := by rfl) (hline : (apos.endLine == cpos.line) = true := by rfl) :
    PE X (.Call (.Attribute e "values" apos) [] [] cpos) (tDc X.kw Ξ fd fun d g m H Q n kvs => ∀ v, H v = none → Q (.ref v) (upd H v (viewO v d))) := by
  refine ⟨fun pins s σ H Q I q => ?_⟩
  refine wpAny_Call_method (T := "dict") (id := "dict.values") hbase rfl hline F.plainAttrs_dict F.slot_dict_values F.type_dict_values (thn (h.run pins s σ H (fun x H1 => ∃ g m n kvs d, x = .ref d ∧ Emb X.kw g m H1 ∧ g.φ n = some d ∧ kdOf m n = some kvs ∧ ∀ v, H1 v = none → Q (.ref v) (upd H1 v (viewO v d))) I ?_) fun u s1 ⟨x, H1, I1, rx, g, m, n, kvs, d, ex, em, hd, hk, q1⟩ => ?_)
  · obtain ⟨g, s, m, em, sr, q⟩ := q
    refine ⟨g, s, m, em, sr, QR.imp q fun p hp ⟨n, kvs, hn, hk, q1⟩ g' H' V x' e' r' => ?_⟩
    rw [hn] at r'
    obtain ⟨d, rfl, hd⟩ := r'.ref_inv
    exact ⟨g', p.2, n, kvs, d, rfl, e', hd, hk, q1 g' H' d x' e' hd⟩
  subst ex
  obtain rfl : u = Value.ref d := rx
  obtain ⟨z1, xs, ys, h3, z2, t1, dd⟩ := kx_at I1 em hk hd
  obtain ⟨es, ep, raw, hes⟩ := raw_of dd
  refine ⟨dd.typeIs, dictOfH_none dd, ?_⟩
  show wpAny _ _ (callWith cpos (.builtin "dict.values") [.ref d] [] []) _ X.xe s1
  have keep : ∀ b u, s1.heap.get? b = some u → (s1.heap.push { cls := .type "dict_values", data := .fields #[.ref d] }).get? b = some u := fun b u z => Heap.get?_push_of_some _ z
  exact method_meetsIn F.slot_dict_values F.entry_dict_values rfl (PySem.evalArgs_none ⟨rfl, dd.typeIs, F.args_dict_values_1 _, _, meets_dict_values_raw d z1, ⟨es, ep, raw⟩, ⟨.ref s1.heap.objs.size, _, I1.laid (t' := s1.toks) keep (Nat.le_refl _) (viewO_ok (Heap.get?_push_size _ rfl)), rfl, q1 _ (I1.hok.fresh (Nat.le_refl _))⟩⟩)
/-- list(d.values()) -/
theorem se_kvals {x : Str} {p apos cpos : Pos} {fd : SE} (hc : X.calm = true) (hg : Gl X x) (hm : X.mg x = none) (hv : bootBuiltins x = some (.type "list")) (h : PE X e (rdE X.kw Ξ fd)) (hbase : attributeBase e "values" X.env (eval e X.env) = eval e X.env := by rfl) (hline : (apos.endLine == cpos.line) = true := by rfl) (hn : x ≠ "__name__" := by decide) (hdb : (x == ("__debug__" : Str)) = false := by decide)
    (he : starEach [.Call (.Attribute e "values" apos) [] [] cpos] X.env = (false, eval (.Call (.Attribute e "values" apos) [] [] cpos) X.env) :: starEach [] X.env := by rfl) (hpl : (backTo pos (starEach [] X.env)).any (·.1) = false := by rfl) : PE X (.Call (.Name x p) [.Call (.Attribute e "values" apos) [] [] cpos] [] pos) (rdE X.kw Ξ (eKVals fd)) :=
  PE_imp (pe_callTy (cr_kvals hc) hg hm hv (pa_cons (pe_kvalues h hbase hline) pa_nil he) hn hdb he hpl) fun σ H Q q => by
    show tDc X.kw Ξ fd (fun d g m H Q n kvs => ∀ v, H v = none → Q (.ref v) (upd H v (viewO v d))) σ H (fun x H1 => rVals X.kw (·.2) (fun H v d => H v = some (viewO v d)) [x] H1 Q)
    refine tDc_of (k := fun d g m H Q n kvs => ∀ v, H v = none → Q (.ref v) (upd H v (viewO v d))) q fun g m H1 d n kvs hk hl em hd q1 v hv => ?_
    obtain ⟨e0, tr⟩ := em.other (D := v) (o := viewO v d) (em.free hv) (em.freeR hv) (fun xs z => by
      rcases z with z | ⟨o, z⟩ <;> rw [hv] at z <;> cases z) (tabs_new em.tab hv)
    refine ⟨v, d, g, m, n, kvs, rfl, upd_same, e0, hd, hk, hl, fun p vs hp r => ?_⟩
    have x0 : Ext g H1 g (upd H1 v (viewO v d)) := Ext.newTup hv fun ⟨n, z⟩ => em.free hv n z
    exact QE.newL e0 r (QE.later x0 q1) hp
/-- list(d) -/
theorem se_kkeys {x : Str} {p : Pos} {fd : SE} (hc : X.calm = true) (hg : Gl X x) (hm : X.mg x = none) (hv : bootBuiltins x = some (.type "list")) (h : PE X e (rdE X.kw Ξ fd)) (hn : x ≠ "__name__" := by decide) (hdb : (x == ("__debug__" : Str)) = false := by decide)
    (he : starEach [e] X.env = (false, eval e X.env) :: starEach [] X.env := by rfl) (hpl : (backTo pos (starEach [] X.env)).any (·.1) = false := by rfl) : PE X (.Call (.Name x p) [e] [] pos) (rdE X.kw Ξ (eKKeys fd)) :=
  PE_imp (pe_callTy (cr_kkeys hc) hg hm hv (pa_cons (pe_dc h) pa_nil he) hn hdb he hpl) fun σ H Q q => by
    show tDc X.kw Ξ fd (fun d g m H Q n kvs => Q (V.ref d) H) σ H (fun x H1 => rVals X.kw (·.1) (fun H v d => v = d) [x] H1 Q)
    refine tDc_of (k := fun d g m H Q n kvs => Q (V.ref d) H) q fun g m H1 d n kvs hk hl em hd q1 => ?_
    exact ⟨d, d, g, m, n, kvs, rfl, rfl, em, hd, hk, hl, fun p vs hp r => QE.newL em r q1 hp⟩
/-- x + y, an object of its own -/
theorem op_tAddM : OpR X (binaryOp .Add) (rd2 X.kw Ξ oAddM) := by
  refine OpR_imp (op_cat (X := X)) fun x y H Q ⟨g, m, a, b, e, ra, rb, q⟩ => ?_
  unfold oAddM at q
  split at q
  · rename_i xs ys h1 h2
    obtain ⟨a1, vs, rfl, ha, r1⟩ := e.look ra h1
    obtain ⟨b1, ws, rfl, hb, r2⟩ := e.look rb h2
    split at q
    · rename_i hl
      exact ⟨a1, b1, vs, ws, rfl, rfl, ha, hb, by rw [← r1.length, ← r2.length]; exact line_le hl, fun p hp => QE.newM e (r1.append r2) q hp⟩
    · exact q.elim
  · exact q.elim
theorem call_tListM : CallR X (.type "list") (rdN X.kw Ξ fListM) := by
  refine CallR_imp call_list_of fun xs H Q ⟨g, m, as, e, ra, q⟩ => ?_
  unfold fListM at q
  split at q
  · rename_i a
    cases ra with
    | cons r1 r2 =>
      cases r2
      split at q
      · rename_i ys h1
        obtain ⟨a1, vs, rfl, ha, r1'⟩ := e.look r1 h1
        exact ⟨a1, vs, rfl, .inl (SqL.of ha), fun p hp => QE.newM e r1' q hp⟩
      · rename_i ys h1
        rw [look1_tup h1] at r1
        obtain ⟨a1, vs, rfl, ha, r1'⟩ := r1.tup_inv
        exact ⟨a1, vs, rfl, .inr ha, fun p hp => QE.newM e r1' q hp⟩
      · exact q.elim
  · exact q.elim
theorem intsOf_rel {K : KW} {g : Gh} {H : Hp} : ∀ {xs : List PV} {vs : List V} {is : List Int}, intsOf xs = some is → Rps K g H xs vs → vs = is.map V.int
  | [], _, is, h, .nil => by simp only [intsOf] at h; cases h; rfl
  | x :: xs, _, is, h, .cons r rr => by
    cases x with
    | int i =>
      simp only [intsOf] at h
      cases hi : intsOf xs with
      | none => rw [hi] at h; cases h
      | some js =>
        rw [hi] at h
        simp only [Option.map_some, Option.some.injEq] at h
        subst h
        cases r.int_inv
        rw [intsOf_rel hi rr]; rfl
    | _ => simp only [intsOf] at h; cases h
theorem call_tSum (hc : X.calm = true) : CallR X (.builtin "sum") (rdN X.kw Ξ fSum) := by
  refine CallR_imp (cr_sum hc) fun xs H Q ⟨g, m, as, e, ra, q⟩ => ?_
  unfold fSum at q
  split at q
  · rename_i a
    cases ra with
    | cons r1 r2 =>
      cases r2
      split at q
      · rename_i ys h1
        obtain ⟨a1, vs, rfl, ha, r1'⟩ := e.look r1 h1
        split at q
        · rename_i is hi
          cases intsOf_rel hi r1'
          exact ⟨a1, is, rfl, SqL.of ha, QE.ret e (.int _) q⟩
        · exact q.elim
      · exact q.elim
  · exact q.elim
end
end TT
end

section
set_option Elab.async false
set_option linter.all false
set_option autoImplicit false
set_option maxRecDepth 100000
/-! TT: comprehensions with two fors -/
namespace TT
open PySem PySem.Spec PyProof.Rows L2
section
variable {K : KW} {Ξ : XC}
/-- the list of a comprehension, done: it is a value now -/
theorem lc_done {g1 g2 : Gh} {H1 H2 : Hp} {m2 : Mm} {D : Addr} {Q : VK} {acc : List PV} {ws : List V} (hD : H1 D = none) (x2 : Ext g1 H1 g2 H2) (e2 : Emb K g2 m2 H2) (hD2 : H2 D = some (.lst ws)) (ra : Rps K g2 H2 acc ws) (f1 : ∀ n, g2.φ n ≠ some D) (f2 : g2.ro D = none) (q3 : QE K Ξ g1 H1 Q (.ok (.vl acc, m2))) : Q (.ref D) H2 := by
  have hro : ∀ a u, g2.ro a = some u → (g2.addR D (.lst ws)).ro a = some u := fun a u h => by
    have : a ≠ D := fun z => by subst z; rw [f2] at h; cases h
    show upd g2.ro D _ a = some u
    rw [upd_ne this]; exact h
  have x3 : Ext g1 H1 (g2.addR D (.lst ws)) H2 := ⟨x2.phi, fun a u h => hro a u (x2.ro a u h), x2.fr, x2.old, fun a u h hn ht hr => by
    show upd g2.ro D _ a = none
    rw [upd_ne (ne_of_none h hD)]
    exact x2.oldr a u h hn ht hr, x2.T⟩
  have e3 : Emb K (g2.addR D (.lst ws)) m2 H2 := by
    refine ⟨fun n ob h => ?_, e2.dom, e2.inj, fun a u h => ?_, nt_addR e2.nt, e2.tab⟩
    · have q := e2.obj n ob h
      cases ob with
      | lst ys =>
        obtain ⟨a, us, q1, q2, q3⟩ := q
        exact ⟨a, us, q1, q2, Rps.mono (g := g2) (g' := g2.addR D (.lst ws)) (fun _ _ h => h) hro (fun _ _ h => h) q3⟩
      | dict ys =>
        obtain ⟨a, us, q1, q2, q3⟩ := q
        exact ⟨a, us, q1, q2, RKs.imp (g' := g2.addR D (.lst ws)) (fun r => Rp.mono (g := g2) (g' := g2.addR D (.lst ws)) (fun _ _ h => h) hro (fun _ _ h => h) r) q3⟩
      | ins cN ys =>
        obtain ⟨a, cC, cD, us, q1, cM, q2, q3⟩ := q
        exact ⟨a, cC, cD, us, q1, cM, q2, RFs.imp (g' := g2.addR D (.lst ws)) (fun r => Rp.mono (g := g2) (g' := g2.addR D (.lst ws)) (fun _ _ h => h) hro (fun _ _ h => h) r) q3⟩
      | dl ys =>
        obtain ⟨a, o, us, q1, q2, q3⟩ := q
        exact ⟨a, o, us, q1, hro _ _ q2, RKs.imp (g' := g2.addR D (.lst ws)) (fun r => Rp.mono (g := g2) (g' := g2.addR D (.lst ws)) (fun _ _ h => h) hro (fun _ _ h => h) r) q3⟩
      | kd ys =>
        obtain ⟨a, us, q1, q2, q3⟩ := q
        exact ⟨a, us, q1, q2, RND.imp (g' := g2.addR D (.lst ws)) (fun r => Rp.mono (g := g2) (g' := g2.addR D (.lst ws)) (fun _ _ h => h) hro (fun _ _ h => h) r) q3⟩
      | kl ys =>
        obtain ⟨a, o, us, q1, q2, q3⟩ := q
        exact ⟨a, o, us, q1, hro _ _ q2, RND.imp (g' := g2.addR D (.lst ws)) (fun r => Rp.mono (g := g2) (g' := g2.addR D (.lst ws)) (fun _ _ h => h) hro (fun _ _ h => h) r) q3⟩
      | dead => trivial
      | tab P l => exact q
    · have h' : upd g2.ro D (.lst ws) a = some u := h
      by_cases ha : a = D
      · subst ha
        rw [upd_same] at h'; cases h'
        exact ⟨hD2, fun n hn => (f1 n hn).elim⟩
      · rw [upd_ne ha] at h'
        exact e2.ro a u h'
  exact q3 _ _ _ x3 e3 (.vl upd_same (Rps.mono (g := g2) (g' := g2.addR D (.lst ws)) (fun _ _ h => h) hro (fun _ _ h => h) ra))
theorem reb {α β γ : Type} (r : Rs α) (k : α → Rs β) (l : β → Rs γ) : (r.bind k).bind l = r.bind fun a => (k a).bind l := by cases r <;> rfl
theorem rd_lc2 {own vs1 : List Nat} {it : SI} {fg fg1 : SG} {ft ft1 : ST} {fq fe : SE} {tg tg1 : TG} {σ : L2.St} {H : Hp} {Q : VK}
    (hw : ∀ (v : V) (σ : L2.St) (H : Hp) (Q : L2.St → Hp → Prop), rdG K X0 fg v (L2.wipe σ own) H Q → tg v (L2.wipe σ own) H fun (σ2 : L2.St) H2 => L2.wipe σ2 own = L2.wipe σ own ∧ Q σ2 H2)
    (hw1 : ∀ (v : V) (σ : L2.St) (H : Hp) (Q : L2.St → Hp → Prop), rdG K X0 fg1 v (L2.wipe σ vs1) H Q → tg1 v (L2.wipe σ vs1) H fun (σ2 : L2.St) H2 => L2.wipe σ2 vs1 = L2.wipe σ vs1 ∧ Q σ2 H2)
    (h : rdE K Ξ (eLc2 own vs1 it fg ft (iT fq) fg1 ft1 fe) σ H Q) : tLc2 (rdI K Ξ it) tg (rdT K X0 ft) (L2.iTup K (rdE K X0 fq)) tg1 (rdT K X0 ft1) (rdE K X0 fe) own vs1 σ H Q := by
  obtain ⟨g, s, m, em, sr, q⟩ := h
  refine ⟨g, s, m, em, sr, QR.bind q fun p hp q1 g1 H1 J x1 e1 wk => ?_⟩
  obtain ⟨xs, m1⟩ := p
  intro D hD
  have q1' : QE K Ξ g1 H1 Q ((lc2L fg ft (iT fq) vs1 fg1 ft1 fe (TT.wipe s own) xs m1 []).bind fun p => Rs.ok (PV.vl p.1, p.2)) := QE.later x1 q1
  have e0 := e1.other (o := .lst []) (fun n => e1.free hD n) (e1.freeR hD) (fun xs h => by rcases h with h | ⟨ob, h⟩ <;> rw [hD] at h <;> cases h) (tabs_new e1.tab hD)
  have nL : ∀ {zs : List V}, NT (.lst zs) := fun ps z => nomatch z
  refine ⟨fun i n H => ∃ g m acc ws, Ext g1 H1 g H ∧ Emb K g m H ∧ Sr K g H (TT.wipe s own) (L2.wipe σ own) ∧ H D = some (.lst ws) ∧ Rps K g H acc ws ∧ (∀ n, g.φ n ≠ some D) ∧ g.ro D = none ∧ n = xs.length - i ∧
      QE K Ξ g1 H1 Q ((lc2L fg ft (iT fq) vs1 fg1 ft1 fe (TT.wipe s own) (xs.drop i) m acc).bind fun p => Rs.ok (PV.vl p.1, p.2)), ⟨xs.length, g1, m1, [], [], (Ext.refl _ _).other hD, e0.1, sr_of_rp e0.2 ((sr.ext em x1).wipe own), upd_same, .nil, fun n => e1.free hD n, e1.freeR hD, by simp, by simpa using q1'⟩, ?_⟩
  rintro i n H2 ⟨g2, m2, acc, ws, x2, e2, r2, hD2, ra, f1, f2, rfl, q2⟩
  by_cases hlt : i < xs.length
  · obtain ⟨h1, h2⟩ := wk.go g2 m2 H2 i x2 e2 hlt
    refine .inr ⟨h1, fun H' => ∃ g m acc ws, Ext g1 H1 g H' ∧ Emb K g m H' ∧ Sr K g H' (TT.wipe s own) (L2.wipe σ own) ∧ H' D = some (.lst ws) ∧ Rps K g H' acc ws ∧ (∀ n, g.φ n ≠ some D) ∧ g.ro D = none ∧
      QE K Ξ g1 H1 Q ((lc2L fg ft (iT fq) vs1 fg1 ft1 fe (TT.wipe s own) (xs.drop (i + 1)) m acc).bind fun p => Rs.ok (PV.vl p.1, p.2)), ?_, ?_⟩
    · rintro H' ⟨g', m', acc', ws', hx, he, hr, hd, ha, hf1, hf2, hq⟩
      exact ⟨xs.length - (i + 1), by omega, g', m', acc', ws', hx, he, hr, hd, ha, hf1, hf2, rfl, hq⟩
    · intro x H3 hy
      obtain ⟨g3, v, x3, e3, hv, rv⟩ := h2 x H3 hy
      have hd : xs.drop i = v :: xs.drop (i + 1) := by
        rw [List.drop_eq_getElem_cons hlt]
        rw [List.getElem?_eq_getElem hlt] at hv
        cases hv; rfl
      rw [hd] at q2
      simp only [lc2L] at q2
      rw [reb] at q2
      have r3 := r2.ext e2 x3
      have a3 := ra.ext e2 x3
      have d3 := x3.fr _ _ hD2 f1 nL
      have f13 := x3.old _ _ hD2 f1 nL
      have f23 := x3.oldr _ _ hD2 f1 nL f2
      have xx3 := x2.trans x3
      refine hw x σ H3 _ ⟨g3, _, m2, v, e3, r3, rv, QR.nxAt q2 fun p4 hp4 q4 g4 H4 σ4 x4 e4 r4 => ?_⟩
      obtain ⟨s4, m4⟩ := p4
      simp only at q4
      rw [reb] at q4
      have a4 := a3.ext e3 x4
      have d4 := x4.fr _ _ d3 f13 nL
      have f14 := x4.old _ _ d3 f13 nL
      have f24 := x4.oldr _ _ d3 f13 nL f23
      have w4 := r3.ext e3 x4
      have xx4 := xx3.trans x4
      refine ⟨g4, s4, m4, e4, r4, QR.nxAt q4 fun p5 hp5 q5 g5 H5 x5 e5 => ?_⟩
      obtain ⟨k, m5⟩ := p5
      have a5 := a4.ext e4 x5
      have d5 := x5.fr _ _ d4 f14 nL
      have f15 := x5.old _ _ d4 f14 nL
      have f25 := x5.oldr _ _ d4 f14 nL f24
      have w5 := w4.ext e4 x5
      have r5 := r4.ext e4 x5
      have xx5 := xx4.trans x5
      cases k with
      | false =>
        refine iteF ⟨g5, m5, acc, ws, xx5, e5, w5, d5, a5, f15, f25, ?_⟩
        simpa using q5
      | true =>
        simp only [if_true] at q5
        rw [reb] at q5
        have q5' : QE K Ξ g1 H1 Q ((fq s4 m5).nx.bind fun p => (match p.1 with
          | .tup ys => ((lcL fg1 ft1 fe (TT.wipe s4 vs1) ys p.2 acc).bind fun a => lc2L fg ft (iT fq) vs1 fg1 ft1 fe (TT.wipe s own) (xs.drop (i + 1)) a.2 a.1).bind fun p => Rs.ok (PV.vl p.1, p.2)
          | _ => .no)) := by
          have e : (iT fq s4 m5).nx = (fq s4 m5).nx.bind fun p => (match p.1 with
            | .tup ys => Rs.ok (ys, p.2)
            | _ => .no) := by
            unfold iT
            cases fq s4 m5 with
            | ok p =>
              obtain ⟨v, m⟩ := p
              cases v <;> rfl
            | ex e m => rfl
            | no => rfl
          rw [e, reb] at q5
          have e2 : ∀ (r : Rs (PV × Mm)) (k : List PV × Mm → Rs (PV × Mm)), (r.nx.bind fun a => (match a.1 with | .tup ys => Rs.ok (ys, a.2) | _ => .no).bind k) = r.nx.bind fun p => (match p.1 with | .tup ys => k (ys, p.2) | _ => .no) := fun r k => by
            congr 1
            funext p
            obtain ⟨v, m⟩ := p
            cases v <;> rfl
          rw [e2] at q5
          exact q5
        refine iteT ⟨g5, s4, m5, e5, r5, QR.nxAt q5' fun p6 hp6 q6 g6 H6 V6 x6 e6 rv6 => ?_⟩
        obtain ⟨v6, m6⟩ := p6
        obtain ⟨ys, rfl⟩ : ∃ ys, v6 = .tup ys := by
          cases v6 with
          | tup ys => exact ⟨ys, rfl⟩
          | _ => exact q6.elim
        simp only at q6
        obtain ⟨ta, tvs, rfl, hta, hrs⟩ := rv6.tup_inv
        refine ⟨ta, rfl, ⟨tvs, hta⟩, ?_⟩
        rw [reb] at q6
        have a6 := a5.ext e5 x6
        have d6 := x6.fr _ _ d5 f15 nL
        have f16 := x6.old _ _ d5 f15 nL
        have f26 := x6.oldr _ _ d5 f15 nL f25
        have w6 := w5.ext e5 x6
        have r6 := (r5.ext e5 x6).wipe vs1
        have xx6 := xx5.trans x6
        refine ⟨fun j n H => ∃ g m acc ws, Rp K g H (.tup ys) (.ref ta) ∧ Ext g1 H1 g H ∧ Emb K g m H ∧ Sr K g H (TT.wipe s own) (L2.wipe σ own) ∧ Sr K g H (TT.wipe s4 vs1) (L2.wipe σ4 vs1) ∧ H D = some (.lst ws) ∧ Rps K g H acc ws ∧ (∀ n, g.φ n ≠ some D) ∧ g.ro D = none ∧ n = ys.length - j ∧
            QE K Ξ g1 H1 Q ((lcL fg1 ft1 fe (TT.wipe s4 vs1) (ys.drop j) m acc).bind fun a => (lc2L fg ft (iT fq) vs1 fg1 ft1 fe (TT.wipe s own) (xs.drop (i + 1)) a.2 a.1).bind fun p => Rs.ok (PV.vl p.1, p.2)), ⟨ys.length, g6, m6, acc, ws, rv6, xx6, e6, w6, r6, d6, a6, f16, f26, by simp, by simpa using q6⟩, ?_⟩
        rintro j n H7 ⟨g7, m7, acc7, ws7, y7, xx7, e7, w7, r7, d7, a7, f17, f27, rfl, q7⟩
        by_cases hlt1 : j < ys.length
        · obtain ⟨ta', vs7, hz, ht7, rs7⟩ := y7.tup_inv
          cases hz
          have hlv : j < vs7.length := by rw [← rs7.length]; exact hlt1
          refine .inr ⟨⟨vs7, vs7[j], ht7, List.getElem?_eq_getElem hlv⟩, fun H => ∃ g m acc ws, Rp K g H (.tup ys) (.ref ta) ∧ Ext g1 H1 g H ∧ Emb K g m H ∧ Sr K g H (TT.wipe s own) (L2.wipe σ own) ∧ Sr K g H (TT.wipe s4 vs1) (L2.wipe σ4 vs1) ∧ H D = some (.lst ws) ∧ Rps K g H acc ws ∧ (∀ n, g.φ n ≠ some D) ∧ g.ro D = none ∧
            QE K Ξ g1 H1 Q ((lcL fg1 ft1 fe (TT.wipe s4 vs1) (ys.drop (j + 1)) m acc).bind fun a => (lc2L fg ft (iT fq) vs1 fg1 ft1 fe (TT.wipe s own) (xs.drop (i + 1)) a.2 a.1).bind fun p => Rs.ok (PV.vl p.1, p.2)), ?_, ?_⟩
          · rintro H' ⟨g', m', acc', ws', hy', hx, he, hr, hr1, hd, ha, hf1, hf2, hq⟩
            exact ⟨ys.length - (j + 1), by omega, g', m', acc', ws', hy', hx, he, hr, hr1, hd, ha, hf1, hf2, rfl, hq⟩
          · intro y H8 hy8'
            obtain ⟨hH, hy8⟩ := hy8'
            subst hH
            obtain ⟨v8, hv8, rv8⟩ := rs7.get' (hy8 vs7 ht7)
            have hd8 : ys.drop j = v8 :: ys.drop (j + 1) := by
              rw [List.drop_eq_getElem_cons hlt1]
              rw [List.getElem?_eq_getElem hlt1] at hv8
              cases hv8; rfl
            rw [hd8] at q7
            simp only [lcL] at q7
            rw [reb] at q7
            refine hw1 y σ4 H8 _ ⟨g7, _, m7, v8, e7, r7, rv8, QR.nxAt q7 fun p9 hp9 q9 g9 H9 σ9 x9 e9 r9 => ?_⟩
            obtain ⟨s9, m9⟩ := p9
            simp only at q9
            rw [reb] at q9
            have w9 := w7.ext e7 x9
            have v9 := r7.ext e7 x9
            have a9 := a7.ext e7 x9
            have d9 := x9.fr _ _ d7 f17 nL
            have f19 := x9.old _ _ d7 f17 nL
            have f29 := x9.oldr _ _ d7 f17 nL f27
            have y9 := y7.ext e7 x9
            have xx9 := xx7.trans x9
            refine ⟨g9, s9, m9, e9, r9, QR.nxAt q9 fun p10 hp10 q10 g10 H10 x10 e10 => ?_⟩
            obtain ⟨k10, m10⟩ := p10
            have w10 := w9.ext e9 x10
            have v10 := v9.ext e9 x10
            have a10 := a9.ext e9 x10
            have d10 := x10.fr _ _ d9 f19 nL
            have f110 := x10.old _ _ d9 f19 nL
            have f210 := x10.oldr _ _ d9 f19 nL f29
            have y10 := y9.ext e9 x10
            have xx10 := xx9.trans x10
            cases k10 with
            | false =>
              refine iteF ⟨g10, m10, acc7, ws7, y10, xx10, e10, w10, v10, d10, a10, f110, f210, ?_⟩
              simpa using q10
            | true =>
              simp only [if_true] at q10
              rw [reb] at q10
              refine iteT ⟨g10, s9, m10, e10, r9.ext e9 x10, QR.nxAt q10 fun p11 hp11 q11 g11 H11 z x11 e11 rz => ?_⟩
              obtain ⟨pv, m11⟩ := p11
              simp only at q11
              have w11 := w10.ext e10 x11
              have v11 := v10.ext e10 x11
              have a11 := a10.ext e10 x11
              have d11 := x11.fr _ _ d10 f110 nL
              have f111 := x11.old _ _ d10 f110 nL
              have f211 := x11.oldr _ _ d10 f110 nL f210
              have y11 := y10.ext e10 x11
              have xx11 := xx10.trans x11
              by_cases hl : acc7.length < LINE
              · rw [if_pos hl] at q11
                have hno : ∀ xs, ¬ Rd H11 D (.tup xs) := fun xs h => by rcases h with h | ⟨ob, h⟩ <;> rw [d11] at h <;> cases h
                have e12 := e11.other (o := .lst (ws7 ++ [z])) f111 f211 hno (tabs_wr e11.tab d11 nL (fun _ z => nomatch z))
                exact ⟨ws7, d11, by rw [← a7.length]; exact line_lt hl, g11, m11, acc7 ++ [pv], ws7 ++ [z], e12.2 y11, xx11.other hD, e12.1, sr_of_rp e12.2 w11, sr_of_rp e12.2 v11, upd_same, rps_of_rp e12.2 (a11.append (.cons rz .nil)), f111, f211, q11⟩
              · rw [if_neg hl] at q11
                exact q11.elim
        · have hle1 : ys.length ≤ j := Nat.le_of_not_lt hlt1
          obtain ⟨ta', vs7, hz, ht7, rs7⟩ := y7.tup_inv
          cases hz
          refine .inl ⟨⟨vs7, ht7, by rw [← rs7.length]; exact hle1⟩, ?_⟩
          rw [List.drop_of_length_le hle1] at q7
          exact ⟨g7, m7, acc7, ws7, xx7, e7, w7, d7, a7, f17, f27, q7⟩
  · have hle : xs.length ≤ i := Nat.le_of_not_lt hlt
    refine .inl ⟨wk.stop g2 m2 H2 i x2 e2 hle, ?_⟩
    rw [List.drop_of_length_le hle] at q2
    exact lc_done hD x2 e2 hD2 ra f1 f2 q2
theorem rd_lc2N {own : List Nat} {it : SI} {i i1 : Nat} {ft ft1 : ST} {fq fe : SE} (hi : i ∈ own) {σ : L2.St} {H : Hp} {Q : VK}
    (h : rdE K Ξ (eLc2 own [i1] it (TT.gName i) ft (iT fq) (TT.gName i1) ft1 fe) σ H Q) : tLc2 (rdI K Ξ it) (L2.gName i) (rdT K X0 ft) (L2.iTup K (rdE K X0 fq)) (L2.gName i1) (rdT K X0 ft1) (rdE K X0 fe) own [i1] σ H Q :=
  rd_lc2 (fun v σ H Q ⟨g, s, m, pv, em, sr, rv, q⟩ => ⟨wipe_set hi, q g H _ (Ext.refl _ _) em (sr.set rv i)⟩)
    (fun v σ H Q ⟨g, s, m, pv, em, sr, rv, q⟩ => ⟨wipe_set (List.mem_singleton.mpr rfl), q g H _ (Ext.refl _ _) em (sr.set rv i1)⟩) h
end
section
variable {X : Cx} {Ξ : XC} {ft ft1 : ST}
theorem se_lc2 {elt iter iter1 : Expr} {ifs ifs1 : List Expr} {scope : Scope} {own : List (Str × Nat)} {oi : List Nat} {x x1 : Str} {px px1 pos : Pos} {it : SI} (i i1 : Nat) {fq fe : SE} (hc : X.calm = true) (hN : X.N.Nodup) (hi : PI X (.Name x px) iter (rdI X.kw Ξ it)) (ok : BlkOk X.N X.env.scope scope own)
    (hg : ∀ (s : Shared) (H : Hp) (C : Addr) (cl : List (Str × Addr)) (fp : List Addr), PG (X.blk s H scope (compEnvC scope cl C X.env) fp) (.Name x px) (L2.gName i)) (ht : ∀ (s : Shared) (H : Hp) (C : Addr) (cl : List (Str × Addr)) (fp : List Addr), PTs (X.blk s H scope (compEnvC scope cl C X.env) fp) ifs (rdT X.kw X0 ft))
    (hi1 : ∀ (s : Shared) (H : Hp) (C : Addr) (cl : List (Str × Addr)) (fp : List Addr), PE (X.blk s H scope (compEnvC scope cl C X.env) fp) iter1 (rdE X.kw X0 fq))
    (hg1 : ∀ (s : Shared) (H : Hp) (C : Addr) (cl : List (Str × Addr)) (fp : List Addr), PG (X.blk s H scope (compEnvC scope cl C X.env) fp) (.Name x1 px1) (L2.gName i1)) (ht1 : ∀ (s : Shared) (H : Hp) (C : Addr) (cl : List (Str × Addr)) (fp : List Addr), PTs (X.blk s H scope (compEnvC scope cl C X.env) fp) ifs1 (rdT X.kw X0 ft1))
    (he : ∀ (s : Shared) (H : Hp) (C : Addr) (cl : List (Str × Addr)) (fp : List Addr), PE (X.blk s H scope (compEnvC scope cl C X.env) fp) elt (rdE X.kw X0 fe)) (hs : ∀ x, foldedSetIterable iter X.env x = pure x := by intro _; rfl) (hs1 : ∀ env x, foldedSetIterable iter1 env x = pure x := by intro _ _; rfl) (ho : own.map (·.2) = oi := by rfl) (hm : i ∈ own.map (·.2) := by decide) (hm1 : i1 ∈ own.map (·.2) := by decide) :
    PE X (.ListComp elt [⟨.Name x px, iter, ifs, 0⟩, ⟨.Name x1 px1, iter1, ifs1, 0⟩] scope pos) (rdE X.kw Ξ (eLc2 oi [i1] it (TT.gName i) ft (iT fq) (TT.gName i1) ft1 fe)) := by
  subst ho
  exact PE_imp (pe_lc2 (vs1 := [i1]) hc hN hi ok (fun j hj => by cases List.mem_singleton.mp hj; exact hm1) hg ht (fun s H C cl fp => pi_tup (hi1 s H C cl fp)) hg1 ht1 he hs hs1) fun σ H Q h => rd_lc2N hm h
theorem ss_setLc2 {elt iter iter1 : Expr} {ifs ifs1 : List Expr} {scope : Scope} {own : List (Str × Nat)} {oi : List Nat} {x x1 y : Str} {px px1 py pos spos : Pos} {it : SI} (iy i i1 : Nat) {fq fe : SE} (hc : X.calm = true) (hN : X.N.Nodup) (hi : PI X (.Name x px) iter (rdI X.kw Ξ it)) (ok : BlkOk X.N X.env.scope scope own)
    (hg : ∀ (s : Shared) (H : Hp) (C : Addr) (cl : List (Str × Addr)) (fp : List Addr), PG (X.blk s H scope (compEnvC scope cl C X.env) fp) (.Name x px) (L2.gName i)) (ht : ∀ (s : Shared) (H : Hp) (C : Addr) (cl : List (Str × Addr)) (fp : List Addr), PTs (X.blk s H scope (compEnvC scope cl C X.env) fp) ifs (rdT X.kw X0 ft))
    (hi1 : ∀ (s : Shared) (H : Hp) (C : Addr) (cl : List (Str × Addr)) (fp : List Addr), PE (X.blk s H scope (compEnvC scope cl C X.env) fp) iter1 (rdE X.kw X0 fq))
    (hg1 : ∀ (s : Shared) (H : Hp) (C : Addr) (cl : List (Str × Addr)) (fp : List Addr), PG (X.blk s H scope (compEnvC scope cl C X.env) fp) (.Name x1 px1) (L2.gName i1)) (ht1 : ∀ (s : Shared) (H : Hp) (C : Addr) (cl : List (Str × Addr)) (fp : List Addr), PTs (X.blk s H scope (compEnvC scope cl C X.env) fp) ifs1 (rdT X.kw X0 ft1))
    (he : ∀ (s : Shared) (H : Hp) (C : Addr) (cl : List (Str × Addr)) (fp : List Addr), PE (X.blk s H scope (compEnvC scope cl C X.env) fp) elt (rdE X.kw X0 fe)) (hsw : swapsWith (.ListComp elt [⟨.Name x px, iter, ifs, 0⟩, ⟨.Name x1 px1, iter1, ifs1, 0⟩] scope pos) (some (.Name y py)) spos.line X.env = pure true)
    (hy : X.N[iy]? = some y := by rfl) (hyl : X.env.scope.names.lookup y = some .local := by rfl) (hs : ∀ x, foldedSetIterable iter X.env x = pure x := by intro _; rfl) (hs1 : ∀ env x, foldedSetIterable iter1 env x = pure x := by intro _ _; rfl) (ho : own.map (·.2) = oi := by rfl) (hm : i ∈ own.map (·.2) := by decide) (hm1 : i1 ∈ own.map (·.2) := by decide) :
    PS X (.Assign [.Name y py] (.ListComp elt [⟨.Name x px, iter, ifs, 0⟩, ⟨.Name x1 px1, iter1, ifs1, 0⟩] scope pos) spos) (rdS X.kw Ξ (sAsg (eLc2 oi [i1] it (TT.gName i) ft (iT fq) (TT.gName i1) ft1 fe) (TT.gName iy))) := by
  subst ho
  exact PS_imp (ps_setLc2 (vs1 := [i1]) hc hN hy hyl hsw hi ok (fun j hj => by cases List.mem_singleton.mp hj; exact hm1) hg ht (fun s H C cl fp => pi_tup (hi1 s H C cl fp)) hg1 ht1 he hs hs1) fun D σ H ⟨g, s, m, em, sr, q⟩ => by
    refine rd_lc2N (Ξ := Ξ) hm ⟨g, s, m, em, sr, QR.bind q fun p hp q1 g1 H1 V x1 e1 r1 => ?_⟩
    exact QS_nx e1 ((sr.ext em x1).set r1 iy) (QS.later x1 q1)
end
end TT
end

section
set_option Elab.async false
set_option linter.all false
set_option autoImplicit false
set_option maxRecDepth 100000
/-! TT: instances of own classes -/
namespace TT
open PySem PySem.Spec PyProof.Rows L2
section
variable {K : KW} {g g' : Gh} {m m' : Mm} {H H' : Hp}
theorem rps_of_rp' {g g' : Gh} {H H' : Hp} (f : ∀ {v w}, Rp K g H v w → Rp K g' H' v w) : ∀ {v : List PV} {w : List V}, Rps K g H v w → Rps K g' H' v w
  | _, _, .nil => .nil
  | _, _, .cons a b => .cons (f a) (rps_of_rp' f b)
theorem strN {x y : List Nat} : ((⟨x.toArray⟩ : Str) = ⟨y.toArray⟩) ↔ x = y := by
  constructor
  · intro h
    have := congrArg (fun z : Str => z.cps.toList) h
    simpa using this
  · intro h; rw [h]
theorem strB (x y : List Nat) : ((⟨x.toArray⟩ : Str) == (⟨y.toArray⟩ : Str)) = decide (x = y) := by
  rw [Bool.eq_iff_iff, beq_iff_eq, decide_eq_true_eq]
  exact strN
theorem RFs.look {f : List Nat} {v : PV} : ∀ {fs : List (List Nat × PV)} {vs : List (Str × V)}, RFs K g H fs vs → fLook fs f = some v → ∃ w, vs.lookup ⟨f.toArray⟩ = some w ∧ Rp K g H v w
  | _, _, .nil, h => by cases h
  | _, _, .cons (k := k) rv r, h => by
    unfold fLook at h
    by_cases hk : f = k
    · rw [if_pos hk] at h
      cases h
      refine ⟨_, ?_, rv⟩
      rw [List.lookup_cons, strB, decide_eq_true hk]
    · rw [if_neg hk] at h
      obtain ⟨w, h1, h2⟩ := RFs.look r h
      refine ⟨w, ?_, h2⟩
      rw [List.lookup_cons, strB, decide_eq_false hk]
      exact h1
theorem RFs.lookN {f : List Nat} : ∀ {fs : List (List Nat × PV)} {vs : List (Str × V)}, RFs K g H fs vs → fLook fs f = none → vs.lookup ⟨f.toArray⟩ = none
  | _, _, .nil, h => rfl
  | _, _, .cons (k := k) rv r, h => by
    unfold fLook at h
    by_cases hk : f = k
    · rw [if_pos hk] at h; cases h
    · rw [if_neg hk] at h
      rw [List.lookup_cons, strB, decide_eq_false hk]
      exact RFs.lookN r h
theorem RFs.put {f : List Nat} {v : PV} {w : V} (rv : Rp K g H v w) : ∀ {fs : List (List Nat × PV)} {vs : List (Str × V)}, RFs K g H fs vs → RFs K g H (fPut f v fs) (putF ⟨f.toArray⟩ w vs)
  | _, _, .nil => .cons rv .nil
  | _, _, .cons (k := k) (x := x) (v := y) rx r => by
    unfold fPut
    show RFs K g H _ (if (⟨k.toArray⟩ : Str) = ⟨f.toArray⟩ then _ else _)
    by_cases hk : k = f
    · rw [if_pos hk, if_pos (strN.mpr hk)]
      exact .cons rv r
    · rw [if_neg hk, if_neg (fun z => hk (strN.mp z))]
      exact .cons rx (RFs.put rv r)
theorem RFs.length : ∀ {fs : List (List Nat × PV)} {vs : List (Str × V)}, RFs K g H fs vs → fs.length = vs.length
  | _, _, .nil => rfl
  | _, _, .cons _ r => by simp [RFs.length r]
/-- an instance in the memory is written -/
theorem Emb.wr_ins (e : Emb K g m H) {n : Nat} {a C dx : Addr} {c : List Nat} {xs ys : List (List Nat × PV)} {us ws : List (Str × V)} (hm : m[n]? = some (.ins c xs)) (ha : g.φ n = some a) (hC : K.mg ⟨c.toArray⟩ = some (.ref C)) (hH : H a = some (.ins C dx us)) (r : RFs K g H ys ws) :
    Ext g H g (upd H a (.ins C dx ws)) ∧ Emb K g (m.set n (.ins c ys)) (upd H a (.ins C dx ws)) := by
  have x : Ext g H g (upd H a (.ins C dx ws)) := ⟨fun _ _ h => h, fun _ _ h => h, fun b u h hb _ => by
    rw [upd_ne (fun z => hb n (by rw [z]; exact ha))]; exact h, fun _ _ _ h _ => h, fun _ _ _ _ _ h => h, rfl⟩
  have hlt : n < m.length := (List.getElem?_eq_some_iff.mp hm).1
  refine ⟨x, fun k o h => ?_, fun k b h => ?_, e.inj, fun b u h => ?_, e.nt, tabs_wr e.tab hH (fun ps z => nomatch z) (fun ps z => nomatch z)⟩
  · by_cases hk : n = k
    · subst hk
      rw [List.getElem?_set_self hlt] at h
      cases h
      exact ⟨a, C, dx, ws, ha, hC, upd_same, r.ext e x⟩
    · rw [List.getElem?_set_ne hk] at h
      have q := e.obj k o h
      cases o with
      | lst zs =>
        obtain ⟨b, us, h1, h2, h3⟩ := q
        refine ⟨b, us, h1, ?_, h3.ext e x⟩
        rw [upd_ne (fun z => hk (e.inj n k a ha (by rw [← z]; exact h1)))]
        exact h2
      | dict zs =>
        obtain ⟨b, us, h1, h2, h3⟩ := q
        refine ⟨b, us, h1, ?_, h3.ext e x⟩
        rw [upd_ne (fun z => hk (e.inj n k a ha (by rw [← z]; exact h1)))]
        exact h2
      | ins cN zs =>
        obtain ⟨b, cC, cD, us, h1, cM, h2, h3⟩ := q
        refine ⟨b, cC, cD, us, h1, cM, ?_, h3.ext e x⟩
        rw [upd_ne (fun z => hk (e.inj n k a ha (by rw [← z]; exact h1)))]
        exact h2
      | dl zs =>
        obtain ⟨b, ob, us, h1, h2, h3⟩ := q
        exact ⟨b, ob, us, h1, x.ro _ _ h2, h3.ext e x⟩
      | kd zs =>
        obtain ⟨b, us, h1, h2, h3⟩ := q
        refine ⟨b, us, h1, ?_, h3.ext e x⟩
        rw [upd_ne (fun z => hk (e.inj n k a ha (by rw [← z]; exact h1)))]
        exact h2
      | kl zs =>
        obtain ⟨b, ob, us, h1, h2, h3⟩ := q
        exact ⟨b, ob, us, h1, x.ro _ _ h2, h3.ext e x⟩
      | dead => trivial
      | tab P l => exact q
  · obtain ⟨h1, u, h2, h3⟩ := e.dom k b h
    rw [List.length_set]
    by_cases hb : b = a
    · subst hb; exact ⟨h1, _, upd_same, .inl trivial⟩
    · exact ⟨h1, u, by rw [upd_ne hb]; exact h2, h3⟩
  · obtain ⟨h1, h2⟩ := e.ro b u h
    have hb : b ≠ a := fun z => by
      subst z
      have := h2 n ha
      rw [hm] at this; cases this
    refine ⟨by rw [upd_ne hb]; exact h1, fun k hk => ?_⟩
    have q := h2 k hk
    have hkn : n ≠ k := fun z => by subst z; rw [hm] at q; cases q
    rw [List.getElem?_set_ne hkn]; exact q
/-- a new instance comes into the memory -/
theorem Emb.new_ins (e : Emb K g m H) {c : List Nat} {p d C : Addr} (hC : K.mg ⟨c.toArray⟩ = some (.ref C)) (hp : H p = none) (hd : H d = none) (hdp : d ≠ p) :
    Ext g H (g.addP m.length p) (upd (upd H d (.own p)) p (.ins C d [])) ∧ Emb K (g.addP m.length p) (m ++ [.ins c []]) (upd (upd H d (.own p)) p (.ins C d [])) ∧ ∀ {v w}, Rp K g H v w → Rp K (g.addP m.length p) (upd (upd H d (.own p)) p (.ins C d [])) v w := by
  have rdn : ∀ {H : Hp} {b : Addr}, H b = none → ∀ xs, ¬ Rd H b (.tup xs) := fun {H b} h xs z => by
    rcases z with z | ⟨o, z⟩ <;> rw [h] at z <;> cases z
  obtain ⟨e1, t1⟩ := e.other (D := d) (o := .own p) (e.free hd) (e.freeR hd) (rdn hd) (tabs_new e.tab hd)
  have hp1 : upd H d (.own p) p = none := by rw [upd_ne (Ne.symm hdp)]; exact hp
  obtain ⟨e2, t2⟩ := e1.other (D := p) (o := .ins C d []) (e1.free hp1) (e1.freeR hp1) (rdn hp1) (tabs_new e1.tab hp1)
  have hφ : (g.addP m.length p).φ m.length = some p := by show (if m.length = m.length then some p else _) = _; rw [if_pos rfl]
  obtain ⟨e3, t3⟩ := e2.adopt (p := p) (u := .ins C d []) (ob := .ins c []) upd_same trivial (e.free hp) (e.freeR hp) ⟨p, C, d, [], hφ, hC, upd_same, .nil⟩
  refine ⟨⟨fun n a h => ?_, fun a u h => h, fun a u h hn t => ?_, fun a u h hn _ n => ?_, fun _ _ _ _ _ h => h, rfl⟩, e3, fun {v w} r => t3 (t2 (t1 r))⟩
  · have : n ≠ m.length := fun z => by subst z; rw [e.fresh_id] at h; cases h
    show (if n = m.length then some p else g.φ n) = some a
    rw [if_neg this]; exact h
  · rw [upd_ne (ne_of_none h hp), upd_ne (ne_of_none h hd)]; exact h
  · show (if n = m.length then some p else g.φ n) ≠ some a
    split
    · intro z; cases z; rw [hp] at h; cases h
    · exact hn n
end
/-! ### facts of the text -/
/-- c names a class -/
def ClsAt (K : KW) (c : List Nat) : Prop := ∃ C, K.mg ⟨c.toArray⟩ = some (.ref C) ∧ L2.Cls K.K C
/-- its instances find no f in it -/
def NoA (K : KW) (c : List Nat) (f : Str) : Prop := ∀ C, K.mg ⟨c.toArray⟩ = some (.ref C) → L2.NoAttr K.K C f
/-- a method of it -/
def HasM (P : Program) (w : World) (K : KW) (mg : Str → Option Value) (base : Heap) (CX : CXT) (c : List Nat) (k : Str) (l : Nat) (sp : Sp) : Prop :=
  ∃ C f fd ps, K.mg ⟨c.toArray⟩ = some (.ref C) ∧ L2.Cls K.K C ∧ L2.Meth K.K C k f ∧ FnOk P w K mg base CX l f fd ps sp ∧ Binds K fd ps []
/-- its init -/
def HasI (P : Program) (w : World) (K : KW) (mg : Str → Option Value) (base : Heap) (CX : CXT) (c : List Nat) (l : Nat) (sp : Sp) : Prop :=
  ∃ C f fd ps, K.mg ⟨c.toArray⟩ = some (.ref C) ∧ L2.Mk K.K C f ∧ FnOk P w K mg base CX l f fd ps sp ∧ Binds K fd ps []
section
variable {X : Cx} {Ξ : XC} {o value e : Expr} {es : List Expr} {pos pos' apos p : Pos} {fo fv : SE} {fs : SA}
theorem se_fld {c fl : List Nat} {f : Str} (hc : ClsAt X.kw c) (hn : NoA X.kw c f) (ho : PE X o (rdE X.kw Ξ fo)) (hf : f = ⟨fl.toArray⟩ := by rfl) (hb : attributeBase o f X.env (eval o X.env) = eval o X.env := by rfl) : PE X (.Attribute o f pos) (rdE X.kw Ξ (e1 (oFld c fl) fo)) :=
  PE_imp (pe_fld ho hb) fun σ H Q ⟨g, s, m, em, sr, q⟩ => by
    refine ⟨g, s, m, em, sr, QR.bind q fun p hp q1 g1 H1 V x1 e1 r1 => ?_⟩
    have q2 : QE X.kw Ξ g1 H1 Q (oFld c fl p.1 p.2) := QE.later x1 q1
    unfold oFld at q2
    split at q2
    · rename_i n hv
      rw [hv] at r1
      obtain ⟨a, rfl, ha⟩ := r1.ref_inv
      split at q2
      · rename_i c' xs hm
        split at q2
        · rename_i hcc
          subst hcc
          split at q2
          · rename_i v hl
            obtain ⟨a2, C, dx, vs, h1, h2, h3, h4⟩ := e1.obj _ _ hm
            rw [ha] at h1; cases h1
            obtain ⟨C', k1, k2⟩ := hc
            rw [h2] at k1; cases k1
            obtain ⟨w, l1, l2⟩ := h4.look hl
            exact ⟨a, C, dx, vs, w, rfl, h3, k2, hn C h2, by rw [hf]; exact l1, QE.ret e1 l2 q2⟩
          · exact q2.elim
        · exact q2.elim
      · exact q2.elim
    · exact q2.elim
/-- e.f = v -/
theorem ss_fld {c fl : List Nat} {f : Str} (hc : ClsAt X.kw c) (hn : NoA X.kw c f) (ho : PE X o (rdE X.kw Ξ fo)) (hv : PE X value (rdE X.kw Ξ fv)) (hf : f = ⟨fl.toArray⟩ := by rfl) (hs : swapsWith value (some (.Attribute o f pos')) pos.line X.env = pure false := by rfl) :
    PS X (.Assign [.Attribute o f pos'] value pos) (rdS X.kw Ξ (sFldSet c fl fv fo)) :=
  PS_imp (ps_fld ho hv hs) fun D σ H ⟨g, s, m, em, sr, q⟩ => by
    refine ⟨g, s, m, em, sr, QR.bind q fun p hp q1 g1 H1 V x1 e1 r1 => ?_⟩
    refine ⟨g1, s, p.2, e1, sr.ext em x1, QR.bind (QS.later x1 q1) fun p2 hp2 q2 g2 H2 W x2 e2 r2 => ?_⟩
    have q3 : QS X.kw Ξ g2 H2 D ((oFldSet c fl p2.1 p.1 p2.2).bind fun m3 => .ok (.nx, s, m3)) := QS.later x2 q2
    have r1' := r1.ext e1 x2
    have sr' := (sr.ext em x1).ext e1 x2
    unfold oFldSet at q3
    split at q3
    · rename_i n hv
      rw [hv] at r2
      obtain ⟨a, rfl, ha⟩ := r2.ref_inv
      split at q3
      · rename_i c' xs hm
        split at q3
        · rename_i hcc
          obtain ⟨rfl, hlen⟩ := hcc
          obtain ⟨a2, C, dx, vs, h1, h2, h3, h4⟩ := e2.obj _ _ hm
          rw [ha] at h1; cases h1
          obtain ⟨C', k1, k2⟩ := hc
          rw [h2] at k1; cases k1
          obtain ⟨x4, e4⟩ := e2.wr_ins hm ha h2 h3 (h4.put (f := fl) r1')
          refine ⟨a, C, dx, vs, rfl, h3, k2, hn C h2, by rw [← h4.length]; exact hlen, ?_⟩
          rw [hf]
          exact q3 _ _ σ x4 e4 (sr'.ext e2 x4)
        · exact q3.elim
      · exact q3.elim
    · exact q3.elim
/-- C(args) -/
theorem se_make {n l : Nat} {F : IF} {x : Str} {c : List Nat} (h : HasI X.prog X.w X.kw X.mg X.base CX0 c l (spI X.kw (n + 1) F)) (hr : Room (l + 1) X.A) (ha : PA X (e :: es) (rdA X.kw Ξ fs)) (hl : ∀ s m xs m', fs s m = .ok (xs, m') → xs.length = (e :: es).length)
    (hx : x = ⟨c.toArray⟩ := by rfl) (hn : (e :: es).length = n := by rfl) (hg : Gl X x := by rfl) (hdb : (x == ("__debug__" : Str)) = false := by decide) (he : starEach (e :: es) X.env = (false, eval e X.env) :: starEach es X.env := by rfl) (hpl : (backTo pos (starEach es X.env)).any (·.1) = false := by rfl) :
    PE X (.Call (.Name x p) (e :: es) [] pos) (rdE X.kw Ξ (eMake c (cI F) fs)) := by
  obtain ⟨C, f, fd, ps, hC, M, G, hb⟩ := h
  have hm : X.mg x = some (.ref C) := by rw [hx]; exact hC
  refine PE_imp (pe_make M G hr hg hm hb .nil pass0 ha hdb he hpl) fun σ H Q ⟨g, s, m, em, sr, q⟩ => ?_
  refine ⟨g, s, m, em, sr, QR.bind q fun p hp q1 g1 H1 V x1 e1 r1 p0 d0 hp0 hd0 hdp => ?_⟩
  obtain ⟨x2, e2, t2⟩ := e1.new_ins (c := c) hC hp0 hd0 hdp
  have q2 : QE X.kw Ξ g1 H1 Q ((cI F (.ref p.2.length :: p.1) (p.2 ++ [.ins c []])).bind fun z => match z.1 with
    | .non => .ok (.ref p.2.length, z.2)
    | _ => .no) := QE.later x1 q1
  refine ⟨_, _, .ref p.2.length :: p.1, by rw [List.length_cons, hl s m p.1 p.2 hp, hn], e2, ?_, ?_⟩
  · rw [List.append_nil]
    refine .cons (.ref ?_) (rps_of_rp' (fun r => t2 r) r1)
    show (if p.2.length = p.2.length then some p0 else _) = _; rw [if_pos rfl]
  · refine cI_X0 (Ξ := Ξ) (QR.bindAt x2 q2 fun z hz q3 g3 H3 V3 x3 e3 r3 => ?_)
    obtain ⟨v, m3⟩ := z
    cases v with
    | non =>
      cases r3.non_inv
      refine ⟨rfl, q3 g3 H3 (.ref p0) (x2.trans x3) e3 (.ref (x3.phi _ _ ?_))⟩
      show (if p.2.length = p.2.length then some p0 else _) = _; rw [if_pos rfl]
    | _ => exact q3.elim
/-- o.m(args) -/
theorem se_ometh {n l : Nat} {F : IF} {c kl : List Nat} {k : Str} {pl : Sem Bool} (h : HasM X.prog X.w X.kw X.mg X.base CX0 c k l (spI X.kw (n + 1) F)) (hr : Room l X.A) (ho : PE X o (rdE X.kw Ξ fo)) (ha : PA X (e :: es) (rdA X.kw Ξ fs)) (hl : ∀ s m xs m', fs s m = .ok (xs, m') → xs.length = (e :: es).length)
    (hk : k = ⟨kl.toArray⟩ := by rfl) (hn : (e :: es).length = n := by rfl) (hst : starEach (e :: es) X.env = (false, eval e X.env) :: starEach es X.env := by rfl) (hpl : (backTo pos (starEach es X.env)).any (·.1) = false := by rfl)
    (ht : eval (.Call (.Attribute o k apos) (e :: es) [] pos) X.env = (do
      let ov ← eval o X.env
      standAt apos.atName
      let (f, first) ← holding [ov] (getMethod ov k pl)
      callWith pos f first (backTo pos (starEach (e :: es) X.env)) (backToKw pos (keywordEach [] X.env))) := by rfl) :
    PE X (.Call (.Attribute o k apos) (e :: es) [] pos) (rdE X.kw Ξ (eMeth c kl (cI F) fo fs)) := by
  obtain ⟨C, f, fd, ps, hC, hcl, M, G, hb⟩ := h
  refine PE_imp (pe_meth (pl := pl) ho hcl M G hr hb .nil pass0 ha hst hpl ht) fun σ H Q ⟨g, s, m, em, sr, q⟩ => ?_
  refine ⟨g, s, m, em, sr, QR.bind q fun p hp q1 g1 H1 V x1 e1 r1 => ?_⟩
  obtain ⟨v, m1⟩ := p
  cases v with
  | ref j =>
    obtain ⟨a, rfl, ha⟩ := r1.ref_inv
    have q2 := QE.later x1 q1
    simp only at q2
    split at q2
    · rename_i c' xs hm
      split at q2
      · rename_i hcc
        obtain ⟨rfl, hlk⟩ := hcc
        obtain ⟨a2, C', dx, vs, h1, h2, h3, h4⟩ := e1.obj _ _ hm
        rw [ha] at h1; cases h1
        rw [hC] at h2; cases h2
        refine ⟨a, dx, vs, rfl, h3, by rw [hk]; exact h4.lookN hlk, g1, s, m1, e1, sr.ext em x1, QR.bind q2 fun p2 hp2 q3 g2 H2 W x2 e2 r2 => ?_⟩
        exact ⟨g2, p2.2, .ref j :: p2.1, by rw [List.length_cons, hl s m1 p2.1 p2.2 hp2, hn], e2, by rw [List.append_nil]; exact .cons (.ref (x2.phi _ _ ha)) r2, cI_X0 (QE.later x2 q3)⟩
      · exact q2.elim
    · exact q2.elim
  | _ => exact q1.elim
/-- o.m() -/
theorem se_ometh0 {l : Nat} {F : IF} {c kl : List Nat} {k : Str} {pl : Sem Bool} (h : HasM X.prog X.w X.kw X.mg X.base CX0 c k l (spI X.kw 1 F)) (hr : Room l X.A) (ho : PE X o (rdE X.kw Ξ fo))
    (hk : k = ⟨kl.toArray⟩ := by rfl)
    (ht : eval (.Call (.Attribute o k apos) [] [] pos) X.env = (do
      let ov ← eval o X.env
      standAt apos.atName
      let (f, first) ← holding [ov] (getMethod ov k pl)
      callWith pos f first (backTo pos (starEach [] X.env)) (backToKw pos (keywordEach [] X.env))) := by rfl) :
    PE X (.Call (.Attribute o k apos) [] [] pos) (rdE X.kw Ξ (eMeth c kl (cI F) fo aNil)) := by
  obtain ⟨C, f, fd, ps, hC, hcl, M, G, hb⟩ := h
  refine PE_imp (pe_meth0 (pl := pl) ho hcl M G hr hb .nil pass0 ht) fun σ H Q ⟨g, s, m, em, sr, q⟩ => ?_
  refine ⟨g, s, m, em, sr, QR.bind q fun p hp q1 g1 H1 V x1 e1 r1 => ?_⟩
  obtain ⟨v, m1⟩ := p
  cases v with
  | ref j =>
    obtain ⟨a, rfl, ha⟩ := r1.ref_inv
    have q2 := QE.later x1 q1
    simp only at q2
    split at q2
    · rename_i c' xs hm
      split at q2
      · rename_i hcc
        obtain ⟨rfl, hlk⟩ := hcc
        obtain ⟨a2, C', dx, vs, h1, h2, h3, h4⟩ := e1.obj _ _ hm
        rw [ha] at h1; cases h1
        rw [hC] at h2; cases h2
        refine ⟨a, dx, vs, rfl, h3, by rw [hk]; exact h4.lookN hlk, ?_⟩
        exact ⟨g1, m1, [.ref j], rfl, e1, .cons (.ref ha) .nil, cI_X0 q2⟩
      · exact q2.elim
    · exact q2.elim
  | _ => exact q1.elim
end
end TT
end

section
set_option Elab.async false
set_option linter.all false
set_option autoImplicit false
set_option maxRecDepth 100000
/-! TT: dicts with text or int keys, locked and walked -/
namespace TT
open PySem PySem.Spec PyProof.Rows L2
section
variable {K : KW} {g g' : Gh} {m m' : Mm} {H H' : Hp}
def Gh.noR (g : Gh) (a : Addr) : Gh := ⟨g.φ, fun b => if b = a then none else g.ro b, g.T⟩
theorem Emb.lockD (e : Emb K g m H) {n : Nat} {a : Addr} {kvs : List (PV × PV)} {vs : List (Key × V)} (o : Obj) (hm : m[n]? = some (.dict kvs)) (ha : g.φ n = some a) (hH : H a = some (.dK vs)) (r : RKs K g H kvs vs) :
    g.ro a = none ∧ Ext g H (g.addR a (.frz o (.dK vs))) (upd H a (.frz o (.dK vs))) ∧ Emb K (g.addR a (.frz o (.dK vs))) (m.set n (.dl kvs)) (upd H a (.frz o (.dK vs))) := by
  have hlt : n < m.length := (List.getElem?_eq_some_iff.mp hm).1
  have hro : g.ro a = none := by
    cases q : g.ro a with
    | none => rfl
    | some u =>
      have := (e.ro a u q).2 n ha
      rw [hm] at this; exact this.elim
  have x : Ext g H (g.addR a (.frz o (.dK vs))) (upd H a (.frz o (.dK vs))) := by
    refine ⟨fun _ _ h => h, fun b u h => ?_, fun b u h hb _ => ?_, fun _ _ _ h _ => h, fun b u h hb _ hr => ?_, rfl⟩
    · have nb : b ≠ a := fun z => by subst z; rw [hro] at h; cases h
      show upd g.ro a _ b = some u
      rw [upd_ne nb]; exact h
    · rw [upd_ne (fun z => hb n (by rw [z]; exact ha))]; exact h
    · show upd g.ro a _ b = none
      rw [upd_ne (fun z => hb n (by rw [z]; exact ha))]; exact hr
  refine ⟨hro, x, ⟨fun k ob h => ?_, fun k b h => ?_, e.inj, fun b u h => ?_, fun b u h => ?_, tabs_wr e.tab hH (fun ps z => nomatch z) (fun ps z => nomatch z)⟩⟩
  · by_cases hk : n = k
    · subst hk
      rw [List.getElem?_set_self hlt] at h
      cases h
      exact ⟨a, o, vs, ha, upd_same, r.ext e x⟩
    · rw [List.getElem?_set_ne hk] at h
      have q := e.obj k ob h
      have ne : ∀ b, g.φ k = some b → b ≠ a := fun b hb z => hk (e.inj n k a ha (by rw [← z]; exact hb))
      cases ob with
      | lst zs =>
        obtain ⟨b, us, h1, h2, h3⟩ := q
        exact ⟨b, us, h1, by rw [upd_ne (ne b h1)]; exact h2, h3.ext e x⟩
      | dict zs =>
        obtain ⟨b, us, h1, h2, h3⟩ := q
        exact ⟨b, us, h1, by rw [upd_ne (ne b h1)]; exact h2, h3.ext e x⟩
      | ins cN zs =>
        obtain ⟨b, cC, cD, us, h1, cM, h2, h3⟩ := q
        exact ⟨b, cC, cD, us, h1, cM, by rw [upd_ne (ne b h1)]; exact h2, h3.ext e x⟩
      | dl zs =>
        obtain ⟨b, ob, us, h1, h2, h3⟩ := q
        exact ⟨b, ob, us, h1, x.ro _ _ h2, h3.ext e x⟩
      | kd zs =>
        obtain ⟨b, us, h1, h2, h3⟩ := q
        exact ⟨b, us, h1, by rw [upd_ne (ne b h1)]; exact h2, h3.ext e x⟩
      | kl zs =>
        obtain ⟨b, ob, us, h1, h2, h3⟩ := q
        exact ⟨b, ob, us, h1, x.ro _ _ h2, h3.ext e x⟩
      | dead => trivial
      | tab P l => exact q
  · obtain ⟨h1, u, h2, h3⟩ := e.dom k b h
    rw [List.length_set]
    by_cases hb : b = a
    · subst hb; exact ⟨h1, _, upd_same, .inr ⟨_, _, rfl⟩⟩
    · exact ⟨h1, u, by rw [upd_ne hb]; exact h2, h3⟩
  · have h' : upd g.ro a (.frz o (.dK vs)) b = some u := h
    by_cases hb : b = a
    · subst hb
      rw [upd_same] at h'
      cases h'
      refine ⟨upd_same, fun k hk => ?_⟩
      have : n = k := e.inj n k _ ha hk
      subst this
      rw [List.getElem?_set_self hlt]; trivial
    · rw [upd_ne hb] at h'
      obtain ⟨h1, h2⟩ := e.ro b u h'
      refine ⟨by rw [upd_ne hb]; exact h1, fun k hk => ?_⟩
      have q := h2 k hk
      have hkn : n ≠ k := fun z => by subst z; rw [hm] at q; exact q.elim
      rw [List.getElem?_set_ne hkn]; exact q
  · have h' : upd g.ro a (.frz o (.dK vs)) b = some u := h
    by_cases hb : b = a
    · subst hb
      rw [upd_same] at h'
      cases h'
      exact fun ps z => nomatch z
    · rw [upd_ne hb] at h'
      exact e.nt b u h'
/-- unlocked: what is a value stays so -/
theorem sqT_unl {a b : Addr} {o : Obj} {us : List (Key × V)} {xs : List V} (hH : H a = some (.frz o (.dK us))) (h : SqT K H b xs) : SqT K (upd H a (.dK us)) b xs := by
  rcases h with (h | ⟨ob, h⟩) | h
  · have : b ≠ a := fun z => by rw [z, hH] at h; cases h
    exact .inl (.inl (by rw [upd_ne this]; exact h))
  · have : b ≠ a := fun z => by rw [z, hH] at h; cases h
    exact .inl (.inr ⟨ob, by rw [upd_ne this]; exact h⟩)
  · exact .inr h
mutual
theorem Rp.unl {a : Addr} {o : Obj} {us : List (Key × V)} (hr : g.ro a = some (.frz o (.dK us))) (hH : H a = some (.frz o (.dK us))) : ∀ {v : PV} {w : V}, Rp K g H v w → Rp K (g.noR a) (upd H a (.dK us)) v w
  | _, _, .non => .non
  | _, _, .bl b => .bl b
  | _, _, .int i => .int i
  | _, _, .str l => .str l
  | _, _, .tup h r => .tup (sqT_unl hH h) (Rps.unl hr hH r)
  | _, _, .vl (a := b) h r => .vl (by
      have : b ≠ a := fun z => by rw [z, hr] at h; cases h
      show (if b = a then none else g.ro b) = _
      rw [if_neg this]; exact h) (Rps.unl hr hH r)
  | _, _, .fz (a := b) h r => .fz (by
      rcases h with (h | ⟨ob, h⟩) | h
      · have : b ≠ a := fun z => by rw [z, hr] at h; cases h
        exact .inl (.inl (by show (if b = a then none else g.ro b) = _; rw [if_neg this]; exact h))
      · have : b ≠ a := fun z => by rw [z, hr] at h; cases h
        exact .inl (.inr ⟨ob, by show (if b = a then none else g.ro b) = _; rw [if_neg this]; exact h⟩)
      · exact .inr h) (Rps.unl hr hH r)
  | _, _, .ref h => .ref h
  | _, _, .fn a => .fn a
theorem Rps.unl {a : Addr} {o : Obj} {us : List (Key × V)} (hr : g.ro a = some (.frz o (.dK us))) (hH : H a = some (.frz o (.dK us))) : ∀ {v : List PV} {w : List V}, Rps K g H v w → Rps K (g.noR a) (upd H a (.dK us)) v w
  | _, _, .nil => .nil
  | _, _, .cons h r => .cons (Rp.unl hr hH h) (Rps.unl hr hH r)
end
theorem Emb.unlockD (e : Emb K g m H) {n : Nat} {a : Addr} {o : Obj} {kvs : List (PV × PV)} {us : List (Key × V)} (hm : m[n]? = some (.dl kvs)) (ha : g.φ n = some a) (hr : g.ro a = some (.frz o (.dK us))) :
    Emb K (g.noR a) (m.set n (.dict kvs)) (upd H a (.dK us)) := by
  have hlt : n < m.length := (List.getElem?_eq_some_iff.mp hm).1
  have hH := (e.ro a _ hr).1
  have un : ∀ {v w}, Rp K g H v w → Rp K (g.noR a) (upd H a (.dK us)) v w := fun {v w} r => r.unl hr hH
  have uns : ∀ {v w}, Rps K g H v w → Rps K (g.noR a) (upd H a (.dK us)) v w := fun {v w} r => r.unl hr hH
  have rne : ∀ b u, g.ro b = some u → b ≠ a → (g.noR a).ro b = some u := fun b u h hb => by
    show (if b = a then none else g.ro b) = _
    rw [if_neg hb]; exact h
  refine ⟨fun k ob h => ?_, fun k b h => ?_, e.inj, fun b u h => ?_, fun b u h => ?_, tabs_wr e.tab hH (fun ps z => nomatch z) (fun ps z => nomatch z)⟩
  · by_cases hk : n = k
    · subst hk
      rw [List.getElem?_set_self hlt] at h
      cases h
      obtain ⟨a', o', us', p1, p2, p3⟩ := e.obj _ _ hm
      rw [ha] at p1; cases p1
      rw [hr] at p2; cases p2
      exact ⟨a, us, ha, upd_same, p3.imp un⟩
    · rw [List.getElem?_set_ne hk] at h
      have q := e.obj k ob h
      have ne : ∀ b, g.φ k = some b → b ≠ a := fun b hb z => hk (e.inj n k a ha (by rw [← z]; exact hb))
      cases ob with
      | lst zs =>
        obtain ⟨b, us, h1, h2, h3⟩ := q
        exact ⟨b, us, h1, by rw [upd_ne (ne b h1)]; exact h2, uns h3⟩
      | dict zs =>
        obtain ⟨b, us, h1, h2, h3⟩ := q
        exact ⟨b, us, h1, by rw [upd_ne (ne b h1)]; exact h2, h3.imp un⟩
      | ins cN zs =>
        obtain ⟨b, cC, cD, us, h1, cM, h2, h3⟩ := q
        exact ⟨b, cC, cD, us, h1, cM, by rw [upd_ne (ne b h1)]; exact h2, h3.imp un⟩
      | dl zs =>
        obtain ⟨b, ob, us, h1, h2, h3⟩ := q
        exact ⟨b, ob, us, h1, rne _ _ h2 (ne b h1), h3.imp un⟩
      | kd zs =>
        obtain ⟨b, us, h1, h2, h3⟩ := q
        exact ⟨b, us, h1, by rw [upd_ne (ne b h1)]; exact h2, h3.imp un⟩
      | kl zs =>
        obtain ⟨b, ob, us, h1, h2, h3⟩ := q
        exact ⟨b, ob, us, h1, rne _ _ h2 (ne b h1), h3.imp un⟩
      | dead => trivial
      | tab P l => exact q
  · obtain ⟨h1, u, h2, h3⟩ := e.dom k b h
    rw [List.length_set]
    by_cases hb : b = a
    · subst hb; exact ⟨h1, _, upd_same, .inl trivial⟩
    · exact ⟨h1, u, by rw [upd_ne hb]; exact h2, h3⟩
  · have h' : (if b = a then none else g.ro b) = some u := h
    split at h'
    · cases h'
    · rename_i hb
      obtain ⟨h1, h2⟩ := e.ro b u h'
      refine ⟨by rw [upd_ne hb]; exact h1, fun k hk => ?_⟩
      have q := h2 k hk
      have hkn : n ≠ k := fun z => by
        subst z
        have hk' : g.φ n = some b := hk
        rw [ha] at hk'; cases hk'; exact hb rfl
      rw [List.getElem?_set_ne hkn]; exact q
  · have h' : (if b = a then none else g.ro b) = some u := h
    split at h'
    · cases h'
    · exact e.nt b u h'
theorem Ext.unl {g1 : Gh} {H1 : Hp} {n : Nat} {a : Addr} {o : Obj} {us : List (Key × V)} (ha : g.φ n = some a) (hro : g.ro a = none) (x : Ext (g.addR a (.frz o (.dK us))) (upd H a (.frz o (.dK us))) g1 H1) : Ext g H (g1.noR a) (upd H1 a (.dK us)) := by
  have hne : ∀ {b : Addr}, (∀ k, g.φ k ≠ some b) → b ≠ a := fun {b} hb z => hb n (by rw [z]; exact ha)
  refine ⟨x.phi, fun b u h => ?_, fun b u h hb t => ?_, fun b u h hb t => ?_, fun b u h hb t hr => ?_, x.T⟩
  · have nb : b ≠ a := fun z => by rw [z, hro] at h; cases h
    show (if b = a then none else g1.ro b) = _
    rw [if_neg nb]
    exact x.ro b u (by show upd g.ro a _ b = _; rw [upd_ne nb]; exact h)
  · rw [upd_ne (hne hb)]
    exact x.fr b u (by rw [upd_ne (hne hb)]; exact h) hb t
  · exact x.old b u (by rw [upd_ne (hne hb)]; exact h) hb t
  · show (if b = a then none else g1.ro b) = _
    rw [if_neg (hne hb)]
    exact x.oldr b u (by rw [upd_ne (hne hb)]; exact h) hb t (by show upd g.ro a _ b = _; rw [upd_ne (hne hb)]; exact hr)
end
section
variable {X : Cx} {Ξ : XC} {st : Stmt} {e tg : Expr} {pos : Pos} {f : SS} {fe fa : SE}
theorem Sr.unl {K : KW} {g : Gh} {H : Hp} {s : Sl} {σ : L2.St} {a : Addr} {o : Obj} {us : List (Key × V)} (hr : g.ro a = some (.frz o (.dK us))) (hH : H a = some (.frz o (.dK us))) (r : Sr K g H s σ) : Sr K (g.noR a) (upd H a (.dK us)) s σ :=
  ⟨r.len, fun i v h => let ⟨w, h1, h2⟩ := r.at_ i v h; ⟨w, h1, h2.unl hr hH⟩⟩
/-- a statement runs while a dict is locked -/
theorem ss_lk (p : At) (h : PS X st (rdS X.kw Ξ f)) : PS X st (rdS X.kw Ξ (sLk p f)) :=
  PS_imp (ps_lock h) fun D σ H ⟨g, s, m, em, sr, q⟩ => by
    unfold sLk at q
    split at q
    · rename_i n hn
      split at q
      · rename_i kvs hm
        obtain ⟨a, vs, ha, hH, r⟩ := em.obj _ _ hm
        refine ⟨a, .dK vs, hH, trivial, fun od => ?_⟩
        obtain ⟨hro, x0, e0⟩ := em.lockD od hm ha hH r
        refine ⟨_, s, _, e0, sr.ext em x0, ?_⟩
        cases hb : f s (m.set n (.dl kvs)) with
        | ok z =>
          obtain ⟨fl, s2, m2⟩ := z
          rw [hb] at q
          simp only at q
          split at q
          · rename_i kvs2 hm2
            intro g1 H1 σ1 x1 e1 r1
            have hr1 : g1.ro a = some (.frz od (.dK vs)) := x1.ro _ _ upd_same
            have hH1 := (e1.ro _ _ hr1).1
            have e2 := e1.unlockD hm2 (x1.phi _ _ ha) hr1
            have x2 := Ext.unl ha hro x1
            have q2 := q (g1.noR a) (upd H1 a (.dK vs)) σ1 x2 e2 (r1.unl hr1 hH1)
            cases fl with
            | nx => exact ⟨hH1, q2⟩
            | bk => exact ⟨hH1, q2⟩
            | ct => exact ⟨hH1, q2⟩
            | rt v => exact fun V rv => ⟨hH1, q2 V (rv.unl hr1 hH1)⟩
          · exact q.elim
        | ex e m => rw [hb] at q; exact q.elim
        | no => rw [hb] at q; exact q.elim
      · exact q.elim
    · exact q.elim
/-- an expression is evaluated while a dict is locked -/
theorem se_lk (p : At) (h : PE X e (rdE X.kw Ξ fe)) : PE X e (rdE X.kw Ξ (eLk p fe)) :=
  PE_imp (pe_lock h) fun σ H Q ⟨g, s, m, em, sr, q⟩ => by
    unfold eLk at q
    split at q
    · rename_i n hn
      split at q
      · rename_i kvs hm
        obtain ⟨a, vs, ha, hH, r⟩ := em.obj _ _ hm
        refine ⟨a, .dK vs, hH, trivial, fun od => ?_⟩
        obtain ⟨hro, x0, e0⟩ := em.lockD od hm ha hH r
        refine ⟨_, s, _, e0, sr.ext em x0, ?_⟩
        cases hb : fe s (m.set n (.dl kvs)) with
        | ok z =>
          obtain ⟨v, m2⟩ := z
          rw [hb] at q
          simp only at q
          split at q
          · rename_i kvs2 hm2
            intro g1 H1 V x1 e1 r1
            have hr1 : g1.ro a = some (.frz od (.dK vs)) := x1.ro _ _ upd_same
            have hH1 := (e1.ro _ _ hr1).1
            have e2 := e1.unlockD hm2 (x1.phi _ _ ha) hr1
            have x2 := Ext.unl ha hro x1
            exact ⟨hH1, q (g1.noR a) (upd H1 a (.dK vs)) V x2 e2 (r1.unl hr1 hH1)⟩
          · exact q.elim
        | ex e m => rw [hb] at q; exact q.elim
        | no => rw [hb] at q; exact q.elim
      · exact q.elim
    · exact q.elim
theorem rks_get {K : KW} {g : Gh} {H : Hp} : ∀ {kvs : List (PV × PV)} {vs : List (Key × V)}, RKs K g H kvs vs → ∀ {i : Nat} {k : Key} {v : V}, vs[i]? = some (k, v) → ∃ p, kvs[i]? = some p ∧ Rp K g H p.1 (kV k) ∧ Rp K g H p.2 v
  | _, _, .nil, _, _, _, h => by simp at h
  | _, _, .cons (k := a) ka rv r, 0, k, v, h => by
    simp at h
    obtain ⟨rfl, rfl⟩ := h
    refine ⟨_, rfl, ?_, rv⟩
    cases a with
    | int i => simp only [keyOf] at ka; cases ka; exact .int i
    | str l => simp only [keyOf] at ka; cases ka; exact .str l
    | _ => cases ka
  | _, _, .cons ka rv r, i + 1, k, v, h => by
    obtain ⟨p, h1, h2⟩ := rks_get r (i := i) (k := k) (v := v) (by simpa using h)
    exact ⟨p, by simpa using h1, h2⟩
theorem RKs.length' {K : KW} {g : Gh} {H : Hp} : ∀ {kvs : List (PV × PV)} {vs : List (Key × V)}, RKs K g H kvs vs → kvs.length = vs.length
  | _, _, .nil => rfl
  | _, _, .cons _ _ r => by simp [RKs.length' r]
theorem wk_dk {K : KW} {g : Gh} {H : Hp} {kvs : List (PV × PV)} {vs : List (Key × V)} {d : Addr} {o : Obj} {m : Mm} (em : Emb K g m H) (hd : g.ro d = some (.frz o (.dK vs))) (r : RKs K g H kvs vs) : Wk K g H (kvs.map (·.1)) (Itk d o vs) := by
  refine ⟨fun g' m' H' i x' e' hi => ?_, fun g' m' H' i x' e' hi => ?_⟩
  · rw [List.length_map, r.length'] at hi
    refine ⟨⟨(e'.ro _ _ (x'.ro _ _ hd)).1, hi⟩, fun x H2 ⟨e2, k, v, hy, hx⟩ => ?_⟩
    subst e2 hx
    obtain ⟨p, hp, rk, _⟩ := rks_get (r.ext em x') hy
    exact ⟨g', p.1, Ext.refl _ _, e', by rw [List.getElem?_map, hp]; rfl, rk⟩
  · rw [List.length_map, r.length'] at hi
    exact ⟨(e'.ro _ _ (x'.ro _ _ hd)).1, hi⟩
theorem wk_di {K : KW} {g : Gh} {H : Hp} {kvs : List (PV × PV)} {vs : List (Key × V)} {d : Addr} {o : Obj} {m : Mm} (em : Emb K g m H) (hd : g.ro d = some (.frz o (.dK vs))) (r : RKs K g H kvs vs) : Wk K g H (kvs.map fun p => .tup [p.1, p.2]) (Iti d o vs) := by
  refine ⟨fun g' m' H' i x' e' hi => ?_, fun g' m' H' i x' e' hi => ?_⟩
  · rw [List.length_map, r.length'] at hi
    refine ⟨⟨(e'.ro _ _ (x'.ro _ _ hd)).1, hi⟩, fun x H2 ⟨T, k, v, hy, hx, hT, e2⟩ => ?_⟩
    subst e2 hx
    obtain ⟨p, hp, rk, rv⟩ := rks_get (r.ext em x') hy
    obtain ⟨x3, e3, r3⟩ := e'.new_tup hT (.cons rk (.cons rv .nil))
    exact ⟨g', _, x3, e3, by rw [List.getElem?_map, hp]; rfl, r3⟩
  · rw [List.length_map, r.length'] at hi
    exact ⟨(e'.ro _ _ (x'.ro _ _ hd)).1, hi⟩
/-- for k in d, locked -/
theorem si_dk (h : PE X e (rdE X.kw Ξ fa)) : PI X tg e (rdI X.kw Ξ (iDk fa)) :=
  PI_imp (pi_keys h) fun σ H R ⟨g, s, m, em, sr, q⟩ => by
    refine ⟨g, s, m, em, sr, QR.bind q fun p hp q1 g1 H1 V x1 e1 r1 => ?_⟩
    obtain ⟨v, m1⟩ := p
    cases v with
    | ref n =>
      obtain ⟨d, rfl, hd⟩ := r1.ref_inv
      simp only at q1
      split at q1
      · rename_i kvs hm
        obtain ⟨a, o, vs, h1, h2, h3⟩ := e1.obj _ _ hm
        rw [hd] at h1; cases h1
        exact ⟨d, o, rfl, .inl ⟨vs, (e1.ro _ _ h2).1, q1 g1 H1 _ x1 e1 (wk_dk e1 h2 h3)⟩⟩
      · exact q1.elim
    | _ => exact q1.elim
/-- for k, v in d.items(), locked -/
theorem si_di {elts : List Expr} {kk : Nat} {tpos apos cpos : Pos} (h : PE X e (rdE X.kw Ξ fa)) (hbase : attributeBase e "items" X.env (eval e X.env) = eval e X.env := by rfl) (hline : (apos.endLine == cpos.line) = true := by rfl) : PI X (.Tuple elts kk tpos) (.Call (.Attribute e "items" apos) [] [] cpos) (rdI X.kw Ξ (iDi fa)) :=
  PI_imp (pi_items h hbase hline) fun σ H R ⟨g, s, m, em, sr, q⟩ => by
    refine ⟨g, s, m, em, sr, QR.bind q fun p hp q1 g1 H1 V x1 e1 r1 => ?_⟩
    obtain ⟨v, m1⟩ := p
    cases v with
    | ref n =>
      obtain ⟨d, rfl, hd⟩ := r1.ref_inv
      simp only at q1
      split at q1
      · rename_i kvs hm
        obtain ⟨a, o, vs, h1, h2, h3⟩ := e1.obj _ _ hm
        rw [hd] at h1; cases h1
        exact ⟨d, o, vs, rfl, (e1.ro _ _ h2).1, q1 g1 H1 _ x1 e1 (wk_di e1 h2 h3)⟩
      · exact q1.elim
    | _ => exact q1.elim
end
end TT
end

section
set_option Elab.async false
set_option linter.all false
set_option autoImplicit false
set_option maxRecDepth 100000
/-! TT: dict comprehensions; list(d); sorted, min of whole numbers; list * int as an object -/
namespace TT
open PySem PySem.Spec PyProof.Rows L2
section
variable {K : KW} {Ξ : XC}
theorem dPut_line {kvs : List (PV × PV)} {vs : List (Key × V)} {g : Gh} {H : Hp} (r : RKs K g H kvs vs) (h : kvs.length < LINE) : vs.length < sizeLine := by rw [← r.length]; exact line_lt h
theorem rd_dc {own : List Nat} {it : SI} {i : Nat} {ft : ST} {fk fv : SE} (hi : i ∈ own) {σ : L2.St} {H : Hp} {Q : VK}
    (h : rdE K Ξ (eDc own it (TT.gName i) ft fk fv) σ H Q) : L2.tDc (rdI K Ξ it) (L2.gName i) (rdT K X0 ft) (rdE K X0 fk) (rdE K X0 fv) own σ H Q := by
  obtain ⟨g, s, m, em, sr, q⟩ := h
  refine ⟨g, s, m, em, sr, QR.bind q fun p hp q1 g1 H1 J x1 e1 wk => ?_⟩
  obtain ⟨xs, m1⟩ := p
  intro D hD
  have hw : ∀ (v : V) (σ : L2.St) (H : Hp) (Q : L2.St → Hp → Prop), rdG K X0 (TT.gName i) v (L2.wipe σ own) H Q → L2.gName i v (L2.wipe σ own) H fun (σ2 : L2.St) H2 => L2.wipe σ2 own = L2.wipe σ own ∧ Q σ2 H2 := fun v σ H Q ⟨g, s, m, pv, em, sr, rv, q⟩ =>
    ⟨wipe_set hi, q g H _ (Ext.refl _ _) em (sr.set rv i)⟩
  have q1' : QE K Ξ g1 H1 Q ((dcL (TT.gName i) ft fk fv (TT.wipe s own) xs m1 []).bind fun p => Rs.ok (PV.ref p.2.length, p.2 ++ [.dict p.1])) := QE.later x1 q1
  have e0 := e1.other (o := .dK []) (fun n => e1.free hD n) (e1.freeR hD) (fun xs h => by rcases h with h | ⟨ob, h⟩ <;> rw [hD] at h <;> cases h) (tabs_new e1.tab hD)
  refine ⟨fun u n H => ∃ g m acc ws, Ext g1 H1 g H ∧ Emb K g m H ∧ Sr K g H (TT.wipe s own) (L2.wipe σ own) ∧ H D = some (.dK ws) ∧ RKs K g H acc ws ∧ (∀ n, g.φ n ≠ some D) ∧ g.ro D = none ∧ n = xs.length - u ∧
      QE K Ξ g1 H1 Q ((dcL (TT.gName i) ft fk fv (TT.wipe s own) (xs.drop u) m acc).bind fun p => Rs.ok (PV.ref p.2.length, p.2 ++ [.dict p.1])), ⟨xs.length, g1, m1, [], [], (Ext.refl _ _).other hD, e0.1, sr_of_rp e0.2 ((sr.ext em x1).wipe own), upd_same, .nil, fun n => e1.free hD n, e1.freeR hD, by simp, by simpa using q1'⟩, ?_⟩
  rintro j n H2 ⟨g2, m2, acc, ws, x2, e2, r2, hD2, ra, f1, f2, rfl, q2⟩
  by_cases hlt : j < xs.length
  · obtain ⟨h1, h2⟩ := wk.go g2 m2 H2 j x2 e2 hlt
    refine .inr ⟨h1, fun H' => ∃ g m acc ws, Ext g1 H1 g H' ∧ Emb K g m H' ∧ Sr K g H' (TT.wipe s own) (L2.wipe σ own) ∧ H' D = some (.dK ws) ∧ RKs K g H' acc ws ∧ (∀ n, g.φ n ≠ some D) ∧ g.ro D = none ∧
      QE K Ξ g1 H1 Q ((dcL (TT.gName i) ft fk fv (TT.wipe s own) (xs.drop (j + 1)) m acc).bind fun p => Rs.ok (PV.ref p.2.length, p.2 ++ [.dict p.1])), ?_, ?_⟩
    · rintro H' ⟨g', m', acc', ws', hx, he, hr, hd, ha, hf1, hf2, hq⟩
      exact ⟨xs.length - (j + 1), by omega, g', m', acc', ws', hx, he, hr, hd, ha, hf1, hf2, rfl, hq⟩
    · intro x H3 hy
      obtain ⟨g3, v, x3, e3, hv, rv⟩ := h2 x H3 hy
      have hd : xs.drop j = v :: xs.drop (j + 1) := by
        rw [List.drop_eq_getElem_cons hlt]
        rw [List.getElem?_eq_getElem hlt] at hv
        cases hv; rfl
      rw [hd] at q2
      simp only [dcL] at q2
      have reb : ∀ {α β γ : Type} (r : Rs α) (k : α → Rs β) (l : β → Rs γ), (r.bind k).bind l = r.bind fun a => (k a).bind l := fun r k l => by cases r <;> rfl
      rw [reb] at q2
      have nL : ∀ {zs : List (Key × V)}, NT (.dK zs) := fun ps z => nomatch z
      have r3 := r2.ext e2 x3
      have a3 := ra.ext e2 x3
      have d3 := x3.fr _ _ hD2 f1 nL
      have f13 := x3.old _ _ hD2 f1 nL
      have f23 := x3.oldr _ _ hD2 f1 nL f2
      have xx3 := x2.trans x3
      refine hw x σ H3 _ ⟨g3, _, m2, v, e3, r3, rv, QR.nxAt q2 fun p4 hp4 q4 g4 H4 σ4 x4 e4 r4 => ?_⟩
      obtain ⟨s4, m4⟩ := p4
      simp only at q4
      rw [reb] at q4
      have a4 := a3.ext e3 x4
      have d4 := x4.fr _ _ d3 f13 nL
      have f14 := x4.old _ _ d3 f13 nL
      have f24 := x4.oldr _ _ d3 f13 nL f23
      have w4 := r3.ext e3 x4
      have xx4 := xx3.trans x4
      refine ⟨g4, s4, m4, e4, r4, QR.nxAt q4 fun p5 hp5 q5 g5 H5 x5 e5 => ?_⟩
      obtain ⟨k, m5⟩ := p5
      have a5 := a4.ext e4 x5
      have d5 := x5.fr _ _ d4 f14 nL
      have f15 := x5.old _ _ d4 f14 nL
      have f25 := x5.oldr _ _ d4 f14 nL f24
      have w5 := w4.ext e4 x5
      have xx5 := xx4.trans x5
      cases k with
      | false =>
        refine iteF ⟨g5, m5, acc, ws, xx5, e5, w5, d5, a5, f15, f25, ?_⟩
        simpa using q5
      | true =>
        simp only [if_true] at q5
        rw [reb] at q5
        refine iteT ⟨g5, s4, m5, e5, r4.ext e4 x5, QR.nxAt q5 fun p6 hp6 q6 g6 H6 y x6 e6 ry => ?_⟩
        obtain ⟨pv, m6⟩ := p6
        simp only at q6
        rw [reb] at q6
        have a6 := a5.ext e5 x6
        have d6 := x6.fr _ _ d5 f15 nL
        have f16 := x6.old _ _ d5 f15 nL
        have f26 := x6.oldr _ _ d5 f15 nL f25
        have w6 := w5.ext e5 x6
        have xx6 := xx5.trans x6
        refine ⟨g6, s4, m6, e6, (r4.ext e4 x5).ext e5 x6, QR.nxAt q6 fun p7 hp7 q7 g7 H7 z x7 e7 rz => ?_⟩
        obtain ⟨pz, m7⟩ := p7
        simp only at q7
        have ry7 := ry.ext e6 x7
        have a7 := a6.ext e6 x7
        have d7 := x7.fr _ _ d6 f16 nL
        have f17 := x7.old _ _ d6 f16 nL
        have f27 := x7.oldr _ _ d6 f16 nL f26
        have w7 := w6.ext e6 x7
        have xx7 := xx6.trans x7
        by_cases hl : (keyOk pv && decide (acc.length < LINE)) = true
        · rw [if_pos hl] at q7
          simp only [Bool.and_eq_true, decide_eq_true_eq] at hl
          obtain ⟨k', hk'⟩ := keyOf_ok hl.1
          have hno : ∀ xs, ¬ Rd H7 D (.tup xs) := fun xs h => by rcases h with h | ⟨ob, h⟩ <;> rw [d7] at h <;> cases h
          have e8 := e7.other (o := .dK (putK ws k' z)) f17 f27 hno (tabs_wr e7.tab d7 nL (fun _ z => nomatch z))
          refine ⟨ws, k', rp_key ry7 hk', d7, dPut_line ra hl.2, g7, m7, dPut acc pv pz, putK ws k' z, xx7.other hD, e8.1, sr_of_rp e8.2 w7, upd_same, (a7.put hk' rz).imp e8.2, f17, f27, q7⟩
        · rw [if_neg hl] at q7
          exact q7.elim
  · have hle : xs.length ≤ j := Nat.le_of_not_lt hlt
    refine .inl ⟨wk.stop g2 m2 H2 j x2 e2 hle, ?_⟩
    rw [List.drop_of_length_le hle] at q2
    have q3 : QE K Ξ g1 H1 Q (.ok (.ref m2.length, m2 ++ [.dict acc])) := q2
    have hφ : ∀ n a, g2.φ n = some a → (g2.addP m2.length D).φ n = some a := fun n a h => by
      have : n ≠ m2.length := fun z => by subst z; rw [e2.fresh_id] at h; cases h
      show (if n = m2.length then some D else g2.φ n) = some a
      rw [if_neg this]; exact h
    have hself : (g2.addP m2.length D).φ m2.length = some D := by show (if m2.length = m2.length then some D else _) = some D; rw [if_pos rfl]
    obtain ⟨e3, tr3⟩ := e2.adopt (p := D) (u := .dK ws) (ob := .dict acc) hD2 trivial f1 f2 ⟨D, ws, hself, hD2, ra.imp fun r => r.mono hφ (fun _ _ h => h) (fun _ _ h => h)⟩
    exact q3 _ _ _ (x2.adopt e2 hD) e3 (.ref hself)
end
section
variable {X : Cx} {Ξ : XC} {o e : Expr} {pos : Pos}
theorem se_dc {kx vx iter : Expr} {ifs : List Expr} {scope : Scope} {own : List (Str × Nat)} {oi : List Nat} {x : Str} {px : Pos} {it : SI} {ft : ST} {fk fv : SE} (i : Nat) (hc : X.calm = true) (hN : X.N.Nodup) (hi : PI X (.Name x px) iter (rdI X.kw Ξ it)) (ok : BlkOk X.N X.env.scope scope own)
    (hg : ∀ (s : Shared) (H : Hp) (C : Addr) (cl : List (Str × Addr)) (fp : List Addr), PG (X.blk s H scope (compEnvC scope cl C X.env) fp) (.Name x px) (L2.gName i)) (ht : ∀ (s : Shared) (H : Hp) (C : Addr) (cl : List (Str × Addr)) (fp : List Addr), PTs (X.blk s H scope (compEnvC scope cl C X.env) fp) ifs (rdT X.kw X0 ft))
    (hk : ∀ (s : Shared) (H : Hp) (C : Addr) (cl : List (Str × Addr)) (fp : List Addr), PE (X.blk s H scope (compEnvC scope cl C X.env) fp) kx (rdE X.kw X0 fk))
    (he : ∀ (s : Shared) (H : Hp) (C : Addr) (cl : List (Str × Addr)) (fp : List Addr), PE (X.blk s H scope (compEnvC scope cl C X.env) fp) vx (rdE X.kw X0 fv)) (hs : ∀ x, foldedSetIterable iter X.env x = pure x := by intro _; rfl) (ho : own.map (·.2) = oi := by rfl) (hm : i ∈ own.map (·.2) := by decide) :
    PE X (.DictComp kx vx [⟨.Name x px, iter, ifs, 0⟩] scope pos) (rdE X.kw Ξ (eDc oi it (TT.gName i) ft fk fv)) := by
  subst ho
  exact PE_imp (L2.pe_dc hc hN hi ok hg ht hk he hs) fun σ H Q h => rd_dc hm h
theorem sw_trueD {kx vx : Expr} {gs : List Comprehension} {scope : Scope} {pos py : Pos} {y : Str} {l : Nat} {env : Env} (h1 : env.scope.kind = .function) (h2 : env.scope.names.lookup y = some .local) (h3 : (py.line == pos.line) = true)
    (h4 : (scope.names.any fun (n, k) => n == y && (k == .local || k == .cell)) = false) : swapsWith (.DictComp kx vx gs scope pos) (some (.Name y py)) l env = pure true := by
  have k1 : env.kindOf y = some .local := h2
  have k2 : env.blockKind = .function := by unfold Env.blockKind; rw [h1]; rfl
  unfold swapsWith
  simp only [k2, k1, h4, Expr.pos, h3]
  rfl
/-- y = {k: v for ..} , y a local name -/
theorem ss_setDc {kx vx iter : Expr} {ifs : List Expr} {scope : Scope} {own : List (Str × Nat)} {oi : List Nat} {x y : Str} {px py spos : Pos} {it : SI} {ft : ST} {fk fv : SE} (iy i : Nat) (hc : X.calm = true) (hN : X.N.Nodup) (hi : PI X (.Name x px) iter (rdI X.kw Ξ it)) (ok : BlkOk X.N X.env.scope scope own)
    (hg : ∀ (s : Shared) (H : Hp) (C : Addr) (cl : List (Str × Addr)) (fp : List Addr), PG (X.blk s H scope (compEnvC scope cl C X.env) fp) (.Name x px) (L2.gName i)) (ht : ∀ (s : Shared) (H : Hp) (C : Addr) (cl : List (Str × Addr)) (fp : List Addr), PTs (X.blk s H scope (compEnvC scope cl C X.env) fp) ifs (rdT X.kw X0 ft))
    (hk : ∀ (s : Shared) (H : Hp) (C : Addr) (cl : List (Str × Addr)) (fp : List Addr), PE (X.blk s H scope (compEnvC scope cl C X.env) fp) kx (rdE X.kw X0 fk))
    (he : ∀ (s : Shared) (H : Hp) (C : Addr) (cl : List (Str × Addr)) (fp : List Addr), PE (X.blk s H scope (compEnvC scope cl C X.env) fp) vx (rdE X.kw X0 fv)) (hsw : swapsWith (.DictComp kx vx [⟨.Name x px, iter, ifs, 0⟩] scope pos) (some (.Name y py)) spos.line X.env = pure true)
    (hy : X.N[iy]? = some y := by rfl) (hyl : X.env.scope.names.lookup y = some .local := by rfl) (hs : ∀ x, foldedSetIterable iter X.env x = pure x := by intro _; rfl) (ho : own.map (·.2) = oi := by rfl) (hm : i ∈ own.map (·.2) := by decide) :
    PS X (.Assign [.Name y py] (.DictComp kx vx [⟨.Name x px, iter, ifs, 0⟩] scope pos) spos) (rdS X.kw Ξ (sAsg (eDc oi it (TT.gName i) ft fk fv) (TT.gName iy))) := by
  subst ho
  refine ⟨fun pins s σ H D I h => ?_⟩
  have q : L2.tDc (rdI X.kw Ξ it) (L2.gName i) (rdT X.kw X0 ft) (rdE X.kw X0 fk) (rdE X.kw X0 fv) (own.map (·.2)) σ H (fun z H1 => L2.gName iy z σ H1 D.nx) := by
    obtain ⟨g, sl, m, em, sr, q⟩ := h
    refine rd_dc (Ξ := Ξ) hm ⟨g, sl, m, em, sr, QR.bind q fun p hp q1 g1 H1 V x1 e1 r1 => ?_⟩
    exact QS_nx e1 ((sr.ext em x1).set r1 iy) (QS.later x1 q1)
  rw [exec_Assign_Name_used _ _ _ _ hsw]
  refine wpAny_bind (wpAny_standAt (wpAny_bind ?_))
  have core := dc_core (pos' := firstIterPos [⟨.Name x px, iter, ifs, 0⟩] pos) (pos := pos) (use := some (assign (.Name y py) X.env)) (Qf := fun _ s' => SP X pins D .next s') hc hN I hi ok hg ht hk he hs q fun L C s' m H' I' q' hn f => by
    show wpAny _ _ (assign (.Name y py) X.env (.ref L)) _ _ _
    obtain ⟨n0, n1, n2, n3, n4, n5⟩ := f
    refine wpAny_assign_Name (store_ok2 (v := V.ref L) I' hN hy (.inl hyl) rfl (fun s2 I2 ⟨a, sb, ha⟩ => ?_) (.inr hyl))
    have dis : C ≠ a := by
      rcases ha with z | z
      · rw [z]; exact n1
      · exact fun e => n4 y a z e.symm
    refine ⟨m, hn.sameBut sb dis, fun h4 sb4 => ⟨_, H', ?_, q'⟩⟩
    exact I2.turned (t' := s2.toks) (fun b o hb e => (sb4.2 b hb).trans e) n0 n1 n3 n4 n5
  exact wpAny_bind (thn core fun _ s' hq => wpAny_pure (wpAny_pure hq))
theorem rks_keys {K : KW} {g : Gh} {H : Hp} : ∀ {kvs : List (PV × PV)} {vs : List (Key × V)}, RKs K g H kvs vs → Rps K g H (kvs.map (·.1)) (vs.map fun kv => kV kv.1)
  | _, _, .nil => .nil
  | _, _, .cons (k := a) ka rv r => by
    refine .cons ?_ (rks_keys r)
    cases a with
    | int i => simp only [keyOf] at ka; cases ka; exact .int i
    | str l => simp only [keyOf] at ka; cases ka; exact .str l
    | _ => cases ka
theorem call_tListD (hc : X.calm = true) : CallR X (.type "list") (rdN X.kw Ξ fListD) := by
  refine CallR_imp (call_list_dK hc) fun xs H Q ⟨g, m, as, e, ra, q⟩ => ?_
  unfold fListD at q
  split at q
  · rename_i n
    cases ra with
    | cons r1 r2 =>
      cases r2
      obtain ⟨a, rfl, ha⟩ := r1.ref_inv
      split at q
      · rename_i kvs hm
        obtain ⟨a2, vs, h1, h2, h3⟩ := e.obj _ _ hm
        rw [ha] at h1; cases h1
        exact ⟨a, vs, rfl, h2, fun p hp => QE.newL e (rks_keys h3) q hp⟩
      · exact q.elim
  · exact q.elim
theorem insI_perm (x : Int) : ∀ l, (insI x l).Perm (x :: l)
  | [] => .refl _
  | y :: r => by
    unfold insI
    split
    · exact .refl _
    · exact ((insI_perm x r).cons y).trans (.swap x y r)
theorem srtI_perm : ∀ l, (srtI l).Perm l
  | [] => .refl _
  | x :: r => (insI_perm x (srtI r)).trans ((srtI_perm r).cons x)
theorem insI_sorted (x : Int) : ∀ l : List Int, l.Pairwise (· ≤ ·) → (insI x l).Pairwise (· ≤ ·)
  | [], _ => by simp [insI]
  | y :: r, h => by
    unfold insI
    split
    · rename_i hxy
      refine .cons (fun z hz => ?_) h
      rcases List.mem_cons.mp hz with rfl | hz
      · exact hxy
      · exact Int.le_trans hxy ((List.pairwise_cons.mp h).1 z hz)
    · rename_i hxy
      have hp := List.pairwise_cons.mp h
      refine .cons (fun z hz => ?_) (insI_sorted x r hp.2)
      rcases List.mem_cons.mp ((insI_perm x r).mem_iff.mp hz) with rfl | hz
      · omega
      · exact hp.1 z hz
theorem srtI_sorted : ∀ l : List Int, (srtI l).Pairwise (· ≤ ·)
  | [] => .nil
  | x :: r => insI_sorted x _ (srtI_sorted r)
theorem sorted_one : ∀ {l k : List Int}, l.Perm k → l.Pairwise (· ≤ ·) → k.Pairwise (· ≤ ·) → l = k
  | [], k, h, _, _ => h.nil_eq
  | x :: l, k, h, hl, hk => by
    cases k with
    | nil => exact absurd h.length_eq (by simp)
    | cons y k =>
      have h1 := List.pairwise_cons.mp hl
      have h2 := List.pairwise_cons.mp hk
      have exy : x = y := by
        have a1 : x ≤ y := by
          rcases List.mem_cons.mp (h.mem_iff.mpr List.mem_cons_self) with e | e
          · omega
          · exact h1.1 y e
        have a2 : y ≤ x := by
          rcases List.mem_cons.mp (h.mem_iff.mp List.mem_cons_self) with e | e
          · omega
          · exact h2.1 x e
        omega
      subst exy
      rw [sorted_one (h.cons_inv) h1.2 h2.2]
theorem rps_ints' {K : KW} {g : Gh} {H : Hp} : ∀ ns : List Int, Rps K g H (ns.map PV.int) (ns.map V.int)
  | [] => .nil
  | n :: r => .cons (.int n) (rps_ints' r)
theorem call_tSorted : CallR X (.builtin "sorted") (rdN X.kw Ξ fSorted) := by
  refine CallR_imp cr_sorted fun xs H Q ⟨g, m, as, e, ra, q⟩ => ?_
  unfold fSorted at q
  split at q
  · rename_i a
    cases ra with
    | cons r1 r2 =>
      cases r2
      split at q
      · rename_i ys h1
        obtain ⟨a1, vs, rfl, ha, r1'⟩ := e.look r1 h1
        split at q
        · rename_i is hi
          cases intsOf_rel hi r1'
          split at q
          · rename_i hl
            refine ⟨a1, is, rfl, SqL.of ha, hl, fun ns' p hp hs hn => ?_⟩
            have : ns' = srtI is := sorted_one (hp.trans (srtI_perm is).symm) hs (srtI_sorted is)
            subst this
            exact QE.newL e (rps_ints' _) q hn
          · exact q.elim
        · exact q.elim
      · exact q.elim
  · exact q.elim
theorem minL_min : ∀ {l : List Int} {v : Int}, minL l = some v → v ∈ l ∧ ∀ y ∈ l, v ≤ y
  | [x], v, h => by cases h; exact ⟨List.mem_cons_self, fun y hy => by rw [List.mem_singleton.mp hy]; exact Int.le_refl _⟩
  | x :: z :: r, v, h => by
    unfold minL at h
    cases hm : minL (z :: r) with
    | none => rw [hm] at h; cases h
    | some w =>
      rw [hm] at h
      obtain ⟨h1, h2⟩ := minL_min hm
      simp only [Option.map_some, Option.some.injEq] at h
      split at h
      · subst h
        exact ⟨List.mem_cons_self, fun y hy => by
          rcases List.mem_cons.mp hy with rfl | hy
          · exact Int.le_refl _
          · have := h2 y hy; omega⟩
      · subst h
        exact ⟨List.mem_cons_of_mem _ h1, fun y hy => by
          rcases List.mem_cons.mp hy with rfl | hy
          · omega
          · exact h2 y hy⟩
theorem call_tMinL (hc : X.calm = true) : CallR X (.builtin "min") (rdN X.kw Ξ fMinL) := by
  refine CallR_imp (cr_min hc) fun xs H Q ⟨g, m, as, e, ra, q⟩ => ?_
  unfold fMinL at q
  split at q
  · rename_i a
    cases ra with
    | cons r1 r2 =>
      cases r2
      split at q
      · rename_i ys h1
        obtain ⟨a1, vs, rfl, ha, r1'⟩ := e.look r1 h1
        split at q
        · rename_i is hi
          cases intsOf_rel hi r1'
          split at q
          · rename_i v hv
            obtain ⟨m1, m2⟩ := minL_min hv
            refine ⟨a1, is, rfl, SqL.of ha, List.length_pos_of_mem m1, fun z hz hz2 => ?_⟩
            have : z = v := by
              have := hz2 v m1
              have := m2 z hz
              omega
            subst this
            exact QE.ret e (.int _) q
          · exact q.elim
        · exact q.elim
      · exact q.elim
  · exact q.elim
theorem op_tMulM : OpR X (binaryOp .Mult) (rd2 X.kw Ξ oMulM) := by
  refine OpR_imp (op_rep (X := X)) fun x y H Q ⟨g, m, a, b, e, ra, rb, q⟩ => ?_
  unfold oMulM at q
  split at q
  · rename_i xs k h1
    obtain ⟨a1, vs, rfl, ha, r1⟩ := e.look ra h1
    cases rb.int_inv
    split at q
    · rename_i hc
      simp only [Bool.and_eq_true, decide_eq_true_eq] at hc
      obtain ⟨⟨c1, c2⟩, c3⟩ := hc
      refine ⟨a1, k, vs, rfl, rfl, ha, by omega, by omega, ?_, fun p hp => QE.newM e (r1.rep k.toNat) q hp⟩
      rw [← r1.length, sizeLine_eq]
      have : xs.length * k.toNat ≤ 100 * 100000 := Nat.mul_le_mul c3 (by omega)
      omega
    · exact q.elim
  · exact q.elim
theorem se_dnew : PE X (.Dict [] [] pos) (rdE X.kw Ξ eDNew) :=
  PE_imp pe_dnewK fun σ H Q ⟨g, s, m, em, sr, q⟩ p hp => by
    have hf := em.free hp
    have hr := em.freeR hp
    obtain ⟨e0, tr⟩ := em.other (D := p) (o := .dK []) hf hr (fun xs z => by
      rcases z with z | ⟨o, z⟩ <;> rw [hp] at z <;> cases z) (tabs_new em.tab hp)
    have x0 : Ext g H g (upd H p (.dK [])) := Ext.newTup hp fun ⟨n, z⟩ => hf n z
    have hself : (g.addP m.length p).φ m.length = some p := by show (if m.length = m.length then some p else _) = some p; rw [if_pos rfl]
    obtain ⟨e3, tr3⟩ := e0.adopt (p := p) (u := .dK []) (ob := .dict []) upd_same trivial hf hr ⟨p, [], hself, upd_same, .nil⟩
    exact q _ _ _ (x0.adopt e0 hp) e3 (.ref hself)
end
end TT
end

section
set_option Elab.async false
set_option linter.all false
set_option autoImplicit false
set_option maxRecDepth 100000
/-! TT: sets of whole numbers, sorted, counted -/
namespace TT
open PySem PySem.Spec PyProof.Rows L2
theorem bb_set : bootBuiltins "set" = some (.type "set") := by decide +kernel
theorem usI_mem (x : Int) : ∀ (l : List Int) (k : Int), k ∈ usI x l ↔ k = x ∨ k ∈ l
  | [], k => by simp [usI]
  | y :: r, k => by
    unfold usI
    split
    · simp
    · split
      · rename_i h; subst h; simp
      · rw [List.mem_cons, usI_mem x r k, List.mem_cons]
        constructor
        · rintro (h | h | h)
          · exact .inr (.inl h)
          · exact .inl h
          · exact .inr (.inr h)
        · rintro (h | h | h)
          · exact .inr (.inl h)
          · exact .inl h
          · exact .inr (.inr h)
theorem uniI_mem : ∀ (l : List Int) (k : Int), k ∈ uniI l ↔ k ∈ l
  | [], k => Iff.rfl
  | x :: r, k => by rw [uniI, usI_mem, uniI_mem r, List.mem_cons]
theorem usI_lt (x : Int) : ∀ l : List Int, l.Pairwise (· < ·) → (usI x l).Pairwise (· < ·)
  | [], _ => by simp [usI]
  | y :: r, h => by
    unfold usI
    have hp := List.pairwise_cons.mp h
    split
    · rename_i hxy
      refine .cons (fun z hz => ?_) h
      rcases List.mem_cons.mp hz with rfl | hz
      · exact hxy
      · exact Int.lt_trans hxy (hp.1 z hz)
    · split
      · exact h
      · refine .cons (fun z hz => ?_) (usI_lt x r hp.2)
        rcases (usI_mem x r z).mp hz with rfl | hz
        · omega
        · exact hp.1 z hz
theorem uniI_lt : ∀ l : List Int, (uniI l).Pairwise (· < ·)
  | [] => .nil
  | x :: r => usI_lt x _ (uniI_lt r)
theorem strict_one : ∀ {l k : List Int}, l.Pairwise (· < ·) → k.Pairwise (· < ·) → (∀ z, z ∈ l ↔ z ∈ k) → l = k
  | [], [], _, _, _ => rfl
  | [], y :: k, _, _, h => absurd ((h y).mpr List.mem_cons_self) List.not_mem_nil
  | x :: l, [], _, _, h => absurd ((h x).mp List.mem_cons_self) List.not_mem_nil
  | x :: l, y :: k, hl, hk, h => by
    have h1 := List.pairwise_cons.mp hl
    have h2 := List.pairwise_cons.mp hk
    have exy : x = y := by
      have a1 : x ≤ y := by
        rcases List.mem_cons.mp ((h y).mpr List.mem_cons_self) with e | e
        · omega
        · have := h1.1 y e; omega
      have a2 : y ≤ x := by
        rcases List.mem_cons.mp ((h x).mp List.mem_cons_self) with e | e
        · omega
        · have := h2.1 x e; omega
      omega
    subst exy
    rw [strict_one h1.2 h2.2 fun z => ?_]
    have hz := h z
    rw [List.mem_cons, List.mem_cons] at hz
    constructor
    · intro m
      rcases hz.mp (.inr m) with e | e
      · have := h1.1 z m; omega
      · exact e
    · intro m
      rcases hz.mpr (.inr m) with e | e
      · have := h2.1 z m; omega
      · exact e
section
variable {X : Cx} {Ξ : XC} {a : Expr} {fa : SE}
/-- set(t), t a tuple of whole numbers -/
def rSetT (K : PySem.W.Frag) (w : World) : List V → Hp → VK → Prop := fun xs H Q => ∃ (p : Addr) (ns : List Int), xs = [V.ref p] ∧ SqT K H p (ns.map V.int) ∧ ns.length < 60 ∧ ∀ (q : Addr) (c : Nat), c ≤ ns.length → H q = none → Q (.ref q) (upd H q (SetO w q (fun j => decide (j ∈ ns)) c))
theorem cr_setT (hc : X.calm = true) : CallR X (.type "set") (rSetT X.K X.w) := by
  intro pins s σ H xs us Q I r h
  obtain ⟨p, ns, rfl, hq, hl, q⟩ := h
  cases r with
  | cons rv rr =>
    cases rr
    cases rv
    obtain ⟨its, rv, pt, hz⟩ := I.tuple hq
    have hi : IntsAre its.toArray.toList ns := ints_of_vals rv
    refine call_set_tupI ns (I.ok.hd hc) (show s.heap.IsTuple p its.toArray from pt) hi (by unfold scanBound; omega) fun h' tk c R1 hcn k => ?_
    exact ⟨.ref _, upd H s.heap.objs.size (SetO X.w s.heap.objs.size (fun j => decide (j ∈ ns)) c), I.laid (t' := tk) k (Nat.le_refl _) (setO_new R1), rfl, q _ c hcn (I.hok.fresh (Nat.le_refl _))⟩
def rLenSet (w : World) : List V → Hp → VK → Prop := fun vs H Q => ∃ (a : Addr) (ns : List Int) (n : Nat), vs = [V.ref a] ∧ H a = some (SetO w a (fun j => decide (j ∈ ns)) n) ∧ Q (.int (uniI ns).length) H
theorem cr_lenSet : CallR X (.builtin "len") (rLenSet X.w) := by
  intro pins s σ H vs us Q I r h
  obtain ⟨a, ns, n, rfl, ha, q⟩ := h
  have R := setO_get I ha
  rw [Vals.ref1 r]
  obtain ⟨o, es, ep, t, ho, hex, hdt, g, nd, hm2, hb, hf, hn, hr, hl2⟩ := R
  have hcount : es.size = (uniI ns).length := by
    have p : (es.toList.map L2.keyOf).Perm (uniI ns) := by
      refine (List.perm_ext_iff_of_nodup nd ?_).mpr fun k => ?_
      · exact (uniI_lt ns).imp (fun h => by omega)
      · rw [← hm2 k, decide_eq_true_eq, uniI_mem]
    have := p.length_eq
    rw [List.length_map, Array.length_toList] at this
    exact this
  refine call_len_set ho hex hdt hf (by unfold scanBound at hb; omega) ⟨.int (uniI ns).length, H, I.tok _, ⟨_, by rw [hcount]⟩, q⟩
theorem ints_tup {K : KW} {g : Gh} {H : Hp} {ys : List PV} {is : List Int} {w : V} (hi : intsOf ys = some is) (r : Rp K g H (.tup ys) w) : ∃ p, w = .ref p ∧ SqT K H p (is.map V.int) := by
  obtain ⟨p, vs, rfl, h1, h2⟩ := r.tup_inv
  cases intsOf_rel hi h2
  exact ⟨p, rfl, h1⟩
theorem se_sortedSet {p p2 pos q : Pos} (hc : X.calm = true) (hg : Gl X "sorted") (hm : X.mg "sorted" = none) (hv : bootBuiltins "sorted" = some (.builtin "sorted")) (hg2 : Gl X "set") (hm2 : X.mg "set" = none) (hv2 : bootBuiltins "set" = some (.type "set")) (ha : PE X a (rdE X.kw Ξ fa))
    (he : starEach [a] X.env = (false, eval a X.env) :: starEach [] X.env := by rfl) (he2 : starEach [(.Call (.Name "set" p2) [a] [] q : Expr)] X.env = (false, eval (.Call (.Name "set" p2) [a] [] q) X.env) :: starEach [] X.env := by rfl) :
    PE X (.Call (.Name "sorted" p) [.Call (.Name "set" p2) [a] [] q] [] pos) (rdE X.kw Ξ (e1 oSortedSet fa)) :=
  PE_imp (pe_callB (cr_sortedSet hc) hg hm hv (pa_cons (pe_callTy (cr_setT hc) hg2 hm2 hv2 (pa_cons ha pa_nil he) (he := he)) pa_nil he2) (he := he2)) fun σ H Q ⟨g, s, m, em, sr, q⟩ => by
    refine ⟨g, s, m, em, sr, QR.bind q fun z hz q1 g1 H1 V x1 e1 r1 => ?_⟩
    have q2 : QE X.kw Ξ g1 H1 Q (oSortedSet z.1 z.2) := QE.later x1 q1
    unfold oSortedSet at q2
    split at q2
    · rename_i ys hy
      split at q2
      · rename_i is hi
        split at q2
        · rename_i hl
          rw [hy] at r1
          obtain ⟨t, rfl, ht⟩ := ints_tup hi r1
          refine ⟨t, is, rfl, ht, hl, fun c n hn hcn => ⟨c, _, n, rfl, upd_same, by omega, fun ns l hs hk hln hnl => ?_⟩⟩
          have : ns = uniI is := strict_one hs (uniI_lt is) fun k => by rw [hk, decide_eq_true_eq, uniI_mem]
          subst this
          obtain ⟨e0, tr⟩ := e1.other (D := c) (o := SetO X.w c (fun j => decide (j ∈ is)) n) (e1.free hcn) (e1.freeR hcn) (fun xs z => by
            rcases z with z | ⟨o, z⟩ <;> rw [hcn] at z <;> cases z) (tabs_new e1.tab hcn)
          have x0 : Ext g1 H1 g1 (upd H1 c (SetO X.w c (fun j => decide (j ∈ is)) n)) := Ext.newTup hcn fun ⟨n, z⟩ => e1.free hcn n z
          exact QE.newL e0 (rps_ints' _) (QE.later x0 q2) hnl
        · exact q2.elim
      · exact q2.elim
    · exact q2.elim
theorem se_lenSet {p p2 pos q : Pos} (hc : X.calm = true) (hg : Gl X "len") (hm : X.mg "len" = none) (hv : bootBuiltins "len" = some (.builtin "len")) (hg2 : Gl X "set") (hm2 : X.mg "set" = none) (hv2 : bootBuiltins "set" = some (.type "set")) (ha : PE X a (rdE X.kw Ξ fa))
    (he : starEach [a] X.env = (false, eval a X.env) :: starEach [] X.env := by rfl) (he2 : starEach [(.Call (.Name "set" p2) [a] [] q : Expr)] X.env = (false, eval (.Call (.Name "set" p2) [a] [] q) X.env) :: starEach [] X.env := by rfl) :
    PE X (.Call (.Name "len" p) [.Call (.Name "set" p2) [a] [] q] [] pos) (rdE X.kw Ξ (e1 oLenSet fa)) :=
  PE_imp (pe_callB cr_lenSet hg hm hv (pa_cons (pe_callTy (cr_setT hc) hg2 hm2 hv2 (pa_cons ha pa_nil he) (he := he)) pa_nil he2) (he := he2)) fun σ H Q ⟨g, s, m, em, sr, q⟩ => by
    refine ⟨g, s, m, em, sr, QR.bind q fun z hz q1 g1 H1 V x1 e1 r1 => ?_⟩
    have q2 : QE X.kw Ξ g1 H1 Q (oLenSet z.1 z.2) := QE.later x1 q1
    unfold oLenSet at q2
    split at q2
    · rename_i ys hy
      split at q2
      · rename_i is hi
        split at q2
        · rename_i hl
          rw [hy] at r1
          obtain ⟨t, rfl, ht⟩ := ints_tup hi r1
          refine ⟨t, is, rfl, ht, hl, fun c n hn hcn => ⟨c, is, n, rfl, upd_same, ?_⟩⟩
          obtain ⟨e0, tr⟩ := e1.other (D := c) (o := SetO X.w c (fun j => decide (j ∈ is)) n) (e1.free hcn) (e1.freeR hcn) (fun xs z => by
            rcases z with z | ⟨o, z⟩ <;> rw [hcn] at z <;> cases z) (tabs_new e1.tab hcn)
          have x0 : Ext g1 H1 g1 (upd H1 c (SetO X.w c (fun j => decide (j ∈ is)) n)) := Ext.newTup hcn fun ⟨n, z⟩ => e1.free hcn n z
          exact QE.ret e0 (.int _) (QE.later x0 q2)
        · exact q2.elim
      · exact q2.elim
    · exact q2.elim
end
end TT
end

section
set_option Elab.async false
set_option linter.all false
set_option autoImplicit false
set_option maxRecDepth 100000
set_option maxHeartbeats 4000000
/-! TT: dict comprehensions whose keys are tuples -/
namespace TT
open PySem PySem.Spec PyProof.Rows L2
/-- how a store into the new dict is read -/
abbrev StD := Hp → Addr → V → V → (Hp → Prop) → Prop
/-- a dict comprehension by the object that it begins with and its store -/
def tGc (u0 : Addr → HO) (ST : StD) (wi : L2.TI) (g : L2.TG) (tt : L2.TT) (tk tv : TE) (vs : List Nat) : TE := fun σ H Q => wi σ H fun J H1 => ∀ D, H1 D = none →
  ∃ W : Nat → Nat → Hp → Prop, (∃ m, W 0 m (upd H1 D (u0 D))) ∧ ∀ i m H, W i m H → (J.stop i H ∧ Q (.ref D) H) ∨
    (J.go i H ∧ ∃ Nx : Hp → Prop, (∀ H', Nx H' → ∃ m', m' < m ∧ W (i + 1) m' H') ∧ ∀ x H', J.yld i H x H' →
      g x (L2.wipe σ vs) H' fun σ2 H2 => L2.wipe σ2 vs = L2.wipe σ vs ∧ tt σ2 H2 fun b H3 => if b = true then tk σ2 H3 fun y H4 => tv σ2 H4 fun z H5 => ST H5 D y z Nx else Nx H3)
section
variable {X : Cx}
theorem gc_core {u0 : Addr → HO} {ST : StD} {pins : List (Addr × Obj)} {s : Shared} {σ : L2.St} {H : Hp} {Q : VK} {kx vx tg iter : Expr} {ifs : List Expr} {scope : Scope} {own : List (Str × Nat)} {pos pos' : Pos} {wi : L2.TI} {g : L2.TG} {tt : L2.TT} {tk tv : TE} {use : Option (Value → Sem Unit)} {Qf : Value → Shared → Prop}
    (hnew : ∀ (H2 : Hp) (h : Heap), sysModules < h.objs.size → ObjOk X.prog X.w (upd H2 h.objs.size (u0 h.objs.size)) (h.push { cls := .type "dict", data := .dict #[] }) h.objs.size (u0 h.objs.size))
    (hst : ∀ (Y : Cx), Y.prog = X.prog → Y.w = X.w → Y.kw = X.kw → ∀ (pins : List (Addr × Obj)) (σ : L2.St) (H : Hp) (s : Shared) (E : Value → Shared → Prop) (D : Addr) (y z : V) (u r : Value) (Nx : Hp → Prop), Inv Y pins σ H s → RelV y u → RelV z r → ST H D y z Nx →
      wpAny (model X.prog X.w) X.A (dictSet D u r) (fun _ s' => ∃ H', Inv Y pins σ H' s' ∧ Nx H') E s)
    (hc : X.calm = true) (hN : X.N.Nodup) (I : Inv X pins σ H s) (hi : PI X tg iter wi) (ok : BlkOk X.N X.env.scope scope own)
    (hg : ∀ (s : Shared) (H : Hp) (C : Addr) (cl : List (Str × Addr)) (fp : List Addr), PG (X.blk s H scope (compEnvC scope cl C X.env) fp) tg g)
    (ht : ∀ (s : Shared) (H : Hp) (C : Addr) (cl : List (Str × Addr)) (fp : List Addr), PTs (X.blk s H scope (compEnvC scope cl C X.env) fp) ifs tt)
    (hk : ∀ (s : Shared) (H : Hp) (C : Addr) (cl : List (Str × Addr)) (fp : List Addr), PE (X.blk s H scope (compEnvC scope cl C X.env) fp) kx tk)
    (he : ∀ (s : Shared) (H : Hp) (C : Addr) (cl : List (Str × Addr)) (fp : List Addr), PE (X.blk s H scope (compEnvC scope cl C X.env) fp) vx tv)
    (hs : ∀ x, foldedSetIterable iter X.env x = pure x) (h : tGc u0 ST wi g tt tk tv (own.map (·.2)) σ H Q)
    (hRR : ∀ D C s' m H', Inv X pins σ H' s' → Q (.ref D) H' → s'.heap.Ns C m → FpOk X pins H' C → compPost (model X.prog X.w) X.A X.xe use Qf (.ref D) C (.ok .next) s') :
    wpAny (model X.prog X.w) X.A (comprehension (.DictComp kx vx [⟨tg, iter, ifs, 0⟩] scope pos) scope X.env pos' newDict false (eval iter X.env) use) Qf X.xe s := by
  have free0 : ∀ q ∈ scope.names, q.2 = .free → ∃ c, X.env.cells.lookup q.1 = some c := fun q hq e =>
    (ok.free q hq e).elim (fun k => I.ok.has _ (.inl k)) fun k => I.ok.has _ (.inr k)
  refine wpAny_comprehension_free (use := use) rfl hs (closure_ok free0) ok.kind (fun q hq e => by rw [ok.uniq q hq, e]) ?_
  refine thn (hi.run pins s σ H _ I h) fun xw sa ha => thn ha fun itw sb hb => ?_
  obtain ⟨it, fp, tn, J, Hb, rfl, Ib, T, tb, fb, qb⟩ := hb
  refine wpAny_newObj_type (newEnv_comp ?_)
  have hDn : Hb sb.heap.objs.size = none := Ib.hok.fresh (Nat.le_refl _)
  obtain ⟨W, ⟨m0, w0⟩, turn⟩ := qb _ hDn
  have big := Ib.big
  -- the state with the new dict
  obtain ⟨sc, hsc⟩ : ∃ sc : Shared, sc = { sb with heap := sb.heap.push { cls := .type "dict", data := .dict #[] } } := ⟨_, rfl⟩
  have Ic : Inv X pins σ (upd Hb sb.heap.objs.size (u0 sb.heap.objs.size)) sc := by
    rw [hsc]
    exact Ib.laid (t' := sb.toks) (fun b o e => Heap.get?_push_of_some _ e) (Nat.le_refl _) (hnew Hb sb.heap big)
  have hhc : sc.heap = sb.heap.push { cls := .type "dict", data := .dict #[] } := by rw [hsc]
  have lo : ∀ b ∈ fp, b < sb.heap.objs.size := fun b hb => (T.obj _ _ tb b hb).elim fun o z => Heap.lt_size z.1
  have fc : ∀ b ∈ fp, FpOk X pins (upd Hb sb.heap.objs.size (u0 sb.heap.objs.size)) b ∧ b < sc.heap.objs.size := fun b hb =>
    ⟨⟨by rw [upd_ne (Nat.ne_of_lt (lo b hb))]; exact (fb b hb).1, (fb b hb).2⟩, by rw [hhc, Heap.size_push]; exact Nat.lt_succ_of_lt (lo b hb)⟩
  have tc : tn 0 sc.heap := T.keep _ _ _ tb fun b _ o e => by rw [hhc]; exact Heap.get?_push_of_some _ e
  have Id := block_start Ic ok hN fc
  rw [← hsc]
  show codeAny _ _ (.compStart (.DictComp kx vx [⟨tg, iter, ifs, 0⟩] scope pos) 0 (.ref it) (.ref sb.heap.objs.size) (compEnvC scope (cellsFrom (sc.heap.objs.size + 1) scope.names (cloFrom X.env.cells scope.names [])) sc.heap.objs.size X.env))
    (compPost (model X.prog X.w) X.A X.xe use Qf (.ref sb.heap.objs.size) sc.heap.objs.size) { sc with heap := pushCells (sc.heap.push { cls := .type "dict", data := .dict #[] }) scope.names }
  have pgC := hg sc (upd Hb sb.heap.objs.size (u0 sb.heap.objs.size)) sc.heap.objs.size (cellsFrom (sc.heap.objs.size + 1) scope.names (cloFrom X.env.cells scope.names [])) fp
  have ptC := ht sc (upd Hb sb.heap.objs.size (u0 sb.heap.objs.size)) sc.heap.objs.size (cellsFrom (sc.heap.objs.size + 1) scope.names (cloFrom X.env.cells scope.names [])) fp
  have pkC := hk sc (upd Hb sb.heap.objs.size (u0 sb.heap.objs.size)) sc.heap.objs.size (cellsFrom (sc.heap.objs.size + 1) scope.names (cloFrom X.env.cells scope.names [])) fp
  have peC := he sc (upd Hb sb.heap.objs.size (u0 sb.heap.objs.size)) sc.heap.objs.size (cellsFrom (sc.heap.objs.size + 1) scope.names (cloFrom X.env.cells scope.names [])) fp
  have empt : ∀ b ∈ fp, (upd Hb sb.heap.objs.size (u0 sb.heap.objs.size)) b = none := fun b hb => (fc b hb).1.1
  generalize hce : compEnvC scope (cellsFrom (sc.heap.objs.size + 1) scope.names (cloFrom X.env.cells scope.names [])) sc.heap.objs.size X.env = ce at Id pgC ptC pkC peC ⊢
  have locC : ce.locals = sc.heap.objs.size := by rw [← hce]; rfl
  generalize hHc : upd Hb sb.heap.objs.size (u0 sb.heap.objs.size) = Hc at Ic Id pgC ptC pkC peC w0 empt fc
  generalize hsd : ({ sc with heap := pushCells (sc.heap.push { cls := .type "dict", data := .dict #[] }) scope.names } : Shared) = sd at Id ⊢
  have td : tn 0 sd.heap := T.keep _ _ _ tc fun b _ o e => by rw [← hsd]; exact pushCells_keeps _ _ _ _ (Heap.get?_push_of_some _ e)
  generalize sb.heap.objs.size = D at *
  have quiet : ∀ {σ' : L2.St} {H' : Hp} {s' : Shared}, Inv (X.blk sc Hc scope ce fp) [] σ' H' s' → (∀ b ∈ fp, H' b = none) → ∀ b ∈ fp, FpOk (X.blk sc Hc scope ce fp) [] H' b := fun {σ' H' s'} I' hn b hb =>
    ⟨hn b hb, (I'.ok.exf b hb).1, I'.ok.exfs b hb, .inl hb, fun x c e => (I'.ok.exf b hb).2 x c e, fun p hp => nomatch (show p ∈ ([] : List (Addr × Obj)) from by simpa using hp)⟩
  have loop : codeAny (model X.prog X.w) X.A (.compLoop (.DictComp kx vx [⟨tg, iter, ifs, 0⟩] scope pos) 0 (.ref it) (.ref D) ce) (compPost (model X.prog X.w) X.A X.xe use Qf (.ref D) sc.heap.objs.size) sd := by
    refine compLoop_anyD (fun n s' => ∃ i H', Inv (X.blk sc Hc scope ce fp) [] (L2.wipe σ (own.map (·.2))) H' s' ∧ tn i s'.heap ∧ (∀ b ∈ fp, H' b = none) ∧ W i n H') ?_ m0 ⟨0, Hc, Id, td, empt, w0⟩
    rintro n se ⟨i, He, Ie, te, ne, we⟩
    rcases turn i n He we with ⟨stop, qq⟩ | ⟨go, Nx, hNx, step⟩
    · refine thnF (T.done (X.blk sc Hc scope ce fp) rfl rfl rfl hc i [] se _ He (fun _ _ => False) Ie (quiet Ie ne) te stop) fun r sf ⟨hr, If⟩ => ?_
      cases hr
      have Ig : Inv X pins σ He sf := Ic.call' (ch := fp) If.os If.base If.hok If.bare fun b hb => by
        obtain ⟨_, z1, z2, z3, z4, z5⟩ := (fc b hb).1
        exact ⟨z3, z1, z4, z5⟩
      have nC : He sc.heap.objs.size = none := by
        have z : He ce.locals = none := If.free
        rw [locC] at z; exact z
      obtain ⟨mm, hn, _⟩ := If.loc
      have hn : sf.heap.Ns ce.locals mm := hn
      rw [locC] at hn
      exact hRR D sc.heap.objs.size sf mm He Ig qq hn (Ic.fpOk (Nat.le_refl _) nC)
    · refine thnF (T.item (X.blk sc Hc scope ce fp) rfl rfl rfl hc i [] se _ He (fun _ _ => False) Ie (quiet Ie ne) te go) fun r sf ⟨uv, hr, hf⟩ => ?_
      cases hr
      refine thnF hf fun _ sg ⟨x, Hg, Ig, rg, yg, tgn, ng⟩ => ?_
      have Ip := Ig.pinned (quiet Ig ng) (T.obj _ _ tgn)
      refine thnF (pgC.run _ sg _ Hg x uv _ Ip rg (step x Hg yg)) fun _ sh ⟨σh, Hh, Ih, hwh, qh⟩ => ?_
      refine thnF (ptC.run _ sh σh Hh _ Ih qh) fun b sj ⟨Hj, Ij, qj⟩ => ?_
      have fin : ∀ {s' : Shared} {H' : Hp}, Inv (X.blk sc Hc scope ce fp) ([] ++ pinsAt fp sg.heap) σh H' s' → Nx H' → ∃ m, m < n ∧ ∃ i H', Inv (X.blk sc Hc scope ce fp) [] (L2.wipe σ (own.map (·.2))) H' s' ∧ tn i s'.heap ∧ (∀ b ∈ fp, H' b = none) ∧ W i m H' := fun {s' H'} I' nx => by
        obtain ⟨m', hm, w'⟩ := hNx H' nx
        have kept : ∀ b ∈ fp, ∀ o, sg.heap.get? b = some o → s'.heap.get? b = some o ∧ H' b = none := fun b hb o e =>
          (I'.pin (b, o) (List.mem_append_right _ (List.mem_append_right _ (mem_pinsAt hb e)))).imp id fun z => z.1
        refine ⟨m', hm, i + 1, H', (I'.unpinned (pins := [])).weak (by rw [← hwh, wipe_length]) (fun j v e => ?_), T.keep _ _ _ tgn fun b hb o e => (kept b hb o e).1, fun b hb => ?_, w'⟩
        · rw [← hwh] at e
          exact (wipe_some e).1
        · obtain ⟨o, e, _⟩ := T.obj _ _ tgn b hb
          exact (kept b hb o e).2
      cases b with
      | false =>
        simp only [Bool.false_eq_true, if_false] at qj ⊢
        exact fin Ij qj
      | true =>
        simp only [if_true] at qj ⊢
        refine thnF (pkC.run _ sj σh Hj _ Ij qj) fun z1 sk ⟨yk, Hk, Ik, rk, qk⟩ => ?_
        refine thnF (peC.run _ sk σh Hk _ Ik qk) fun z2 sl ⟨yv, Hl, Il, rl, nx⟩ => ?_
        exact wpAny_mono (hst (X.blk sc Hc scope ce fp) rfl rfl rfl _ σh Hl sl _ D yk yv z1 z2 Nx Il rk rl nx) (fun _ s' ⟨H', I', nx'⟩ => fin I' nx') fun _ _ y => y
  exact codeAny_compStart_dict loop (T.self X.A 0 _ _ _ td loop)
end
end TT
/-! ### read -/
namespace TT
open PySem PySem.Spec PyProof.Rows L2
/-- the store into a dict whose keys are tuples -/
def stK (K : KW) : StD := fun H D y z Nx => ∃ g m k v kvs xs, Emb K g m H ∧ isTup k = true ∧ k.ky 8 = true ∧ Rp K g H k y ∧ Rp K g H v z ∧ H D = some (KDo K.w D xs) ∧ RND K g H kvs xs ∧ kvs.length < LINE ∧ ∀ xs', RND K g H (kPut kvs k v) xs' → Nx (upd H D (KDo K.w D xs'))
section
variable {K : KW} {Ξ : XC}
theorem rd_kdc {own : List Nat} {it : SI} {i : Nat} {ft : ST} {fk fv : SE} (hi : i ∈ own) {σ : L2.St} {H : Hp} {Q : VK}
    (h : rdE K Ξ (eKDc own it (TT.gName i) ft fk fv) σ H Q) : tGc (fun D => KDo K.w D []) (stK K) (rdI K Ξ it) (L2.gName i) (rdT K X0 ft) (rdE K X0 fk) (rdE K X0 fv) own σ H Q := by
  obtain ⟨g, s, m, em, sr, q⟩ := h
  refine ⟨g, s, m, em, sr, QR.bind q fun p hp q1 g1 H1 J x1 e1 wk => ?_⟩
  obtain ⟨xs, m1⟩ := p
  intro D hD
  have hw : ∀ (v : V) (σ : L2.St) (H : Hp) (Q : L2.St → Hp → Prop), rdG K X0 (TT.gName i) v (L2.wipe σ own) H Q → L2.gName i v (L2.wipe σ own) H fun (σ2 : L2.St) H2 => L2.wipe σ2 own = L2.wipe σ own ∧ Q σ2 H2 := fun v σ H Q ⟨g, s, m, pv, em, sr, rv, q⟩ =>
    ⟨wipe_set hi, q g H _ (Ext.refl _ _) em (sr.set rv i)⟩
  have q1' : QE K Ξ g1 H1 Q ((kdcL (TT.gName i) ft fk fv (TT.wipe s own) xs m1 []).bind fun p => Rs.ok (PV.ref p.2.length, p.2 ++ [.kd p.1])) := QE.later x1 q1
  have e0 := e1.other (o := KDo K.w D []) (fun n => e1.free hD n) (e1.freeR hD) (fun xs h => by rcases h with h | ⟨ob, h⟩ <;> rw [hD] at h <;> cases h) (tabs_new e1.tab hD)
  refine ⟨fun u n H => ∃ g m acc ws, Ext g1 H1 g H ∧ Emb K g m H ∧ Sr K g H (TT.wipe s own) (L2.wipe σ own) ∧ H D = some (KDo K.w D ws) ∧ RND K g H acc ws ∧ (∀ n, g.φ n ≠ some D) ∧ g.ro D = none ∧ n = xs.length - u ∧
      QE K Ξ g1 H1 Q ((kdcL (TT.gName i) ft fk fv (TT.wipe s own) (xs.drop u) m acc).bind fun p => Rs.ok (PV.ref p.2.length, p.2 ++ [.kd p.1])), ⟨xs.length, g1, m1, [], [], (Ext.refl _ _).other hD, e0.1, sr_of_rp e0.2 ((sr.ext em x1).wipe own), upd_same, .nil, fun n => e1.free hD n, e1.freeR hD, by simp, by simpa using q1'⟩, ?_⟩
  rintro j n H2 ⟨g2, m2, acc, ws, x2, e2, r2, hD2, ra, f1, f2, rfl, q2⟩
  by_cases hlt : j < xs.length
  · obtain ⟨h1, h2⟩ := wk.go g2 m2 H2 j x2 e2 hlt
    refine .inr ⟨h1, fun H' => ∃ g m acc ws, Ext g1 H1 g H' ∧ Emb K g m H' ∧ Sr K g H' (TT.wipe s own) (L2.wipe σ own) ∧ H' D = some (KDo K.w D ws) ∧ RND K g H' acc ws ∧ (∀ n, g.φ n ≠ some D) ∧ g.ro D = none ∧
      QE K Ξ g1 H1 Q ((kdcL (TT.gName i) ft fk fv (TT.wipe s own) (xs.drop (j + 1)) m acc).bind fun p => Rs.ok (PV.ref p.2.length, p.2 ++ [.kd p.1])), ?_, ?_⟩
    · rintro H' ⟨g', m', acc', ws', hx, he, hr, hd, ha, hf1, hf2, hq⟩
      exact ⟨xs.length - (j + 1), by omega, g', m', acc', ws', hx, he, hr, hd, ha, hf1, hf2, rfl, hq⟩
    · intro x H3 hy
      obtain ⟨g3, v, x3, e3, hv, rv⟩ := h2 x H3 hy
      have hd : xs.drop j = v :: xs.drop (j + 1) := by
        rw [List.drop_eq_getElem_cons hlt]
        rw [List.getElem?_eq_getElem hlt] at hv
        cases hv; rfl
      rw [hd] at q2
      simp only [kdcL] at q2
      have reb : ∀ {α β γ : Type} (r : Rs α) (k : α → Rs β) (l : β → Rs γ), (r.bind k).bind l = r.bind fun a => (k a).bind l := fun r k l => by cases r <;> rfl
      rw [reb] at q2
      have nL : ∀ {zs : List (NestedKey × Addr × V)}, NT (KDo K.w D zs) := fun {zs} => kd_nt
      have r3 := r2.ext e2 x3
      have a3 := ra.ext e2 x3
      have d3 := x3.fr _ _ hD2 f1 nL
      have f13 := x3.old _ _ hD2 f1 nL
      have f23 := x3.oldr _ _ hD2 f1 nL f2
      have xx3 := x2.trans x3
      refine hw x σ H3 _ ⟨g3, _, m2, v, e3, r3, rv, QR.nxAt q2 fun p4 hp4 q4 g4 H4 σ4 x4 e4 r4 => ?_⟩
      obtain ⟨s4, m4⟩ := p4
      simp only at q4
      rw [reb] at q4
      have a4 := a3.ext e3 x4
      have d4 := x4.fr _ _ d3 f13 nL
      have f14 := x4.old _ _ d3 f13 nL
      have f24 := x4.oldr _ _ d3 f13 nL f23
      have w4 := r3.ext e3 x4
      have xx4 := xx3.trans x4
      refine ⟨g4, s4, m4, e4, r4, QR.nxAt q4 fun p5 hp5 q5 g5 H5 x5 e5 => ?_⟩
      obtain ⟨k, m5⟩ := p5
      have a5 := a4.ext e4 x5
      have d5 := x5.fr _ _ d4 f14 nL
      have f15 := x5.old _ _ d4 f14 nL
      have f25 := x5.oldr _ _ d4 f14 nL f24
      have w5 := w4.ext e4 x5
      have xx5 := xx4.trans x5
      cases k with
      | false =>
        refine iteF ⟨g5, m5, acc, ws, xx5, e5, w5, d5, a5, f15, f25, ?_⟩
        simpa using q5
      | true =>
        simp only [if_true] at q5
        rw [reb] at q5
        refine iteT ⟨g5, s4, m5, e5, r4.ext e4 x5, QR.nxAt q5 fun p6 hp6 q6 g6 H6 y x6 e6 ry => ?_⟩
        obtain ⟨pv, m6⟩ := p6
        simp only at q6
        rw [reb] at q6
        have a6 := a5.ext e5 x6
        have d6 := x6.fr _ _ d5 f15 nL
        have f16 := x6.old _ _ d5 f15 nL
        have f26 := x6.oldr _ _ d5 f15 nL f25
        have w6 := w5.ext e5 x6
        have xx6 := xx5.trans x6
        refine ⟨g6, s4, m6, e6, (r4.ext e4 x5).ext e5 x6, QR.nxAt q6 fun p7 hp7 q7 g7 H7 z x7 e7 rz => ?_⟩
        obtain ⟨pz, m7⟩ := p7
        simp only at q7
        have ry7 := ry.ext e6 x7
        have a7 := a6.ext e6 x7
        have d7 := x7.fr _ _ d6 f16 nL
        have f17 := x7.old _ _ d6 f16 nL
        have f27 := x7.oldr _ _ d6 f16 nL f26
        have w7 := w6.ext e6 x7
        have xx7 := xx6.trans x7
        by_cases hl : (isTup pv && pv.ky 8 && decide (acc.length < LINE)) = true
        · rw [if_pos hl] at q7
          simp only [Bool.and_eq_true, decide_eq_true_eq] at hl
          refine ⟨g7, m7, pv, pz, acc, ws, e7, hl.1.1, hl.1.2, ry7, rz, d7, a7, hl.2, fun xs' r' => ?_⟩
          have hno : ∀ xs, ¬ Rd H7 D (.tup xs) := fun xs h => by
            rcases h with h | ⟨ob, h⟩ <;> rw [d7] at h <;> (have h := Option.some.inj h; unfold KDo at h; cases h)
          have e8 := e7.other (o := KDo K.w D xs') f17 f27 hno (tabs_wr2 e7.tab d7 kd_nt kd_code)
          exact ⟨g7, m7, kPut acc pv pz, xs', xx7.other hD, e8.1, sr_of_rp e8.2 w7, upd_same, RND.imp e8.2 r', f17, f27, q7⟩
        · rw [if_neg hl] at q7
          exact q7.elim
  · have hle : xs.length ≤ j := Nat.le_of_not_lt hlt
    refine .inl ⟨wk.stop g2 m2 H2 j x2 e2 hle, ?_⟩
    rw [List.drop_of_length_le hle] at q2
    have q3 : QE K Ξ g1 H1 Q (.ok (.ref m2.length, m2 ++ [.kd acc])) := q2
    have hφ : ∀ n a, g2.φ n = some a → (g2.addP m2.length D).φ n = some a := fun n a h => by
      have : n ≠ m2.length := fun z => by subst z; rw [e2.fresh_id] at h; cases h
      show (if n = m2.length then some D else g2.φ n) = some a
      rw [if_neg this]; exact h
    have hself : (g2.addP m2.length D).φ m2.length = some D := by show (if m2.length = m2.length then some D else _) = some D; rw [if_pos rfl]
    obtain ⟨e3, tr3⟩ := e2.adopt (p := D) (u := KDo K.w D ws) (ob := .kd acc) hD2 trivial f1 f2 ⟨D, ws, hself, hD2, RND.imp (fun r => r.mono hφ (fun _ _ h => h) (fun _ _ h => h)) ra⟩
    exact q3 _ _ _ (x2.adopt e2 hD) e3 (.ref hself)
end
section
variable {X : Cx}
theorem new_k (H2 : Hp) (h : Heap) (big : sysModules < h.objs.size) : ObjOk X.prog X.w (upd H2 h.objs.size (KDo X.w h.objs.size [])) (h.push { cls := .type "dict", data := .dict #[] }) h.objs.size (KDo X.w h.objs.size []) :=
  kd_new (Nat.zero_le _) (beq_eq_false_iff_ne.mpr (Ne.symm (Nat.ne_of_lt big))) .nil (Heap.DictOfH.new h)
theorem st_k (hu : X.A.units + 64 < cLine) (Y : Cx) (hp : Y.prog = X.prog) (hw : Y.w = X.w) (hkw : Y.kw = X.kw) (pins : List (Addr × Obj)) (σ : L2.St) (H : Hp) (s : Shared) (E : Value → Shared → Prop) (D : Addr) (y z : V) (u r : Value) (Nx : Hp → Prop) (I : Inv Y pins σ H s) (ry : RelV y u) (rz : RelV z r) (h : stK X.kw H D y z Nx) :
    wpAny (model X.prog X.w) X.A (dictSet D u r) (fun _ s' => ∃ H', Inv Y pins σ H' s' ∧ Nx H') E s := by
  obtain ⟨g, m, k, v, kvs, xs, em, k1, k2, rk, rv, hD, rd, hl, nx⟩ := h
  have ew : X.kw.w = X.w := rfl
  obtain ⟨zs, rfl⟩ := isTup_inv k1
  obtain ⟨q, _, rfl, _⟩ := rk.tup_inv
  cases ry
  rw [← hkw] at rd rk rv nx hD em
  have eY : Y.kw.w = Y.w := rfl
  rw [eY] at hD nx
  obtain ⟨s1, s2, ys, t1, dd⟩ := kd_at I hD rd
  obtain ⟨xs', r', t'⟩ := stored_rel k2 rk rv rz rd t1
  have hz : ys.length ≤ sizeLine := by rw [← Paired.length t1]; exact s2
  have hl' : xs'.length ≤ sizeLine := by
    have e1 := kPut_len kvs (.tup zs) v
    rw [r'.length] at e1
    exact Nat.le_trans e1 (line_lt hl)
  rw [← hp, ← hw]
  refine wpAny_dictSet_heap (knd := nestedKind Y.prog Y.w) (hsz := hz) (by show X.A.units + 8 < cLine; omega) ⟨nk_is I 8 k2 rk rfl, nk_depth _ 8 k2⟩ dd fun h' dd' hs => ?_
  have old : ∃ z, h'.get? D = some z := let ⟨z, _, _, hz, _⟩ := dd'; ⟨z, hz⟩
  have J := I.write (x := D) (e := D) (o := KDo Y.w D xs') (t' := s.toks + (nestedKind Y.prog Y.w).draws (nkOf (.tup zs))) (by rw [hD]; trivial) (.inl rfl) (fun b u hb z => (hs.2 b hb).trans z) old (kd_new hl' s1 t' dd')
  exact ⟨_, J, nx xs' r'⟩
end
end TT
namespace TT
open PySem PySem.Spec PyProof.Rows L2
section
variable {X : Cx} {Ξ : XC} {o e : Expr} {pos : Pos}
/-- as a value -/
theorem pe_gc {kx vx tg iter : Expr} {ifs : List Expr} {scope : Scope} {own : List (Str × Nat)} {pos : Pos} {wi : L2.TI} {g : L2.TG} {tt : L2.TT} {tk tv : TE} (hu : X.A.units + 64 < cLine) (hc : X.calm = true) (hN : X.N.Nodup) (hi : PI X tg iter wi) (ok : BlkOk X.N X.env.scope scope own)
    (hg : ∀ (s : Shared) (H : Hp) (C : Addr) (cl : List (Str × Addr)) (fp : List Addr), PG (X.blk s H scope (compEnvC scope cl C X.env) fp) tg g)
    (ht : ∀ (s : Shared) (H : Hp) (C : Addr) (cl : List (Str × Addr)) (fp : List Addr), PTs (X.blk s H scope (compEnvC scope cl C X.env) fp) ifs tt)
    (hk : ∀ (s : Shared) (H : Hp) (C : Addr) (cl : List (Str × Addr)) (fp : List Addr), PE (X.blk s H scope (compEnvC scope cl C X.env) fp) kx tk)
    (he : ∀ (s : Shared) (H : Hp) (C : Addr) (cl : List (Str × Addr)) (fp : List Addr), PE (X.blk s H scope (compEnvC scope cl C X.env) fp) vx tv) (hs : ∀ x, foldedSetIterable iter X.env x = pure x) :
    PE X (.DictComp kx vx [⟨tg, iter, ifs, 0⟩] scope pos) (tGc (fun D => KDo X.w D []) (stK X.kw) wi g tt tk tv (own.map (·.2))) := ⟨fun pins s σ H Q I h => by
  rw [arm_eval_DictComp]
  refine gc_core new_k (st_k hu) hc hN I hi ok hg ht hk he hs h fun D C s' m H' I' q hn f => ⟨m, hn, fun h2 sb => ?_⟩
  obtain ⟨n0, n1, n2, n3, n4, n5⟩ := f
  exact ⟨.ref D, H', I'.turned (t' := s'.toks) (fun b o hb e => (sb.2 b hb).trans e) n0 n1 n3 n4 n5, rfl, q⟩⟩
theorem se_kdc {kx vx iter : Expr} {ifs : List Expr} {scope : Scope} {own : List (Str × Nat)} {oi : List Nat} {x : Str} {px : Pos} {it : SI} {ft : ST} {fk fv : SE} (i : Nat) (hu : X.A.units + 64 < cLine) (hc : X.calm = true) (hN : X.N.Nodup) (hi : PI X (.Name x px) iter (rdI X.kw Ξ it)) (ok : BlkOk X.N X.env.scope scope own)
    (hg : ∀ (s : Shared) (H : Hp) (C : Addr) (cl : List (Str × Addr)) (fp : List Addr), PG (X.blk s H scope (compEnvC scope cl C X.env) fp) (.Name x px) (L2.gName i)) (ht : ∀ (s : Shared) (H : Hp) (C : Addr) (cl : List (Str × Addr)) (fp : List Addr), PTs (X.blk s H scope (compEnvC scope cl C X.env) fp) ifs (rdT X.kw X0 ft))
    (hk : ∀ (s : Shared) (H : Hp) (C : Addr) (cl : List (Str × Addr)) (fp : List Addr), PE (X.blk s H scope (compEnvC scope cl C X.env) fp) kx (rdE X.kw X0 fk))
    (he : ∀ (s : Shared) (H : Hp) (C : Addr) (cl : List (Str × Addr)) (fp : List Addr), PE (X.blk s H scope (compEnvC scope cl C X.env) fp) vx (rdE X.kw X0 fv)) (hs : ∀ x, foldedSetIterable iter X.env x = pure x := by intro _; rfl) (ho : own.map (·.2) = oi := by rfl) (hm : i ∈ own.map (·.2) := by decide) :
    PE X (.DictComp kx vx [⟨.Name x px, iter, ifs, 0⟩] scope pos) (rdE X.kw Ξ (eKDc oi it (TT.gName i) ft fk fv)) := by
  subst ho
  exact PE_imp (pe_gc hu hc hN hi ok hg ht hk he hs) fun σ H Q h => rd_kdc hm h
/-- y = {k: v for ..}, y a local name -/
theorem ss_setKdc {kx vx iter : Expr} {ifs : List Expr} {scope : Scope} {own : List (Str × Nat)} {oi : List Nat} {x y : Str} {px py spos : Pos} {it : SI} {ft : ST} {fk fv : SE} (iy i : Nat) (hu : X.A.units + 64 < cLine) (hc : X.calm = true) (hN : X.N.Nodup) (hi : PI X (.Name x px) iter (rdI X.kw Ξ it)) (ok : BlkOk X.N X.env.scope scope own)
    (hg : ∀ (s : Shared) (H : Hp) (C : Addr) (cl : List (Str × Addr)) (fp : List Addr), PG (X.blk s H scope (compEnvC scope cl C X.env) fp) (.Name x px) (L2.gName i)) (ht : ∀ (s : Shared) (H : Hp) (C : Addr) (cl : List (Str × Addr)) (fp : List Addr), PTs (X.blk s H scope (compEnvC scope cl C X.env) fp) ifs (rdT X.kw X0 ft))
    (hk : ∀ (s : Shared) (H : Hp) (C : Addr) (cl : List (Str × Addr)) (fp : List Addr), PE (X.blk s H scope (compEnvC scope cl C X.env) fp) kx (rdE X.kw X0 fk))
    (he : ∀ (s : Shared) (H : Hp) (C : Addr) (cl : List (Str × Addr)) (fp : List Addr), PE (X.blk s H scope (compEnvC scope cl C X.env) fp) vx (rdE X.kw X0 fv)) (hsw : swapsWith (.DictComp kx vx [⟨.Name x px, iter, ifs, 0⟩] scope pos) (some (.Name y py)) spos.line X.env = pure true)
    (hy : X.N[iy]? = some y := by rfl) (hyl : X.env.scope.names.lookup y = some .local := by rfl) (hs : ∀ x, foldedSetIterable iter X.env x = pure x := by intro _; rfl) (ho : own.map (·.2) = oi := by rfl) (hm : i ∈ own.map (·.2) := by decide) :
    PS X (.Assign [.Name y py] (.DictComp kx vx [⟨.Name x px, iter, ifs, 0⟩] scope pos) spos) (rdS X.kw Ξ (sAsg (eKDc oi it (TT.gName i) ft fk fv) (TT.gName iy))) := by
  subst ho
  refine ⟨fun pins s σ H D I h => ?_⟩
  have q : tGc (fun D => KDo X.w D []) (stK X.kw) (rdI X.kw Ξ it) (L2.gName i) (rdT X.kw X0 ft) (rdE X.kw X0 fk) (rdE X.kw X0 fv) (own.map (·.2)) σ H (fun z H1 => L2.gName iy z σ H1 D.nx) := by
    obtain ⟨g, sl, m, em, sr, q⟩ := h
    refine rd_kdc (Ξ := Ξ) hm ⟨g, sl, m, em, sr, QR.bind q fun p hp q1 g1 H1 V x1 e1 r1 => ?_⟩
    exact QS_nx e1 ((sr.ext em x1).set r1 iy) (QS.later x1 q1)
  rw [exec_Assign_Name_used _ _ _ _ hsw]
  refine wpAny_bind (wpAny_standAt (wpAny_bind ?_))
  have core := gc_core new_k (st_k hu) (pos' := firstIterPos [⟨.Name x px, iter, ifs, 0⟩] pos) (pos := pos) (use := some (assign (.Name y py) X.env)) (Qf := fun _ s' => SP X pins D .next s') hc hN I hi ok hg ht hk he hs q fun L C s' m H' I' q' hn f => by
    show wpAny _ _ (assign (.Name y py) X.env (.ref L)) _ _ _
    obtain ⟨n0, n1, n2, n3, n4, n5⟩ := f
    refine wpAny_assign_Name (store_ok2 (v := V.ref L) I' hN hy (.inl hyl) rfl (fun s2 I2 ⟨a, sb, ha⟩ => ?_) (.inr hyl))
    have dis : C ≠ a := by
      rcases ha with z | z
      · rw [z]; exact n1
      · exact fun e => n4 y a z e.symm
    refine ⟨m, hn.sameBut sb dis, fun h4 sb4 => ⟨_, H', ?_, q'⟩⟩
    exact I2.turned (t' := s2.toks) (fun b o hb e => (sb4.2 b hb).trans e) n0 n1 n3 n4 n5
  exact wpAny_bind (thn core fun _ s' hq => wpAny_pure (wpAny_pure hq))
end
end TT
namespace TT
open PySem PySem.Spec PyProof.Rows L2 Builtin
section
variable {X : Cx} {Ξ : XC}
/-- len(d) -/
theorem call_tKLen : CallR X (.builtin "len") (rdN X.kw Ξ fKLen) := by
  intro pins s σ H xs us Q I r ⟨g, m, as, em, ra, q⟩
  unfold fKLen at q
  split at q
  · rename_i n
    split at q
    · rename_i kvs hm
      cases ra with
      | cons r1 r2 =>
        cases r2
        obtain ⟨d, rfl, hd⟩ := r1.ref_inv
        rw [Vals.ref1 r]
        obtain ⟨lo, zs, ys, h3, s2, t1, dd⟩ := kx_at I em hm hd
        obtain ⟨es, ep, hr, he⟩ := raw_of dd
        have hsz : es.size = kvs.length := by
          rw [← Array.length_toList, he, List.length_map, ← Paired.length t1, ← RND.length h3]
        have hle : zs.length = kvs.length := (RND.length h3).symm
        have hfit : kvs.length < 2 ^ 63 := by
          have := sizeLine_eq
          have : (2 : Nat) ^ 63 = 9223372036854775808 := rfl
          omega
        have fin : Q (.int kvs.length) H := QE.ret em (.int _) q
        refine Calls.call_function_entry kind_len plain_len entry_len (args_len1 _) ?_
        unfold Builtin.«len»
        refine wpAny_bind (m := oneArg "len" _) (wpAny_pure ?_)
        refine wpAny_bind (m := callSpecial? (.ref d) (Str.ofString "__len__")) (wpAny_callSpecial?_slot (name := Str.ofString "__len__") hr.typeIs F.slot_dict_len (call_len_raw lo hr ?_))
        rw [hsz]
        refine wpAny_bind (wpAny_holding (wpAny_pure (wpAny_bind (wpAny_letGo ?_))))
        show wpAny _ _ (if ((kvs.length : Nat) : Int) < 0 then _ else _) _ _ _
        rw [if_neg (by omega)]
        show wpAny _ _ (if ((kvs.length : Nat) : Int) ≥ 2 ^ 63 then _ else _) _ _ _
        rw [if_neg (by omega)]
        exact wpAny_bind (wpAny_mkInt (wpAny_pure ⟨_, rfl, .int kvs.length, H, I.tok _, ⟨_, rfl⟩, fin⟩))
    · exact q.elim
  · exact q.elim
end
end TT
namespace TT
open PySem PySem.Spec PyProof.Rows L2
section
variable {X : Cx} {Ξ : XC} {e : Expr} {f : SE}
/-- a new dict that is changed no more -/
theorem se_lockE (h : PE X e (rdE X.kw Ξ f)) : PE X e (rdE X.kw Ξ (eLockE f)) := ⟨fun pins s σ H Q I q0 => by
  obtain ⟨g, sl, m, em, sr, q⟩ := q0
  have h1 : rdE X.kw Ξ f σ H (fun w H1 => ∃ g1 m1 n a kvs, Emb X.kw g1 m1 H1 ∧ w = .ref a ∧ g1.φ n = some a ∧ m1[n]? = some (.kd kvs) ∧ ∀ g2 H2, Ext g1 H1 g2 H2 → Emb X.kw g2 (m1.set n (.kl kvs)) H2 → Q (.ref a) H2) := by
    refine ⟨g, sl, m, em, sr, QR.bind q fun p hp q1 g1 H1 V x1 e1 r1 => ?_⟩
    obtain ⟨v, m1⟩ := p
    have q2 := QE.later x1 q1
    simp only at q2
    split at q2
    · rename_i n
      split at q2
      · rename_i kvs hm
        obtain ⟨a, rfl, ha⟩ := r1.ref_inv
        exact ⟨g1, m1, n, a, kvs, e1, rfl, ha, hm, fun g2 H2 x2 e2 => q2 g2 H2 (.ref a) x2 e2 (.ref (x2.phi _ _ ha))⟩
      · exact q2.elim
    · exact q2.elim
  refine wpAny_mono (h.run pins s σ H _ I h1) (fun u s' z => ?_) fun _ _ y => y
  obtain ⟨w, H1, I1, rw1, g1, m1, n, a, kvs, e1, rfl, ha, hm, fin⟩ := z
  obtain ⟨a', vs, p1, p2, p3⟩ := e1.obj _ _ hm
  rw [ha] at p1; cases p1
  obtain ⟨⟨z1, z2, ys, ka, o, es, ep, w1, w2, w3, w4, nd⟩, _⟩ := I1.hok a _ p2
  obtain ⟨g2, x, e2, _⟩ := e1.lock_kd o hm ha p3
  have ok : ObjOk X.prog X.w (upd H1 a (KDl X.w a o vs)) s'.heap a (KDl X.w a o vs) :=
    ⟨⟨w1, z1, z2, w2, ys, ka, es, ep, w3, w4, nd⟩, ⟨o, w1⟩, fun t1 t2 ⟨y1, y2, y3, y4, y5⟩ st => ⟨st _ y1, y2, y3, y4, y5⟩⟩
  have J := I1.write (x := a) (e := a) (h' := s'.heap) (o := KDl X.w a o vs) (t' := s'.toks) (by rw [p2]; trivial) (.inl rfl) (fun b u hb z => z) ⟨o, w1⟩ ok
  exact ⟨.ref a, _, J, rw1, fin _ _ x e2⟩⟩
end
end TT
namespace TT
open PySem PySem.Spec PyProof.Rows L2
theorem enumP_get : ∀ {xs : List PV} {k : Int} {i : Nat} {v : PV}, (enumP k xs)[i]? = some v → ∃ x, xs[i]? = some x ∧ v = .tup [.int (k + i), x]
  | [], _, _, _, h => by simp [enumP] at h
  | x :: xs, k, 0, v, h => by
    simp [enumP] at h
    exact ⟨x, rfl, by rw [← h]; simp⟩
  | x :: xs, k, i + 1, v, h => by
    simp only [enumP, List.getElem?_cons_succ] at h
    obtain ⟨y, h1, h2⟩ := enumP_get h
    exact ⟨y, by simpa using h1, by rw [h2, show k + 1 + (i : Int) = k + ((i + 1 : Nat) : Int) by omega]⟩
theorem enumP_len : ∀ (xs : List PV) (k : Int), (enumP k xs).length = xs.length
  | [], _ => rfl
  | x :: xs, k => by simp [enumP, enumP_len xs]
section
variable {X : Cx} {Ξ : XC} {a : Expr} {fa : SE} {pos : Pos}
theorem si_enumL {p2 tpos : Pos} {elts : List Expr} {kk : Nat} (hg : Gl X "enumerate") (hm : X.mg "enumerate" = none) (h : PE X a (rdE X.kw Ξ fa)) (hs : starEach [a] X.env = [(false, eval a X.env)] := by rfl) :
    PI X (.Tuple elts kk tpos) (.Call (.Name "enumerate" p2) [a] [] pos) (rdI X.kw Ξ (iEnumL fa)) :=
  PI_imp (pi_enum hg hm (pa_cons h pa_nil (by rw [hs]; rfl)) hs) fun σ H R ⟨g, s, m, em, sr, q⟩ => by
    refine ⟨g, s, m, em, sr, QR.bind q fun p hp q1 g1 H1 V x1 e1 r1 => ?_⟩
    obtain ⟨v, m1⟩ := p
    have q2 := QR.later x1 q1 fun _ q g' H' J x => q g' H' J (x1.trans x)
    simp only at q2
    split at q2
    · rename_i xs
      cases r1 with
      | vl ha ra =>
        rename_i ad vs
        have hL : ∀ {g' m' H'}, Ext g1 H1 g' H' → Emb X.kw g' m' H' → SqL X.kw H' ad vs := fun x' e' => SqL.of (e'.ro _ _ (x'.ro _ _ ha)).1
        refine ⟨ad, vs, rfl, hL (Ext.refl _ _) e1, q2 g1 H1 _ (Ext.refl _ _) e1 ⟨fun g' m' H' i x' e' hi => ?_, fun g' m' H' i x' e' hi => ?_⟩⟩
        · obtain ⟨z, hz⟩ : ∃ z, (enumP 0 xs)[i]? = some z := ⟨_, List.getElem?_eq_getElem hi⟩
          obtain ⟨x0, h1, h2⟩ := enumP_get hz
          have ha' := hL x' e'
          obtain ⟨xv, hx, rx⟩ := (ra.ext e1 x').get h1
          refine ⟨⟨vs, xv, ha', hx⟩, fun w H3 ⟨T, x1, hw, hT, hH, f1⟩ => ?_⟩
          subst hw hH
          have ex : x1 = xv := Option.some.inj ((f1 _ ha').symm.trans hx)
          subst ex
          rw [Int.zero_add] at h2
          obtain ⟨n1, n2, n3⟩ := e'.new_tup (xs := [.int (i : Int), x0]) (vs := [.int (i : Int), x1]) hT (.cons (.int _) (.cons rx .nil))
          exact ⟨g', _, n1, n2, by rw [hz, h2], n3⟩
        · refine ⟨vs, hL x' e', ?_⟩
          rw [← ra.length]
          rw [enumP_len] at hi
          exact hi
    · exact q2.elim
end
end TT
end

section
set_option Elab.async false
set_option linter.all false
set_option autoImplicit false
set_option maxRecDepth 100000
/-! TT: a comprehension whose list will be changed -/
namespace TT
open PySem PySem.Spec PyProof.Rows L2
section
variable {X : Cx} {Ξ : XC} {K : KW} {pos : Pos} {ft : ST}
theorem rd_lcM {own : List Nat} {it : SI} {fg : SG} {ft : ST} {fe : SE} {tg : TG} {σ : L2.St} {H : Hp} {Q : VK}
    (hw : ∀ (v : V) (σ : L2.St) (H : Hp) (Q : L2.St → Hp → Prop), rdG K X0 fg v (L2.wipe σ own) H Q → tg v (L2.wipe σ own) H fun (σ2 : L2.St) H2 => L2.wipe σ2 own = L2.wipe σ own ∧ Q σ2 H2)
    (h : rdE K Ξ (eLcM own it fg ft fe) σ H Q) : tLc (rdI K Ξ it) tg (rdT K X0 ft) (rdE K X0 fe) own σ H Q := by
  obtain ⟨g, s, m, em, sr, q⟩ := h
  refine ⟨g, s, m, em, sr, QR.bind q fun p hp q1 g1 H1 J x1 e1 wk => ?_⟩
  obtain ⟨xs, m1⟩ := p
  intro D hD
  have q1' : QE K Ξ g1 H1 Q ((lcL fg ft fe (TT.wipe s own) xs m1 []).bind fun p => Rs.ok (PV.ref p.2.length, p.2 ++ [Ob.lst p.1])) := QE.later x1 q1
  have e0 := e1.other (o := .lst []) (fun n => e1.free hD n) (e1.freeR hD) (fun xs h => by rcases h with h | ⟨ob, h⟩ <;> rw [hD] at h <;> cases h) (tabs_new e1.tab hD)
  refine ⟨fun i n H => ∃ g m acc ws, Ext g1 H1 g H ∧ Emb K g m H ∧ Sr K g H (TT.wipe s own) (L2.wipe σ own) ∧ H D = some (.lst ws) ∧ Rps K g H acc ws ∧ (∀ n, g.φ n ≠ some D) ∧ g.ro D = none ∧ n = xs.length - i ∧
      QE K Ξ g1 H1 Q ((lcL fg ft fe (TT.wipe s own) (xs.drop i) m acc).bind fun p => Rs.ok (PV.ref p.2.length, p.2 ++ [Ob.lst p.1])), ⟨xs.length, g1, m1, [], [], (Ext.refl _ _).other hD, e0.1, sr_of_rp e0.2 ((sr.ext em x1).wipe own), upd_same, .nil, fun n => e1.free hD n, e1.freeR hD, by simp, by simpa using q1'⟩, ?_⟩
  rintro i n H2 ⟨g2, m2, acc, ws, x2, e2, r2, hD2, ra, f1, f2, rfl, q2⟩
  by_cases hlt : i < xs.length
  · obtain ⟨h1, h2⟩ := wk.go g2 m2 H2 i x2 e2 hlt
    refine .inr ⟨h1, fun H' => ∃ g m acc ws, Ext g1 H1 g H' ∧ Emb K g m H' ∧ Sr K g H' (TT.wipe s own) (L2.wipe σ own) ∧ H' D = some (.lst ws) ∧ Rps K g H' acc ws ∧ (∀ n, g.φ n ≠ some D) ∧ g.ro D = none ∧
      QE K Ξ g1 H1 Q ((lcL fg ft fe (TT.wipe s own) (xs.drop (i + 1)) m acc).bind fun p => Rs.ok (PV.ref p.2.length, p.2 ++ [Ob.lst p.1])), ?_, ?_⟩
    · rintro H' ⟨g', m', acc', ws', hx, he, hr, hd, ha, hf1, hf2, hq⟩
      exact ⟨xs.length - (i + 1), by omega, g', m', acc', ws', hx, he, hr, hd, ha, hf1, hf2, rfl, hq⟩
    · intro x H3 hy
      obtain ⟨g3, v, x3, e3, hv, rv⟩ := h2 x H3 hy
      have hd : xs.drop i = v :: xs.drop (i + 1) := by
        rw [List.drop_eq_getElem_cons hlt]
        rw [List.getElem?_eq_getElem hlt] at hv
        cases hv; rfl
      rw [hd] at q2
      simp only [lcL] at q2
      -- the bind of the whole
      have reb : ∀ {α β γ : Type} (r : Rs α) (k : α → Rs β) (l : β → Rs γ), (r.bind k).bind l = r.bind fun a => (k a).bind l := fun r k l => by cases r <;> rfl
      rw [reb] at q2
      have nL : ∀ {zs : List V}, NT (.lst zs) := fun ps z => nomatch z
      have r3 := r2.ext e2 x3
      have a3 := ra.ext e2 x3
      have d3 := x3.fr _ _ hD2 f1 nL
      have f13 := x3.old _ _ hD2 f1 nL
      have f23 := x3.oldr _ _ hD2 f1 nL f2
      have xx3 := x2.trans x3
      refine hw x σ H3 _ ⟨g3, _, m2, v, e3, r3, rv, QR.nxAt q2 fun p4 hp4 q4 g4 H4 σ4 x4 e4 r4 => ?_⟩
      obtain ⟨s4, m4⟩ := p4
      simp only at q4
      rw [reb] at q4
      have a4 := a3.ext e3 x4
      have d4 := x4.fr _ _ d3 f13 nL
      have f14 := x4.old _ _ d3 f13 nL
      have f24 := x4.oldr _ _ d3 f13 nL f23
      have w4 := r3.ext e3 x4
      have xx4 := xx3.trans x4
      refine ⟨g4, s4, m4, e4, r4, QR.nxAt q4 fun p5 hp5 q5 g5 H5 x5 e5 => ?_⟩
      obtain ⟨k, m5⟩ := p5
      have a5 := a4.ext e4 x5
      have d5 := x5.fr _ _ d4 f14 nL
      have f15 := x5.old _ _ d4 f14 nL
      have f25 := x5.oldr _ _ d4 f14 nL f24
      have w5 := w4.ext e4 x5
      have xx5 := xx4.trans x5
      cases k with
      | false =>
        refine iteF ⟨g5, m5, acc, ws, xx5, e5, w5, d5, a5, f15, f25, ?_⟩
        simpa using q5
      | true =>
        simp only [if_true] at q5
        rw [reb] at q5
        refine iteT ⟨g5, s4, m5, e5, r4.ext e4 x5, QR.nxAt q5 fun p6 hp6 q6 g6 H6 y x6 e6 ry => ?_⟩
        obtain ⟨pv, m6⟩ := p6
        simp only at q6
        have a6 := a5.ext e5 x6
        have d6 := x6.fr _ _ d5 f15 nL
        have f16 := x6.old _ _ d5 f15 nL
        have f26 := x6.oldr _ _ d5 f15 nL f25
        have w6 := w5.ext e5 x6
        have xx6 := xx5.trans x6
        by_cases hl : acc.length < LINE
        · rw [if_pos hl] at q6
          have hno : ∀ xs, ¬ Rd H6 D (.tup xs) := fun xs h => by rcases h with h | ⟨ob, h⟩ <;> rw [d6] at h <;> cases h
          have e7 := e6.other (o := .lst (ws ++ [y])) f16 f26 hno (tabs_wr e6.tab d6 nL (fun _ z => nomatch z))
          refine ⟨ws, d6, by rw [← ra.length]; exact line_lt hl, g6, m6, acc ++ [pv], ws ++ [y], xx6.other hD, e7.1, sr_of_rp e7.2 w6, upd_same, rps_of_rp e7.2 (a6.append (.cons ry .nil)), f16, f26, q6⟩
        · rw [if_neg hl] at q6
          exact q6.elim
  · have hle : xs.length ≤ i := Nat.le_of_not_lt hlt
    refine .inl ⟨wk.stop g2 m2 H2 i x2 e2 hle, ?_⟩
    rw [List.drop_of_length_le hle] at q2
    have q3 : QE K Ξ g1 H1 Q (.ok (.ref m2.length, m2 ++ [.lst acc])) := q2
    have hφ : ∀ n a, g2.φ n = some a → (g2.addP m2.length D).φ n = some a := fun n a h => by
      have : n ≠ m2.length := fun z => by subst z; rw [e2.fresh_id] at h; cases h
      show (if n = m2.length then some D else g2.φ n) = some a
      rw [if_neg this]; exact h
    have hself : (g2.addP m2.length D).φ m2.length = some D := by show (if m2.length = m2.length then some D else _) = some D; rw [if_pos rfl]
    obtain ⟨e3, tr3⟩ := e2.adopt (p := D) (u := .lst ws) (ob := .lst acc) hD2 trivial f1 f2 ⟨D, ws, hself, hD2, Rps.mono (g := g2) (g' := g2.addP m2.length D) hφ (fun _ _ h => h) (fun _ _ h => h) ra⟩
    exact q3 _ _ _ (x2.adopt e2 hD) e3 (.ref hself)
theorem rd_lcNM {own : List Nat} {it : SI} {i : Nat} {ft : ST} {fe : SE} (hi : i ∈ own) {σ : L2.St} {H : Hp} {Q : VK}
    (h : rdE K Ξ (eLcM own it (TT.gName i) ft fe) σ H Q) : tLc (rdI K Ξ it) (L2.gName i) (rdT K X0 ft) (rdE K X0 fe) own σ H Q :=
  rd_lcM (fun v σ H Q ⟨g, s, m, pv, em, sr, rv, q⟩ =>
    ⟨wipe_set hi, q g H _ (Ext.refl _ _) em (sr.set rv i)⟩) h
theorem ss_setLcM {elt iter : Expr} {ifs : List Expr} {scope : Scope} {own : List (Str × Nat)} {oi : List Nat} {x y : Str} {px py spos : Pos} {it : SI} (iy i : Nat) {fe : SE} (hc : X.calm = true) (hN : X.N.Nodup) (hi : PI X (.Name x px) iter (rdI X.kw Ξ it)) (ok : BlkOk X.N X.env.scope scope own)
    (hg : ∀ (s : Shared) (H : Hp) (C : Addr) (cl : List (Str × Addr)) (fp : List Addr), PG (X.blk s H scope (compEnvC scope cl C X.env) fp) (.Name x px) (L2.gName i)) (ht : ∀ (s : Shared) (H : Hp) (C : Addr) (cl : List (Str × Addr)) (fp : List Addr), PTs (X.blk s H scope (compEnvC scope cl C X.env) fp) ifs (rdT X.kw X0 ft))
    (he : ∀ (s : Shared) (H : Hp) (C : Addr) (cl : List (Str × Addr)) (fp : List Addr), PE (X.blk s H scope (compEnvC scope cl C X.env) fp) elt (rdE X.kw X0 fe)) (hsw : swapsWith (.ListComp elt [⟨.Name x px, iter, ifs, 0⟩] scope pos) (some (.Name y py)) spos.line X.env = pure true)
    (hy : X.N[iy]? = some y := by rfl) (hyl : X.env.scope.names.lookup y = some .local := by rfl) (hs : ∀ x, foldedSetIterable iter X.env x = pure x := by intro _; rfl) (ho : own.map (·.2) = oi := by rfl) (hm : i ∈ own.map (·.2) := by decide) :
    PS X (.Assign [.Name y py] (.ListComp elt [⟨.Name x px, iter, ifs, 0⟩] scope pos) spos) (rdS X.kw Ξ (sAsg (eLcM oi it (TT.gName i) ft fe) (TT.gName iy))) := by
  subst ho
  exact PS_imp (ps_setLc hc hN hy hyl hsw hi ok hg ht he hs) fun D σ H ⟨g, s, m, em, sr, q⟩ => by
    refine rd_lcNM (Ξ := Ξ) hm ⟨g, s, m, em, sr, QR.bind q fun p hp q1 g1 H1 V x1 e1 r1 => ?_⟩
    exact QS_nx e1 ((sr.ext em x1).set r1 iy) (QS.later x1 q1)
end
end TT
end

section
set_option Elab.async false
set_option linter.all false
set_option autoImplicit false
set_option maxRecDepth 100000
/-! TT: own special methods and properties -/
namespace TT
open PySem PySem.Spec PyProof.Rows L2
section
variable {X : Cx} {pins : List (Addr × Obj)} {σ : L2.St} {H : Hp} {s : Shared}
/-- a def of the text, called by values -/
theorem call_fn {A : Around} {k : Nat} {f : Addr} {fd : FuncData} {ps : List Str} {sp : Sp} {us : List Value} {vs : List V} {Q : VK} {E : XK} {E' : Value → Shared → Prop} (F : FnOk X.prog X.w X.K X.mg X.base CX0 k f fd ps sp) (hb : Binds X.K fd ps [])
    (hr : Room k A) (I : Inv X pins σ H s) (e0 : Env0 X.prog X.w X.K X.mg X.base A X.stack s H) (hv : Vals vs us) (h : sp vs H Q E) : wpAny (model X.prog X.w) A (call (.ref f) us) (EP X pins σ Q) E' s := by
  have hl : (us ++ []).length = ps.length := by rw [List.append_nil, ← hv.length, F.len _ _ _ _ h]
  have hb' := hb s us I.kIn hl
  rw [List.append_nil] at hb'
  refine wpAny_call (codeAny_mono (F.run A X.stack s H ⟨us, []⟩ us vs Q E hr e0 hb' hv h) fun r s' hq => ?_)
  cases r with
  | error er => exact False.elim hq
  | ok fl =>
    cases fl with
    | ret u => exact I.after hq
    | next => exact False.elim hq
    | brk => exact False.elim hq
    | cont => exact False.elim hq
/-- a special method of the class -/
structure SpM (K : PySem.W.Frag) (C : Addr) (nm : Str) (f : Addr) : Prop where
  at_ : PySem.W.findIn K (.ref C) nm = some (some (.ref f))
  fn : PySem.W.isFn K (.ref f) = true
  fd : PySem.W.fnIn K f = true
def HasS (P : Program) (w : World) (K : KW) (mg : Str → Option Value) (base : Heap) (c : List Nat) (nm : Str) (l : Nat) (sp : Sp) : Prop :=
  ∃ C f fd ps, K.mg ⟨c.toArray⟩ = some (.ref C) ∧ L2.Cls K.K C ∧ SpM K.K C nm f ∧ FnOk P w K mg base CX0 l f fd ps sp ∧ Binds K fd ps []
/-- a property of it -/
def HasPr (P : Program) (w : World) (K : KW) (mg : Str → Option Value) (base : Heap) (c : List Nat) (f : Str) (l : Nat) (sp : Sp) : Prop :=
  ∃ C p g fd ps, K.mg ⟨c.toArray⟩ = some (.ref C) ∧ L2.Cls K.K C ∧ L2.PropOf K.K C f p g ∧ FnOk P w K mg base CX0 l g fd ps sp ∧ Binds K fd ps []
/-- len(o) -/
theorem cr_lenO {C f : Addr} {fd : FuncData} {ps : List Str} {sp : Sp} {k : Nat} {E : XK} (M : SpM X.K C "__len__" f) (F : FnOk X.prog X.w X.K X.mg X.base CX0 k f fd ps sp) (hb : Binds X.K fd ps []) (hr : Room (k + 1) X.A) :
    CallR X (.builtin "len") (fun xs H Q => ∃ (a dx : Addr) (fs : List (Str × V)), xs = [.ref a] ∧ H a = some (.ins C dx fs) ∧ sp [.ref a] H (fun z H' => ∃ i, z = .int i ∧ 0 ≤ i ∧ i < 2 ^ 63 ∧ Q (.int i) H') E) := by
  intro pins s σ H xs us Q I r h
  obtain ⟨a, dx, fs, rfl, ea, q⟩ := h
  rw [Vals.ref1 r]
  obtain ⟨mA, O, _, _, _, _⟩ := ins_get I.hok ea
  obtain ⟨od, J, _⟩ := O.look
  obtain ⟨m, hF⟩ := I.fr
  refine PySem.W.len_K hF I.ok.mod.kin J M.at_ M.fn (wpAny_mono (call_fn (E := E) F hb hr.in1 I I.env0.in1 (.cons (a := V.ref a) rfl .nil) q) (fun w s' z => ?_) fun _ _ x => x)
  obtain ⟨z', H', I', rz, i, rfl, h0, h1, q'⟩ := z
  obtain ⟨t, rfl⟩ := (show ∃ t, w = Value.int i t from rz)
  exact ⟨⟨h0, h1⟩, .int i, H', I'.tok _, ⟨_, rfl⟩, q'⟩
/-- x in o -/
theorem op_inO {C f : Addr} {fd : FuncData} {ps : List Str} {sp : Sp} {k : Nat} {E : XK} (M : SpM X.K C "__contains__" f) (F : FnOk X.prog X.w X.K X.mg X.base CX0 k f fd ps sp) (hb : Binds X.K fd ps []) (hr : Room k X.A) :
    OpR X (compareOp .In) (fun x y H Q => ∃ (a dx : Addr) (fs : List (Str × V)), y = .ref a ∧ H a = some (.ins C dx fs) ∧ sp [.ref a, x] H (fun z H' => ∃ b, z = .bl b ∧ Q (.bl b) H') E) := by
  intro pins s σ H x y v u Q I rx ry h
  obtain ⟨a, dx, fs, rfl, ea, q⟩ := h
  cases (show u = Value.ref a from ry)
  obtain ⟨mA, O, _, _, _, _⟩ := ins_get I.hok ea
  obtain ⟨od, J, _⟩ := O.look
  obtain ⟨m, hF⟩ := I.fr
  refine PySem.W.in_K hF I.ok.mod.kin J M.at_ M.fn (wpAny_mono (call_fn (E := E) F hb hr I I.env0 (.cons (a := V.ref a) rfl (.cons rx .nil)) q) (fun w s' z => ?_) fun _ _ x => x)
  obtain ⟨z', H', I', rz, b, rfl, q'⟩ := z
  cases (show w = Value.bool b from rz)
  exact wpAny_pure ⟨.bl b, H', I', rfl, q'⟩
theorem op_notInO {C f : Addr} {fd : FuncData} {ps : List Str} {sp : Sp} {k : Nat} {E : XK} (M : SpM X.K C "__contains__" f) (F : FnOk X.prog X.w X.K X.mg X.base CX0 k f fd ps sp) (hb : Binds X.K fd ps []) (hr : Room k X.A) :
    OpR X (compareOp .NotIn) (fun x y H Q => ∃ (a dx : Addr) (fs : List (Str × V)), y = .ref a ∧ H a = some (.ins C dx fs) ∧ sp [.ref a, x] H (fun z H' => ∃ b, z = .bl b ∧ Q (.bl (!b)) H') E) := by
  intro pins s σ H x y v u Q I rx ry h
  obtain ⟨a, dx, fs, rfl, ea, q⟩ := h
  cases (show u = Value.ref a from ry)
  obtain ⟨mA, O, _, _, _, _⟩ := ins_get I.hok ea
  obtain ⟨od, J, _⟩ := O.look
  obtain ⟨m, hF⟩ := I.fr
  refine PySem.W.notIn_K hF I.ok.mod.kin J M.at_ M.fn (wpAny_mono (call_fn (E := E) F hb hr I I.env0 (.cons (a := V.ref a) rfl (.cons rx .nil)) q) (fun w s' z => ?_) fun _ _ x => x)
  obtain ⟨z', H', I', rz, b, rfl, q'⟩ := z
  cases (show w = Value.bool b from rz)
  exact wpAny_pure ⟨.bl (!b), H', I', rfl, q'⟩
/-- o[i] -/
theorem pe_ixO {C f : Addr} {fd : FuncData} {ps : List Str} {sp : Sp} {k : Nat} {E : XK} {a b : Expr} {ta tb : TE} {pos : Pos} (M : SpM X.K C "__getitem__" f) (F : FnOk X.prog X.w X.K X.mg X.base CX0 k f fd ps sp) (hb : Binds X.K fd ps []) (hr : Room (k + 1) X.A) (ha : PE X a ta) (hi : PE X b tb)
    (hs : ∀ o i, subscripted b true o i = runValue (.builtin "lifetime.subscript" ⟨[o, i], []⟩)) :
    PE X (.Subscript a b pos) (tOp (fun x y H Q => ∃ (p dx : Addr) (fs : List (Str × V)), x = .ref p ∧ H p = some (.ins C dx fs) ∧ sp [.ref p, y] H Q E) ta tb) := by
  refine ⟨fun pins s σ H Q I h => ?_⟩
  refine Subscript_ (binT ha hi I h fun v u s2 x y H2 I2 rx ry q => ?_)
  obtain ⟨p, dx, fs, rfl, ea, q⟩ := q
  cases (show v = Value.ref p from rx)
  obtain ⟨mA, O, _, _, _, _⟩ := ins_get I2.hok ea
  obtain ⟨od, J, _⟩ := O.look
  obtain ⟨m, hF⟩ := I2.fr
  exact PySem.W.sub_K hF I2.ok.mod.kin J M.at_ M.fd M.fn (call_fn (E := E) F hb hr.in1 I2 I2.env0.in1 (.cons (a := V.ref p) rfl (.cons ry .nil)) q) (hs _ _)
end
end TT
namespace TT
open PySem PySem.Spec PyProof.Rows L2
theorem insCall_or (c : List Nat) (F : ON) (x : PV) (as : List PV) (m : Mm) : (∃ n fs, x = .ref n ∧ m[n]? = some (.ins c fs) ∧ insCall c F x as m = F (.ref n :: as) m) ∨ insCall c F x as m = .no := by
  unfold insCall
  split
  · rename_i n
    split
    · rename_i c' fs hm
      split
      · rename_i hc
        subst hc
        exact .inl ⟨n, fs, rfl, hm, rfl⟩
      · exact .inr rfl
    · exact .inr rfl
  · exact .inr rfl
section
variable {X : Cx} {Ξ : XC} {a b o : Expr} {fa fb fo : SE} {pos p : Pos} {c : List Nat} {F : IF} {l : Nat}
/-- o.f, a property -/
theorem se_prop {f : Str} (h : HasPr X.prog X.w X.kw X.mg X.base c f l (spI X.kw 1 F)) (hr : Room (l + 1) X.A) (ho : PE X o (rdE X.kw Ξ fo)) (hb : attributeBase o f X.env (eval o X.env) = eval o X.env := by rfl) :
    PE X (.Attribute o f pos) (rdE X.kw Ξ (e1 (oProp c (cI F)) fo)) := by
  obtain ⟨C, pp, g0, fd, ps, hC, hcl, P, G, hbn⟩ := h
  refine PE_imp (pe_prop ho hcl P G hr hbn .nil pass0 hb) fun σ H Q ⟨g, s, m, em, sr, q⟩ => ?_
  refine ⟨g, s, m, em, sr, QR.bind q fun p hp q1 g1 H1 V x1 e1 r1 => ?_⟩
  have q2 : QE X.kw Ξ g1 H1 Q (insCall c (cI F) p.1 [] p.2) := QE.later x1 q1
  rcases insCall_or c (cI F) p.1 [] p.2 with ⟨n, xs, hx, hm, e⟩ | e
  · rw [e] at q2
    rw [hx] at r1
    obtain ⟨a, rfl, ha⟩ := r1.ref_inv
    obtain ⟨a2, C', dx, vs, h1, h2, h3, h4⟩ := e1.obj _ _ hm
    rw [ha] at h1; cases h1
    rw [hC] at h2; cases h2
    exact ⟨a, dx, vs, rfl, h3, g1, p.2, [.ref n], rfl, e1, .cons (.ref ha) .nil, cI_X0 q2⟩
  · rw [e] at q2
    exact q2.elim
/-- len(o) -/
theorem se_lenO (h : HasS X.prog X.w X.kw X.mg X.base c "__len__" l (spI X.kw 1 F)) (hr : Room (l + 1) X.A) (hg : Gl X "len") (hm : X.mg "len" = none) (hv : bootBuiltins "len" = some (.builtin "len")) (ha : PE X a (rdE X.kw Ξ fa))
    (he : starEach [a] X.env = (false, eval a X.env) :: starEach [] X.env := by rfl) :
    PE X (.Call (.Name "len" p) [a] [] pos) (rdE X.kw Ξ (e1 (oLenO c (cI F)) fa)) := by
  obtain ⟨C, f, fd, ps, hC, hcl, M, G, hbn⟩ := h
  refine PE_imp (pe_callB (cr_lenO (E := E0) M G hbn hr) hg hm hv (pa_cons ha pa_nil he) (he := he)) fun σ H Q ⟨g, s, m, em, sr, q⟩ => ?_
  refine ⟨g, s, m, em, sr, QR.bind q fun p hp q1 g1 H1 V x1 e1 r1 => ?_⟩
  have q2 : QE X.kw Ξ g1 H1 Q (oLenO c (cI F) p.1 p.2) := QE.later x1 q1
  unfold oLenO at q2
  rcases insCall_or c (cI F) p.1 [] p.2 with ⟨n, xs, hx, hm, e⟩ | e
  · rw [e] at q2
    rw [hx] at r1
    obtain ⟨a, rfl, ha⟩ := r1.ref_inv
    obtain ⟨a2, C', dx, vs, h1, h2, h3, h4⟩ := e1.obj _ _ hm
    rw [ha] at h1; cases h1
    rw [hC] at h2; cases h2
    refine ⟨a, dx, vs, rfl, h3, g1, p.2, [.ref n], rfl, e1, .cons (.ref ha) .nil, cI_X0 (Ξ := Ξ) (QR.bind q2 fun z hz q3 g3 H3 V3 x3 e3 r3 => ?_)⟩
    obtain ⟨v, m3⟩ := z
    cases v with
    | int i =>
      simp only at q3
      split at q3
      · rename_i hi
        simp only [Bool.and_eq_true, decide_eq_true_eq] at hi
        cases r3
        refine ⟨i, rfl, hi.1, by have : (2 : Int) ^ 63 = 9223372036854775808 := rfl; omega, QE.ret e3 (.int i) (QE.later x3 q3)⟩
      · exact q3.elim
    | _ => exact q3.elim
  · rw [e] at q2
    exact q2.elim
end
end TT
namespace TT
open PySem PySem.Spec PyProof.Rows L2
section
variable {X : Cx} {Ξ : XC} {a b o : Expr} {fa fb fo : SE} {pos p : Pos} {c : List Nat} {F : IF} {l : Nat}
/-- x in o -/
theorem op_tInO (h : HasS X.prog X.w X.kw X.mg X.base c "__contains__" l (spI X.kw 2 F)) (hr : Room l X.A) : OpR X (compareOp .In) (rd2 X.kw Ξ (oInO false c (cI F))) := by
  obtain ⟨C, f, fd, ps, hC, hcl, M, G, hbn⟩ := h
  intro pins s σ H x y v u Q I rx ry ⟨g, m, pa, pb, em, ra, rb, q⟩
  refine op_inO (E := E0) M G hbn hr pins s σ H x y v u Q I rx ry ?_
  unfold oInO at q
  rcases insCall_or c (cI F) pb [pa] m with ⟨n, xs, hx, hm, e⟩ | e
  · rw [e] at q
    rw [hx] at rb
    obtain ⟨ad, rfl, hd⟩ := rb.ref_inv
    obtain ⟨a2, C', dx, vs, h1, h2, h3, h4⟩ := em.obj _ _ hm
    rw [hd] at h1; cases h1
    rw [hC] at h2; cases h2
    refine ⟨ad, dx, vs, rfl, h3, g, m, [.ref n, pa], rfl, em, .cons (.ref hd) (.cons ra .nil), cI_X0 (Ξ := Ξ) (QR.bind q fun z hz q3 g3 H3 V3 x3 e3 r3 => ?_)⟩
    obtain ⟨w, m3⟩ := z
    cases w with
    | bl bb =>
      cases r3
      exact ⟨bb, rfl, QE.ret e3 (.bl _) (QE.later x3 q3)⟩
    | _ => exact q3.elim
  · rw [e] at q
    exact q.elim
theorem op_tNotInO (h : HasS X.prog X.w X.kw X.mg X.base c "__contains__" l (spI X.kw 2 F)) (hr : Room l X.A) : OpR X (compareOp .NotIn) (rd2 X.kw Ξ (oInO true c (cI F))) := by
  obtain ⟨C, f, fd, ps, hC, hcl, M, G, hbn⟩ := h
  intro pins s σ H x y v u Q I rx ry ⟨g, m, pa, pb, em, ra, rb, q⟩
  refine op_notInO (E := E0) M G hbn hr pins s σ H x y v u Q I rx ry ?_
  unfold oInO at q
  rcases insCall_or c (cI F) pb [pa] m with ⟨n, xs, hx, hm, e⟩ | e
  · rw [e] at q
    rw [hx] at rb
    obtain ⟨ad, rfl, hd⟩ := rb.ref_inv
    obtain ⟨a2, C', dx, vs, h1, h2, h3, h4⟩ := em.obj _ _ hm
    rw [hd] at h1; cases h1
    rw [hC] at h2; cases h2
    refine ⟨ad, dx, vs, rfl, h3, g, m, [.ref n, pa], rfl, em, .cons (.ref hd) (.cons ra .nil), cI_X0 (Ξ := Ξ) (QR.bind q fun z hz q3 g3 H3 V3 x3 e3 r3 => ?_)⟩
    obtain ⟨w, m3⟩ := z
    cases w with
    | bl bb =>
      cases r3
      exact ⟨bb, rfl, QE.ret e3 (.bl _) (QE.later x3 q3)⟩
    | _ => exact q3.elim
  · rw [e] at q
    exact q.elim
/-- o[i] -/
theorem se_ixO (h : HasS X.prog X.w X.kw X.mg X.base c "__getitem__" l (spI X.kw 2 F)) (hr : Room (l + 1) X.A) (ha : PE X a (rdE X.kw Ξ fa)) (hb : PE X b (rdE X.kw Ξ fb))
    (hs : ∀ o i, subscripted b true o i = runValue (.builtin "lifetime.subscript" ⟨[o, i], []⟩) := by exact fun _ _ => rfl) : PE X (.Subscript a b pos) (rdE X.kw Ξ (e2 (oIxO c (cI F)) fa fb)) := by
  obtain ⟨C, f, fd, ps, hC, hcl, M, G, hbn⟩ := h
  refine PE_imp (pe_ixO (E := E0) M G hbn hr ha hb hs) fun σ H Q q0 => ?_
  obtain ⟨g, s, m, em, sr, q⟩ := q0
  refine ⟨g, s, m, em, sr, QR.bind q fun p hp q1 g1 H1 V x1 e1 r1 => ?_⟩
  refine ⟨g1, s, p.2, e1, sr.ext em x1, QR.bind (QE.later x1 q1) fun p2 hp2 q2 g2 H2 W x2 e2 r2 => ?_⟩
  have q3 : QE X.kw Ξ g2 H2 Q (insCall c (cI F) p.1 [p2.1] p2.2) := QE.later x2 q2
  rcases insCall_or c (cI F) p.1 [p2.1] p2.2 with ⟨n, xs, hx, hm, e⟩ | e
  · rw [e] at q3
    rw [hx] at r1
    obtain ⟨ad, rfl, hd⟩ := r1.ref_inv
    have hd2 := x2.phi _ _ hd
    obtain ⟨a2, C', dx, vs, h1, h2, h3, h4⟩ := e2.obj _ _ hm
    rw [hd2] at h1; cases h1
    rw [hC] at h2; cases h2
    exact ⟨ad, dx, vs, rfl, h3, g2, p2.2, [.ref n, p2.1], rfl, e2, .cons (.ref hd2) (.cons r2 .nil), cI_X0 q3⟩
  · rw [e] at q3
    exact q3.elim
end
end TT
end

section
set_option Elab.async false
set_option linter.all false
set_option autoImplicit false
set_option maxRecDepth 100000
set_option maxHeartbeats 1000000
/-! enumerate of a tuple -/
namespace TT
open PySem
theorem drawsT {prog : Program} {w : World} {A : Around} (hh : A.handled = none) (it l : Addr) (hne : l ≠ it) (items : Array Value) :
    Draws prog w A it [it, l] items.size (fun i v => items[i]? = some v) (fun i h => h.IsTupleIter it l i ∧ h.IsTuple l items) where
  live := fun _ _ st => let ⟨o, ho, _⟩ := st.1; ⟨o, ho⟩
  frame := fun _ _ _ st hk => ⟨st.1.at fun o e => hk it (by simp) o e, st.2.at fun o e => hk l (by simp) o e⟩
  item := fun i s Q E hi st hQ => by
    refine RZ.nextOf_tuple_item st.1 st.2 (x := items[i]) (by simp [hi]) fun h' hit' hs' => ?_
    exact hQ _ h' s.toks (by simp [hi]) ⟨hit', st.2.extBut hs'.extBut hne⟩ hs'
  done := fun s Q E st hE => RZ.nextOf_tuple_end hh st.1 st.2 (by simp) hE
theorem meets_enumerate_newT (l : Addr) (items : Array Value) (n : Nat) (dct : Option Addr) (sl : Array (Option Value)) :
    Meets (Builtin.«enumerate.__new__» ⟨[.type "enumerate", .ref l], []⟩) (fun _ R s => s.heap.get? l = some { cls := .type "tuple", dict := dct, data := .seq items n, slots := sl } ∧
      R (.ok (.ret (.ref (s.heap.push { cls := .type "tuple_iterator", data := .fields #[.ref l, .int 0 0] }).objs.size)))
        { s with heap := (s.heap.push { cls := .type "tuple_iterator", data := .fields #[.ref l, .int 0 0] }).push { cls := .type "enumerate", data := .fields #[.none, .bool false, .ref s.heap.objs.size, rawInt 0, .none, .none] } }) :=
  .of_wp fun prog w A R s h => by
    obtain ⟨hp, g, d, tk, os⟩ := s; obtain ⟨hl, h⟩ := h
    have hsub := sub_enumerate
    have hL : Heap.IsTuple (Shared.heap ⟨hp, g, d, tk, os⟩) l items := ⟨_, hl, rfl, n, rfl⟩
    wp_walk using AutoSeq1.wpAny_loadPart' hl
    refine wpAny_stack_any fun st => wpAny_pure ?_
    split
    · rename_i c _ _ _ _ _
      cases (c == Value.type "enumerate")
      · wp_walk using AutoSeq1.wpAny_loadPart' hl, wpAny_pyIter_tuple hL
        exact ⟨_, rfl, h⟩
      · wp_walk using AutoSeq1.wpAny_loadPart' hl, wpAny_pyIter_tuple hL
        exact ⟨_, rfl, h⟩
    · wp_walk using AutoSeq1.wpAny_loadPart' hl, wpAny_pyIter_tuple hL
      exact ⟨_, rfl, h⟩
theorem call_enumerate_tuple {prog : Program} {w : World} {A : Around} {E : Value → Shared → Prop} {s : Shared} {l : Addr} {items : Array Value} {Q : Value → Shared → Prop} (hL : s.heap.IsTuple l items)
    (h : ∀ h', IsEnum h' (s.heap.objs.size + 1) s.heap.objs.size 0 .none → h'.IsTupleIter s.heap.objs.size l 0 → h'.objs.size = s.heap.objs.size + 2 →
      (∀ b o, s.heap.get? b = some o → h'.get? b = some o) → Q (.ref (s.heap.objs.size + 1)) { s with heap := h' }) :
    wpAny (model prog w) A (call (.type "enumerate") [.ref l]) Q E s := by
  obtain ⟨⟨c, dct, dt, sl⟩, hl, hc, n, hd⟩ := hL
  replace hc : c = .type "tuple" := hc
  replace hd : dt = .seq items n := hd
  subst hc hd
  refine callType_new F.called_enumerate (by decide) (F.typeCall_enumerate_1 _) (F.newCall_enumerate_1 _) (fun obj => F.args_object_init_2 obj _) F.entry_enumerate_new
    (meets_enumerate_newT l items n dct sl) ⟨hl, ?_⟩
  have hz : (s.heap.push { cls := .type "tuple_iterator", data := .fields #[.ref l, .int 0 0] }).objs.size = s.heap.objs.size + 1 := Heap.size_push ..
  show _ ∧ _
  rw [hz]
  have he : IsEnum ((s.heap.push { cls := .type "tuple_iterator", data := .fields #[.ref l, .int 0 0] }).push
      { cls := .type "enumerate", data := .fields #[.none, .bool false, .ref s.heap.objs.size, rawInt 0, .none, .none] }) (s.heap.objs.size + 1) s.heap.objs.size 0 .none := by
    have := Heap.get?_push_size (s.heap.push { cls := .type "tuple_iterator", data := .fields #[.ref l, .int 0 0] })
      (o := { cls := .type "enumerate", data := .fields #[.none, .bool false, .ref s.heap.objs.size, rawInt 0, .none, .none] }) rfl
    rw [hz] at this; exact this
  refine ⟨⟨_, he, rfl⟩, h _ he ⟨_, Heap.get?_push_of_some _ (Heap.get?_push_size _ rfl), rfl, rfl⟩ (by rw [Heap.size_push, hz]) fun b o x => Heap.get?_push_of_some _ (Heap.get?_push_of_some _ x)⟩
end TT
namespace TT
open PySem PySem.Spec PyProof.Rows L2
def IteT (K : PySem.W.Frag) (a : Addr) : It :=
  ⟨fun i H => ∃ (xs : List L2.V) (x : L2.V), SqT K H a xs ∧ xs[i]? = some x, fun i H v H' => ∃ T x, v = .ref T ∧ H T = none ∧ H' = upd H T (.tup [.int (i : Nat), x]) ∧ ∀ xs, SqT K H a xs → xs[i]? = some x, fun i H => ∃ xs : List L2.V, SqT K H a xs ∧ xs.length ≤ i⟩
theorem turn_enumT {P : Program} {w : World} {K : PySem.W.Frag} {elts : List Expr} {kk : Nat} {tpos : Pos} (a e it : Addr) :
    Turn P w K (.Tuple elts kk tpos) (IteT K a) [e, it] e (fun i h => (∃ old, IsEnum h e it ((i : Nat) : Int) old) ∧ h.IsTupleIter it a i ∧ e ≠ it) where
  mem := by simp
  obj := fun i h st b hb => by
    obtain ⟨⟨old, he⟩, ⟨o, ho, hc, hd⟩, _⟩ := st
    have e' : b = e ∨ b = it := by simpa using hb
    rcases e' with z | z
    · rw [z]; exact ⟨_, he, fun v q => nomatch q⟩
    · rw [z]; exact ⟨o, ho, fun v q => by rw [hd] at q; cases q⟩
  keep := fun i h h' st k => let ⟨⟨old, he⟩, hi, hne⟩ := st; ⟨⟨old, k e (by simp) _ he⟩, hi.at fun o q => k it (by simp) o q, hne⟩
  item := by
    intro X hP hw hK hc i pins s σ H E I hf st hg
    subst hP hw hK
    obtain ⟨⟨old, he⟩, hit, hne⟩ := st
    obtain ⟨xs, x, hq, hx⟩ := hg
    obtain ⟨its, rv, p, hz⟩ := I.tuple hq
    obtain ⟨u, hu, ru⟩ := rv.get hx
    have pt : s.heap.IsTuple a its.toArray := p
    have hel : e < s.heap.objs.size := Heap.lt_size he
    have hil : it < s.heap.objs.size := by obtain ⟨_, q, _⟩ := hit; exact Heap.lt_size q
    have hea : e ≠ a := fun z => by
      obtain ⟨o, ho, hc, _⟩ := pt
      rw [← z] at ho
      have := he.symm.trans ho
      cases this
      injection hc with hc
      exact absurd hc (by decide)
    have hia : a ≠ it := fun z => by
      obtain ⟨o, ho, hc, _⟩ := pt
      obtain ⟨o2, ho2, hc2, _⟩ := hit
      rw [z] at ho
      rw [ho] at ho2
      cases ho2
      rw [hc] at hc2
      injection hc2 with hc2
      exact absurd hc2 (by decide)
    have hlt : i < its.toArray.size := by
      have := (List.getElem?_eq_some_iff.mp hu).1
      simpa using this
    refine wpAny_pyNext_enum_itemD (drawsT (A := X.A.in1) (I.ok.hd hc) it a hia its.toArray) he ⟨hit, pt⟩ hlt hne (by simp [hne, hea]) fun y h' tk hy ho st' hT hsz hk => ?_
    have hyu : y = u := by
      have h1 : its.toArray[i]? = some y := hy
      have h2 : its[i]? = some y := by simpa using h1
      rw [hu] at h2; exact (Option.some.inj h2).symm
    subst hyu
    refine ⟨_, rfl, wpAny_letOwnedTupleGo_enum (s := { s with heap := h', toks := tk + 1 }) ho fun h'' he' sb => ?_⟩
    have hT2 : h''.get? s.heap.objs.size = some { cls := .type "tuple", data := .seq #[.int i tk, y] } := (sb.2 _ (Nat.ne_of_gt hel)).trans hT
    have new : ObjOk X.prog X.w (upd H s.heap.objs.size (.tup [.int (i : Nat), x])) h'' s.heap.objs.size (.tup [.int (i : Nat), x]) :=
      ⟨by show 2 ≤ sizeLine; decide, [.int i tk, y], .cons ⟨_, rfl⟩ (.cons ru .nil), ⟨_, hT2, rfl, _, rfl⟩⟩
    have I1 : Inv X pins σ (upd H s.heap.objs.size (.tup [.int (i : Nat), x])) { s with heap := h'', toks := tk + 1 } :=
      I.turnedNew (ch := [e, it]) (fun b ob hb q => (sb.2 b (fun z => hb (by simp [z]))).trans (hk b ob (fun z => hb (by simp [z])) (fun z => hb (by simp [z])) q)) hf (Nat.le_refl _) new
    refine ⟨.ref s.heap.objs.size, _, I1, rfl, ⟨_, x, rfl, I.hok.fresh (Nat.le_refl _), rfl, fun ys hy => by rw [I.tuple_inj hy hq]; exact hx⟩, ⟨⟨y, ?_⟩, st'.1.at fun o q => (sb.2 it (Ne.symm hne)).trans q, hne⟩, fun b hb => ?_⟩
    · have e1 : ((i + 1 : Nat) : Int) = (i : Int) + 1 := by omega
      rw [e1]; exact he'
    · have hb' : b < s.heap.objs.size := by
        have e' : b = e ∨ b = it := by simpa using hb
        rcases e' with z | z
        · rw [z]; exact hel
        · rw [z]; exact hil
      rw [upd_ne (Nat.ne_of_lt hb')]
      exact (hf b hb).1
  done := by
    intro X hP hw hK hc i pins s σ H E I hf st hg
    subst hP hw hK
    obtain ⟨⟨old, he⟩, hit, hne⟩ := st
    obtain ⟨xs, hq, hx⟩ := hg
    obtain ⟨its, rv, p, hz⟩ := I.tuple hq
    have pt : s.heap.IsTuple a its.toArray := p
    obtain ⟨f0, f1, f2, f3, f4, f5⟩ := hf it (by simp)
    have hl := rv.length
    have hia : a ≠ it := fun z => by
      obtain ⟨o, ho, hc, _⟩ := pt
      obtain ⟨o2, ho2, hc2, _⟩ := hit
      rw [z] at ho
      rw [ho] at ho2
      cases ho2
      rw [hc] at hc2
      injection hc2 with hc2
      exact absurd hc2 (by decide)
    have hD : Draws X.prog X.w X.A.in1 it [it, a] i (fun _ _ => True) (fun j h => j = i ∧ h.IsTupleIter it a j ∧ h.IsTuple a its.toArray) := {
      live := fun _ _ st => let ⟨o, ho, _⟩ := st.2.1; ⟨o, ho⟩
      frame := fun _ _ _ st hk => ⟨st.1, st.2.1.at fun o e => hk it (by simp) o e, st.2.2.at fun o e => hk a (by simp) o e⟩
      item := fun j s Q E hj st hQ => absurd st.1 (Nat.ne_of_lt hj)
      done := fun s Q E st hE => RZ.nextOf_tuple_end (I.ok.hd hc) st.2.1 st.2.2 (by simp; omega) hE }
    exact wpAny_pyNext_enum_endD hD he ⟨rfl, hit, pt⟩ fun h' eb => ⟨rfl, I.turned (t' := s.toks) (fun b o hb q => eb b o hb q) f0 f1 f3 f4 f5⟩
  self := fun A i s Q E st h => let ⟨⟨_, he⟩, _⟩ := st; wpAny_pyIter_enum he h
def iEnumTu (K : PySem.W.Frag) (ta : TA) : TI := fun σ H R => ta σ H fun vs H1 => ∃ a xs, vs = [.ref a] ∧ SqT K H1 a xs ∧ R (IteT K a) H1
theorem pi_enumT {X : Cx} {e : Expr} {ta : L2.TA} {p pos tpos : Pos} {elts : List Expr} {kk : Nat} (hg : Gl X "enumerate") (hm : X.mg "enumerate" = none) (ha : PA X [e] ta) (hs : starEach [e] X.env = [(false, eval e X.env)] := by rfl) :
    PI X (.Tuple elts kk tpos) (.Call (.Name "enumerate" p) [e] [] pos) (iEnumTu X.K ta) := by
  refine ⟨fun pins s σ H R I h => ?_⟩
  refine Call_ (ld_blt I hg hm boot_enumerate (PyProof.Rows.callWith_type1 (thn (ha.run pos pins s σ H _ I h) fun us s1 ⟨vs, H1, I1, r1, q1⟩ => ?_) hs rfl))
  obtain ⟨a, xs, ex, hq, q⟩ := q1
  subst ex
  cases r1 with
  | cons r rr =>
    cases rr
    cases r
    obtain ⟨its, rv, p', hz⟩ := I1.tuple hq
    refine call_enumerate_tuple (show s1.heap.IsTuple a its.toArray from p') fun h' he hit hsz hk => wpAny_pyIter_enum he ?_
    have I2 : L2.Inv X pins σ H1 { s1 with heap := h' } := I1.kept (t' := s1.toks) hk
    refine ⟨s1.heap.objs.size + 1, [s1.heap.objs.size + 1, s1.heap.objs.size], _, _, H1, rfl, I2, turn_enumT a (s1.heap.objs.size + 1) s1.heap.objs.size, ⟨⟨.none, he⟩, hit, Nat.succ_ne_self _⟩, fun b hb => ?_, q⟩
    have e' : b = s1.heap.objs.size + 1 ∨ b = s1.heap.objs.size := by simpa using hb
    have hle : s1.heap.objs.size ≤ b := by
      rcases e' with z | z
      · rw [z]; exact Nat.le_add_right _ _
      · rw [z]; exact Nat.le_refl _
    exact I1.fpOk hle (I1.hok.fresh hle)
section
variable {X : Cx} {Ξ : XC} {a : Expr} {fa : SE} {pos : Pos}
theorem si_enumT {p2 tpos : Pos} {elts : List Expr} {kk : Nat} (hg : Gl X "enumerate") (hm : X.mg "enumerate" = none) (h : PE X a (rdE X.kw Ξ fa)) (hs : starEach [a] X.env = [(false, eval a X.env)] := by rfl) :
    PI X (.Tuple elts kk tpos) (.Call (.Name "enumerate" p2) [a] [] pos) (rdI X.kw Ξ (iEnumT fa)) :=
  PI_imp (pi_enumT hg hm (pa_cons h pa_nil (by rw [hs]; rfl)) hs) fun σ H R ⟨g, s, m, em, sr, q⟩ => by
    refine ⟨g, s, m, em, sr, QR.bind q fun p hp q1 g1 H1 V x1 e1 r1 => ?_⟩
    obtain ⟨v, m1⟩ := p
    have q2 := QR.later x1 q1 fun _ q g' H' J x => q g' H' J (x1.trans x)
    simp only at q2
    split at q2
    · rename_i xs
      cases r1 with
      | tup ha ra =>
        rename_i ad vs
        have hL : ∀ {g' m' H'}, Ext g1 H1 g' H' → Emb X.kw g' m' H' → SqT X.kw H' ad vs := fun x' e' => e1.sqT x' ha
        refine ⟨ad, vs, rfl, hL (Ext.refl _ _) e1, q2 g1 H1 _ (Ext.refl _ _) e1 ⟨fun g' m' H' i x' e' hi => ?_, fun g' m' H' i x' e' hi => ?_⟩⟩
        · obtain ⟨z, hz⟩ : ∃ z, (enumP 0 xs)[i]? = some z := ⟨_, List.getElem?_eq_getElem hi⟩
          obtain ⟨x0, h1, h2⟩ := enumP_get hz
          have ha' := hL x' e'
          obtain ⟨xv, hx, rx⟩ := (ra.ext e1 x').get h1
          refine ⟨⟨vs, xv, ha', hx⟩, fun w H3 ⟨T, x1, hw, hT, hH, f1⟩ => ?_⟩
          subst hw hH
          have ex : x1 = xv := Option.some.inj ((f1 _ ha').symm.trans hx)
          subst ex
          rw [Int.zero_add] at h2
          obtain ⟨n1, n2, n3⟩ := e'.new_tup (xs := [.int (i : Int), x0]) (vs := [.int (i : Int), x1]) hT (.cons (.int _) (.cons rx .nil))
          exact ⟨g', _, n1, n2, by rw [hz, h2], n3⟩
        · refine ⟨vs, hL x' e', ?_⟩
          rw [← ra.length]
          rw [enumP_len] at hi
          exact hi
    · exact q2.elim
end
end TT
end

section
set_option Elab.async false
set_option linter.all false
set_option autoImplicit false
set_option maxRecDepth 100000
/-! TT: how many texts a tuple holds: len(set(t)) -/
namespace TT
open PySem PySem.Spec PyProof.Rows L2
/-- each one once, as they come -/
def onceS (xs : List Str) : List Str := xs.foldl (fun acc k => if k ∈ acc then acc else acc ++ [k]) []
theorem onceS_snoc (xs : List Str) (k : Str) : onceS (xs ++ [k]) = if k ∈ onceS xs then onceS xs else onceS xs ++ [k] := by
  unfold onceS; rw [List.foldl_append]; rfl
theorem onceS_go : ∀ (xs acc : List Str) (k : Str), k ∈ xs.foldl (fun acc k => if k ∈ acc then acc else acc ++ [k]) acc ↔ k ∈ acc ∨ k ∈ xs
  | [], acc, k => by simp
  | y :: xs, acc, k => by
    rw [List.foldl_cons, onceS_go xs, List.mem_cons]
    split
    · rename_i h
      constructor
      · rintro (z | z)
        · exact .inl z
        · exact .inr (.inr z)
      · rintro (z | z | z)
        · exact .inl z
        · rw [z]; exact .inl h
        · exact .inr z
    · rw [List.mem_append, List.mem_singleton]
      exact or_assoc
theorem onceS_mem (xs : List Str) (k : Str) : k ∈ onceS xs ↔ k ∈ xs := by
  unfold onceS
  rw [onceS_go]; simp
theorem onceS_up (xs : List Str) (k : Str) : (onceS xs).length ≤ (onceS (xs ++ [k])).length := by
  rw [onceS_snoc]; split <;> simp
theorem onceS_take (xs : List Str) (i : Nat) : (onceS (xs.take i)).length ≤ (onceS xs).length := by
  induction hd : xs.length - i generalizing i with
  | zero => rw [List.take_of_length_le (by omega)]; exact Nat.le_refl _
  | succ n ih =>
    have hi : i < xs.length := by omega
    have h1 := onceS_up (xs.take i) xs[i]
    have e : xs.take (i + 1) = xs.take i ++ [xs[i]] := by rw [List.take_add_one, List.getElem?_eq_getElem hi]; rfl
    rw [← e] at h1
    exact Nat.le_trans h1 (ih (i + 1) (by omega))
section
variable {prog : Program} {w : World} {A : Around} {R : Result → Shared → Prop} {I : Addr} {fp wr : List Addr} {G : Array GenState → Array GenState → Prop} {n : Nat} {P : Nat → Value → Prop} {St : Nat → Shared → Prop}
theorem fillS (W : WalksS prog w A.in1 I fp wr G n P St) (C : Addr) (hC : C ∉ fp) (xs : List Str) (hsz : xs.length = n) (hb : (onceS xs).length + 1 < scanBound)
    (hval : ∀ i v, P i v → ∃ x t, xs[i]? = some x ∧ v = .str x t) :
    ∀ (k i : Nat) (s : Shared), n - i = k → i ≤ n → St i s → s.heap.SetOf (strKind prog w) C (fun y => decide (y ∈ xs.take i)) (onceS (xs.take i)).length →
      (∀ s', Moved (C :: wr) G s s' → s'.heap.SetOf (strKind prog w) C (fun y => decide (y ∈ xs)) (onceS xs).length → R (.ok (.ret .none)) s') →
      codeAny (model prog w) A (.builtin "set.update.loop" ⟨[.ref C, .ref I], []⟩) R s := by
  have nw : C ∉ wr := fun h => hC (W.sub _ h)
  have sub : ∀ b ∈ wr, b ∈ C :: wr := fun b hb => List.mem_cons_of_mem _ hb
  intro k
  induction k with
  | zero =>
    intro i s hk hi hst hS hR
    have hin : xs.take i = xs := List.take_of_length_le (by omega)
    rw [hin] at hS
    have hin2 : i = n := by omega
    subst hin2
    refine codeAny_builtin PyProof.Rows.F.entry_set_update_loop ?_
    rw [Around.under_plainId PyProof.Rows.F.plain_set_update_loop _]
    show wpAny _ A.in1 (pyNext (.ref I) >>= _) _ _ s
    refine wpAny_bind (W.done s _ _ hst fun s' hm => wpAny_pure (hR s' (hm.mono sub) ?_))
    obtain ⟨o, es, ep, t, ho, rest⟩ := hS
    exact ⟨o, es, ep, t, hm.heap C _ nw ho, rest⟩
  | succ k ih =>
    intro i s hk hi hst hS hR
    refine codeAny_builtin PyProof.Rows.F.entry_set_update_loop ?_
    rw [Around.under_plainId PyProof.Rows.F.plain_set_update_loop _]
    show wpAny _ A.in1 (pyNext (.ref I) >>= _) _ _ s
    refine wpAny_bind (W.item i s _ _ (by omega) hst fun v s' hP hst' hm => ?_)
    obtain ⟨x, t, hx, rfl⟩ := hval i v hP
    have hS1 : s'.heap.SetOf (strKind prog w) C (fun y => decide (y ∈ xs.take i)) (onceS (xs.take i)).length := by
      obtain ⟨o, es, ep, tb, ho, rest⟩ := hS
      exact ⟨o, es, ep, tb, hm.heap C _ nw ho, rest⟩
    show wpAny _ A.in1 (holding [Value.str x t] (setAdd C (.str x t)) >>= _) _ _ s'
    refine wpAny_bind (wpAny_holding ?_)
    unfold setAdd
    refine wpAny_holding (wpAny_bind ((strKind prog w).pyHash (k := x) (strKind_is _ _ _ _) ?_))
    have room := onceS_take xs i
    refine wpAny_setAddHashed_of (knd := strKind prog w) (s := { s' with toks := s'.toks + 1 }) (strKind_is _ _ _ _) rfl hS1 (by omega) fun h' hsb hS2 => ?_
    have et : xs.take (i + 1) = xs.take i ++ [x] := by rw [List.take_add_one, hx]; rfl
    have hS3 : h'.SetOf (strKind prog w) C (fun y => decide (y ∈ xs.take (i + 1))) (onceS (xs.take (i + 1))).length := by
      refine SetOf_congr hS2 (fun y => ?_) ?_
      · rw [et]; simp [List.mem_append]
      · rw [et, onceS_snoc]
        by_cases hm : x ∈ xs.take i
        · rw [if_pos (decide_eq_true hm), if_pos ((onceS_mem _ _).mpr hm)]
        · rw [if_neg (by simpa using hm), if_neg (fun z => hm ((onceS_mem _ _).mp z))]; simp
    refine wpAny_pure ⟨plainId_quiet PyProof.Rows.F.plain_set_update_loop _, ih (i + 1) _ (by omega) (by omega) (W.frame _ s' _ _ hst' (Nat.le_succ _) fun b hb o e => ?_) hS3 fun s'' hm'' hS'' => ?_⟩
    · rw [hsb.2 b (fun h : b = C => hC (by rw [← h]; exact hb))]; exact e
    · refine hR s'' (Moved.trans W.gtrans ((hm.mono sub).then_heap (Nat.le_succ _) fun b o hb e => ?_) hm'') hS''
      rw [hsb.2 b (fun h : b = C => hb (by rw [h]; exact List.mem_cons_self))]; exact e
end
section
variable {prog : Program} {w : World} {A : Around} {E : Value → Shared → Prop} {s : Shared}
set_option maxHeartbeats 3200000 in
theorem call_setTS {l : Addr} {items : Array Value} {xs : List Str} {Q : Value → Shared → Prop}
    (hh : A.handled = none) (hl : s.heap.IsTuple l items) (hi : StrsAre items.toList xs) (hb : (onceS xs).length + 1 < scanBound)
    (h : ∀ (h' : Heap) (tk : Nat), h'.SetOf (strKind prog w) s.heap.objs.size (fun y => decide (y ∈ xs)) (onceS xs).length →
      (∀ b o, b < s.heap.objs.size → s.heap.get? b = some o → h'.get? b = some o) → Q (.ref s.heap.objs.size) { s with heap := h', toks := tk }) :
    wpAny (model prog w) A (call (.type "set") [.ref l]) Q E s := by
  obtain ⟨c, tl, hmro⟩ := PySem.F.called_set.mro
  have hmade := PySem.F.called_set.made
  have hsub := PySem.F.called_set.sub
  refine wpAny_call (codeAny_of_tree ?_)
  show wpAny _ _ (callAny (.type "set") _) _ _ _
  refine wpAny_pure ⟨Code.quiet_builtin _ (by decide +kernel), codeAny_builtin PySem.F.entry_type_call ?_⟩
  rw [Around.under_plain (weight_type_call_type "set" [.ref l] []) rfl]
  have h1 := PySem.F.called_set.notType
  have h2 := PySem.F.called_set.canCreate
  have hct := PySem.F.typeCall_set_1 (.ref l)
  repeat (any_goals (first | assumption | wp_step))
  refine codeAny_mono (code_set_new_1 (.ref l) (E := E) (Q₁ := fun obj s₁ => ∃ led : Bool, obj = .ref s.heap.objs.size ∧ s₁ = { s with heap := s.heap.push { cls := .type "set", dict := none, data := .set #[] 0 (.fresh 0 0 led) } }) fun led => ⟨led, rfl, rfl⟩) fun r s₁ hr => ?_
  cases r with
  | error e => exact hr
  | ok fl =>
    cases fl with
    | ret obj =>
      obtain ⟨led, rfl, rfl⟩ := hr
      have hS : (s.heap.push { cls := .type "set", dict := none, data := .set #[] 0 (.fresh 0 0 led) }).get? s.heap.objs.size = some { cls := .type "set", dict := none, data := .set #[] 0 (.fresh 0 0 led) } := Heap.get?_push_size _ rfl
      have hT : Shared.TypeIs { s with heap := s.heap.push { cls := .type "set", dict := none, data := .set #[] 0 (.fresh 0 0 led) } } (.ref s.heap.objs.size) "set" := ⟨_, hS, rfl⟩
      have hli := PySem.F.called_set.init.lookup
      have hbi := PySem.F.called_set.init.bind (.ref s.heap.objs.size)
      repeat (any_goals (first | assumption | wp_step))
      refine codeAny_mono (codeAny_call_builtin (R := wants (fun r s₂ => r = .none ∧ ∃ h' tk, s₂ = { s with heap := h', toks := tk } ∧
          h'.SetOf (strKind prog w) s.heap.objs.size (fun y => decide (y ∈ xs)) (onceS xs).length ∧
          (∀ b o, b < s.heap.objs.size → s.heap.get? b = some o → h'.get? b = some o)) E) PySem.F.called_set.init.plain PySem.F.entry_set_init (check_set_init_1 hT ?_)) fun r₂ s₂ hr₂ => ?_
      · obtain ⟨⟨c1, d1, t1, sl1⟩, hol, hcl, nl, hdl⟩ := hl
        simp only at hcl hdl
        subst hcl hdl
        have hol' : (s.heap.push { cls := .type "set", dict := none, data := .set #[] 0 (.fresh 0 0 led) }).get? l = some { cls := .type "tuple", dict := d1, data := .seq items nl, slots := sl1 } := Heap.get?_push_of_some _ hol
        have hsls := PySem.F.sub_tuple_set
        have hslf := PySem.F.sub_tuple_frozenset
        have hne : (Value.type "tuple" == Value.type "dict") = false := by decide
        have hl1 : (s.heap.push { cls := .type "set", dict := none, data := .set #[] 0 (.fresh 0 0 led) }).IsTuple l items := ⟨_, hol', rfl, nl, rfl⟩
        unfold Builtin.«set.__init__» noKeywords Builtin.Frozenset.updateFrom
        generalize hPI : pyIter = PI
        wp_walk
        subst hPI
        refine wpAny_pyIter_tuple hl1 (wpAny_bind (wpAny_runValue ?_))
        have hlS : l < s.heap.objs.size := Heap.lt_size hol
        have hh3 : A.in1.in1.in1.handled = none := by simp [hh]
        have hz : (s.heap.push { cls := .type "set", dict := none, data := .set #[] 0 (.fresh 0 0 led) }).objs.size = s.heap.objs.size + 1 := Heap.size_push ..
        have hneI : l ≠ (s.heap.push { cls := .type "set", dict := none, data := .set #[] 0 (.fresh 0 0 led) }).objs.size := by rw [hz]; exact Nat.ne_of_lt (Nat.lt_succ_of_lt hlS)
        have hSf : s.heap.objs.size ∉ [(s.heap.push { cls := .type "set", dict := none, data := .set #[] 0 (.fresh 0 0 led) }).objs.size, l] := by
          rw [hz]; simp only [List.mem_cons, List.not_mem_nil, or_false, not_or]
          exact ⟨Nat.ne_of_lt (Nat.lt_succ_self _), Nat.ne_of_gt hlS⟩
        have hsz : xs.length = items.size := by rw [← StrsAre.len_eq hi, Array.length_toList]
        have hval : ∀ (i : Nat) (v : Value), items[i]? = some v → ∃ x t, xs[i]? = some x ∧ v = .str x t := fun i v hv => by
          obtain ⟨t, e⟩ := SS.strs_at hi i v (by rw [Array.getElem?_toList]; exact hv)
          have hlt : i < xs.length := by rw [hsz]; exact (Array.getElem?_eq_some_iff.mp hv).1
          exact ⟨xs[i], t, List.getElem?_eq_getElem hlt, by rw [e]; congr 1; simp [List.getD, hlt]⟩
        refine fillS ((Walks.tuple hh3 _ l hneI items).toS) s.heap.objs.size hSf xs hsz hb hval (items.size - 0) 0 _ (by omega) (Nat.zero_le _)
          ⟨⟨_, Heap.get?_push_size _ rfl, rfl, rfl⟩, (hl1.push _)⟩ ?hS0 ?hR
        case hS0 =>
          have hget : ((s.heap.push { cls := .type "set", dict := none, data := .set #[] 0 (.fresh 0 0 led) }).push { cls := .type "tuple_iterator", data := .fields #[.ref l, .int 0 0] }).get? s.heap.objs.size
              = some { cls := .type "set", dict := none, data := .set #[] 0 (.fresh 0 0 led) } := Heap.get?_push_of_some _ hS
          exact SetOf_congr ((setObjOf_fresh (knd := strKind prog w) led).setOf hget (by unfold scanBound; omega)) (fun _ => rfl) rfl
        case hR =>
          intro s' hm hS'
          obtain ⟨h', g', d', tk', os'⟩ := s'
          have eg : g' = s.gens := hm.gens
          have ed : d' = s.drawn := hm.drawn
          have eo : os' = s.os := hm.os
          subst eg ed eo
          refine wpAny_pure (wpAny_pure ⟨rfl, h', tk', rfl, hS', fun b o hb e => ?_⟩)
          exact hm.heap b o (by rw [hz]; simp only [List.mem_cons, List.not_mem_nil, or_false, not_or]; exact ⟨Nat.ne_of_lt hb, Nat.ne_of_lt (Nat.lt_succ_of_lt hb)⟩) (Heap.get?_push_of_some _ (Heap.get?_push_of_some _ e))
      · cases r₂ with
        | error e => exact hr₂
        | ok fl₂ =>
          cases fl₂ with
          | ret r =>
            obtain ⟨rfl, h', tk, rfl, hS', hk'⟩ := hr₂
            repeat (any_goals (first | assumption | wp_step))
            exact h _ _ hS' hk'
          | _ => exact hr₂.elim
    | _ => exact hr.elim
end
def strT (l : List Nat) : Str := ⟨l.toArray⟩
theorem strT_inj {a b : List Nat} (h : strT a = strT b) : a = b := by
  have : a.toArray = b.toArray := congrArg Str.cps h
  simpa using congrArg Array.toList this
theorem once_map (xs : List (List Nat)) : onceS (xs.map strT) = (onceT xs).map strT := by
  unfold onceS onceT
  have key : ∀ (xs acc : List (List Nat)), (xs.map strT).foldl (fun acc k => if k ∈ acc then acc else acc ++ [k]) (acc.map strT) = (xs.foldl (fun acc k => if k ∈ acc then acc else acc ++ [k]) acc).map strT := by
    intro xs
    induction xs with
    | nil => intro acc; rfl
    | cons x xs ih =>
      intro acc
      rw [List.map_cons, List.foldl_cons, List.foldl_cons]
      by_cases h : x ∈ acc
      · rw [if_pos h, if_pos (List.mem_map.mpr ⟨x, h, rfl⟩), ih]
      · have h2 : ¬ strT x ∈ acc.map strT := fun z => by
          obtain ⟨y, hy, e⟩ := List.mem_map.mp z
          exact h (by rw [← strT_inj e]; exact hy)
        rw [if_neg h, if_neg h2, ← ih, List.map_append]; rfl
  exact key xs []
theorem strsOf_rel {K : KW} {g : Gh} {H : Hp} : ∀ {ys : List PV} {xs : List (List Nat)} {vs : List V}, strsOf ys = some xs → Rps K g H ys vs → vs = (xs.map strT).map V.str
  | [], xs, vs, h, r => by
    cases h; cases r; rfl
  | .str l :: ys, xs, vs, h, r => by
    cases r with
    | cons r1 rr =>
      cases r1
      cases hx : strsOf ys with
      | none => simp [strsOf, hx] at h
      | some zs =>
        simp [strsOf, hx] at h
        subst h
        rw [strsOf_rel hx rr]; rfl
  | .non :: _, _, _, h, _ => by cases h
  | .bl _ :: _, _, _, h, _ => by cases h
  | .int _ :: _, _, _, h, _ => by cases h
  | .tup _ :: _, _, _, h, _ => by cases h
  | .vl _ :: _, _, _, h, _ => by cases h
  | .fz _ :: _, _, _, h, _ => by cases h
  | .vd _ :: _, _, _, h, _ => by cases h
  | .ref _ :: _, _, _, h, _ => by cases h
  | .fn _ :: _, _, _, h, _ => by cases h
def tLenTS (K : PySem.W.Frag) (ta : TE) : TE := fun σ H Q => ta σ H fun x H1 => ∃ (l : Addr) (xs : List Str), x = .ref l ∧ SqT K H1 l (xs.map V.str) ∧ (onceS xs).length + 1 < scanBound ∧ Q (.int (onceS xs).length) H1
section
variable {X : Cx} {Ξ : XC} {a : Expr} {fa : SE} {ta : TE}
theorem pe_lenTS {p p2 q pos : Pos} (hc : X.calm = true) (hg : Gl X "len") (hm : X.mg "len" = none) (hg2 : Gl X "set") (hm2 : X.mg "set" = none) (ha : PE X a ta)
    (na : starEach [a] X.env = (false, eval a X.env) :: starEach [] X.env := by rfl) : PE X (.Call (.Name "len" p) [.Call (.Name "set" p2) [a] [] q] [] pos) (tLenTS X.K ta) := by
  refine ⟨fun pins s σ H Q I h => ?_⟩
  refine Call_ (ld_blt I hg hm boot_len ?_)
  refine PyProof.Rows.callWith_builtin1 (PyProof.Rows.args_cons ?_ rfl) rfl rfl
  refine Call_ (ld_blt I hg2 hm2 boot_set ?_)
  refine PyProof.Rows.callWith_type1 (PyProof.Rows.args_cons (thn (ha.run pins s σ H _ I h) fun v s1 ⟨x, H1, I1, r1, q1⟩ => PyProof.Rows.args_nil ?_) na) na rfl
  obtain ⟨l, xs, rfl, hq, h1, q1⟩ := q1
  cases r1
  obtain ⟨its, r, pl, hz⟩ := I1.tuple hq
  refine call_setTS (I1.ok.hd hc) pl (by simpa using L2.strsAre_of r) h1 fun h' tk hS hk => PyProof.Rows.args_nil ?_
  obtain ⟨o, es, ep, t, ho, hex, hd, _, _, _, hf, hn⟩ := hS
  exact call_len_set ho hex hd hf (by rw [hn]; unfold scanBound at h1; omega) ⟨.int (onceS xs).length, H1, (I1.kept fun b o e => hk b o (Heap.lt_size e) e).tok _, ⟨_, by rw [hn]⟩, q1⟩
theorem se_lenSetS {p p2 pos q : Pos} (hc : X.calm = true) (hg : Gl X "len") (hm : X.mg "len" = none) (hg2 : Gl X "set") (hm2 : X.mg "set" = none) (ha : PE X a (rdE X.kw Ξ fa))
    (he : starEach [a] X.env = (false, eval a X.env) :: starEach [] X.env := by rfl) :
    PE X (.Call (.Name "len" p) [.Call (.Name "set" p2) [a] [] q] [] pos) (rdE X.kw Ξ (e1 oLenSetS fa)) :=
  PE_imp (pe_lenTS hc hg hm hg2 hm2 ha he) fun σ H Q ⟨g, s, m, em, sr, q⟩ => by
    refine ⟨g, s, m, em, sr, QR.bind q fun z hz q1 g1 H1 V x1 e1 r1 => ?_⟩
    have q2 : QE X.kw Ξ g1 H1 Q (oLenSetS z.1 z.2) := QE.later x1 q1
    unfold oLenSetS at q2
    split at q2
    · rename_i ys hy
      split at q2
      · rename_i xs hx
        split at q2
        · rename_i hl
          rw [hy] at r1
          obtain ⟨p, vs, rfl, h1, h2⟩ := r1.tup_inv
          rw [strsOf_rel hx h2] at h1
          refine ⟨p, xs.map strT, rfl, h1, ?_, ?_⟩
          · rw [once_map, List.length_map]; unfold scanBound; omega
          · rw [once_map, List.length_map]; exact QE.ret e1 (.int _) q2
        · exact q2.elim
      · exact q2.elim
    · exact q2.elim
end
end TT
end

section
set_option Elab.async false
set_option linter.all false
set_option autoImplicit false
set_option maxRecDepth 100000
/-! TT: list(range(n)) -/
namespace TT
open PySem PySem.Spec PyProof.Rows L2
theorem rgV_rngL {K : KW} {g : Gh} {H : Hp} (n : Nat) : Rps K g H (rngL 0 n) (rgV 0 (n : Int)) := by
  have key : ∀ (n : Nat) (lo : Int), Rps K g H (rngL lo n) ((List.range n).map fun i => V.int (lo + (i : Nat))) := by
    intro n
    induction n with
    | zero => intro lo; exact .nil
    | succ n ih =>
      intro lo
      rw [rngL, List.range_succ_eq_map, List.map_cons, List.map_map]
      have h0 : lo + ((0 : Nat) : Int) = lo := by omega
      rw [h0]
      refine .cons (.int lo) ?_
      have e : ((fun i : Nat => V.int (lo + (i : Nat))) ∘ Nat.succ) = fun i : Nat => V.int (lo + 1 + (i : Nat)) := by
        funext i
        show V.int (lo + ((i + 1 : Nat) : Int)) = V.int (lo + 1 + (i : Int))
        congr 1; omega
      rw [e]
      exact ih (lo + 1)
  unfold rgV
  have : ((n : Int) - 0).toNat = n := by omega
  rw [this]
  exact key n 0
section
variable {X : Cx} {Ξ : XC} {a : Expr} {fa : SE}
theorem se_listR {p p2 pos q : Pos} (hc : X.calm = true) (hg : Gl X "list") (hm : X.mg "list" = none) (hg2 : Gl X "range") (hm2 : X.mg "range" = none) (ha : PE X a (rdE X.kw Ξ fa))
    (na : starEach [a] X.env = (false, eval a X.env) :: starEach [] X.env := by rfl) (na2 : starEach [(.Call (.Name "range" p2) [a] [] q : Expr)] X.env = (false, eval (.Call (.Name "range" p2) [a] [] q) X.env) :: starEach [] X.env := by rfl) :
    PE X (.Call (.Name "list" p) [.Call (.Name "range" p2) [a] [] q] [] pos) (rdE X.kw Ξ (eListR fa)) :=
  PE_imp (pe_listRg hc hg hm (prg_1 hg2 hm2 ha na) na2) fun σ H Q ⟨g, s, m, em, sr, q⟩ => by
    refine ⟨g, s, m, em, sr, QR.bind q fun z hz q1 g1 H1 V x1 e1 r1 => ?_⟩
    obtain ⟨v, m1⟩ := z
    have q2 := QE.later x1 q1
    simp only at q2
    split at q2
    · rename_i j
      cases r1.int_inv
      split at q2
      · rename_i hj
        simp only [Bool.and_eq_true, decide_eq_true_eq] at hj
        obtain ⟨n, rfl⟩ := Int.eq_ofNat_of_zero_le hj.1
        refine ⟨_, rfl, RgOk.of_le (by omega) (by omega) (by omega) (by omega), fun l hl => QE.newL (Ξ := Ξ) e1 (rgV_rngL n) ?_ hl⟩
        have : (n : Int).toNat = n := by omega
        rw [this] at q2
        exact q2
      · exact q2.elim
    · exact q2.elim
end
end TT
end

section
set_option Elab.async false
set_option linter.all false
set_option autoImplicit false
namespace TT
/-! TT: the greatest of a list; a def that calls itself -/
def maxL : List Int → Option Int
  | [] => none
  | [x] => some x
  | x :: r => (maxL r).map fun y => if y ≤ x then x else y
def fMaxL : ON := fun xs m => match xs with
  | [a] => (match look1 m a with
    | .vl ys => (match intsOf ys with
      | some is => (match maxL is with
        | some v => .ok (.int v, m)
        | none => .no)
      | none => .no)
    | _ => .no)
  | _ => .no
/-- a def that calls itself, by how deep it may go -/
def noF : IF := fun _ _ => .no
def recF (N k : Nat) (b : IF → SS) : Nat → IF
  | 0 => noF
  | n + 1 => bodyI N k (b (recF N k b n))
end TT
end

section
set_option Elab.async false
set_option linter.all false
set_option autoImplicit false
set_option maxRecDepth 100000
namespace TT
open PySem PySem.Spec PyProof.Rows L2
theorem maxL_max : ∀ {l : List Int} {v : Int}, maxL l = some v → v ∈ l ∧ ∀ y ∈ l, y ≤ v
  | [x], v, h => by cases h; exact ⟨List.mem_cons_self, fun y hy => by rw [List.mem_singleton.mp hy]; exact Int.le_refl _⟩
  | x :: z :: r, v, h => by
    unfold maxL at h
    cases hm : maxL (z :: r) with
    | none => rw [hm] at h; cases h
    | some w =>
      rw [hm] at h
      obtain ⟨h1, h2⟩ := maxL_max hm
      simp only [Option.map_some, Option.some.injEq] at h
      split at h
      · subst h
        exact ⟨List.mem_cons_self, fun y hy => by
          rcases List.mem_cons.mp hy with rfl | hy
          · exact Int.le_refl _
          · have := h2 y hy; omega⟩
      · subst h
        exact ⟨List.mem_cons_of_mem _ h1, fun y hy => by
          rcases List.mem_cons.mp hy with rfl | hy
          · omega
          · exact h2 y hy⟩
section
variable {X : Cx} {Ξ : XC}
theorem call_tMaxL (hc : X.calm = true) : CallR X (.builtin "max") (rdN X.kw Ξ fMaxL) := by
  refine CallR_imp (cr_max hc) fun xs H Q ⟨g, m, as, e, ra, q⟩ => ?_
  unfold fMaxL at q
  split at q
  · rename_i a
    cases ra with
    | cons r1 r2 =>
      cases r2
      split at q
      · rename_i ys h1
        obtain ⟨a1, vs, rfl, ha, r1'⟩ := e.look r1 h1
        split at q
        · rename_i is hi
          cases intsOf_rel hi r1'
          split at q
          · rename_i v hv
            obtain ⟨m1, m2⟩ := maxL_max hv
            refine ⟨a1, is, rfl, SqL.of ha, List.length_pos_of_mem m1, fun z hz hz2 => ?_⟩
            have : z = v := by
              have := hz2 v m1
              have := m2 z hz
              omega
            subst this
            exact QE.ret e (.int _) q
          · exact q.elim
        · exact q.elim
      · exact q.elim
  · exact q.elim
end
section
variable {P : Program} {w : World} {K : KW} {mg : Str → Option Value} {base : Heap}
/-- no promise at all -/
theorem has_no {x : Str} {st : Stmt} {f : Addr} {fd : FuncData} {ps : List Str} {k : Nat} (F : Fun K x x st f fd) (hm : mg x = some (.ref f))
    (hb : ∀ (kV doc pm : Value) (an : Option Addr) (cdv ct : Value) (us : List Value), us.length = ps.length → bindArgs (PySem.W.fnOf x x (defArgs st) (defBody st) (defScope st) .none kV doc pm an cdv ct) ⟨us, []⟩ = pure (ps.zip us)) :
    Has P w K mg base x k (spI K ps.length noF) :=
  ⟨f, fd, ps, ⟨fun vs H Q E h => spI_len h, fun A outer s H args us vs Q E hr he hbt hv hs => (by
    obtain ⟨g, m, as, hl, em, ra, q⟩ := hs
    exact q.elim)⟩, hm, F.kp, F.binds hb⟩
end
end TT
end

section
set_option Elab.async false
set_option linter.all false
set_option autoImplicit false
set_option maxRecDepth 100000
/-! TT: len(set(xs)), xs a list of whole numbers, repeated ones too -/
namespace TT
open PySem PySem.Spec PyProof.Rows L2
def oLenSetL : O1 := fun v m => match look1 m v with
  | .vl ys => (match intsOf ys with
    | some is => if is.length < 4000 then .ok (.int (uniI is).length, m) else .no
    | none => .no)
  | _ => .no
theorem dedup_nodup : ∀ (i : Nat) (val : Nat → Int), (firstMet val i).Nodup
  | 0, val => by rw [firstMet_zero]; exact List.nodup_nil
  | i + 1, val => by
    rw [firstMet_succ]
    have h := dedup_nodup i val
    unfold step_dedup
    split
    · exact h
    · rename_i hn
      rw [List.nodup_append]
      refine ⟨h, by simp, fun a ha b hb e => hn ?_⟩
      rw [List.mem_singleton.mp hb] at e
      exact List.any_eq_true.mpr ⟨a, ha, by simp [e]⟩
theorem firstMet_len (ns : List Int) : (firstMet (fun i => ns.getD i 0) ns.length).length = (uniI ns).length := by
  have p : (firstMet (fun i => ns.getD i 0) ns.length).Perm (uniI ns) := by
    refine (List.perm_ext_iff_of_nodup (dedup_nodup _ _) ?_).mpr fun k => ?_
    · exact (uniI_lt ns).imp (fun h => by omega)
    · rw [uniI_mem]
      have h := firstMet_any (fun i => ns.getD i 0) ns.length k
      have e : (List.range ns.length).map (fun i => ns.getD i 0) = ns := by
        refine List.ext_getElem (by simp) fun i h1 h2 => ?_
        simp [List.getD, h2]
      rw [e, Bool.eq_iff_iff] at h
      simp only [List.any_eq_true, beq_iff_eq, exists_eq_right] at h
      exact h
  exact p.length_eq
section
variable {X : Cx} {Ξ : XC} {a : Expr} {fa : SE} {ta : TE}
def tLenSetM (K : PySem.W.Frag) (ta : TE) : TE := fun σ H Q => ta σ H fun x H1 => ∃ (l : Addr) (ns : List Int), x = V.ref l ∧ SqL K H1 l (ns.map V.int) ∧ ns.length < 4000 ∧ Q (.int (uniI ns).length) H1
theorem pe_lenSetM {a : Expr} {ta : TE} {p p2 q pos : Pos} (hc : X.calm = true) (hg : Gl X "len") (hm : X.mg "len" = none) (hg2 : Gl X "set") (hm2 : X.mg "set" = none) (ha : PE X a ta)
    (na : starEach [a] X.env = (false, eval a X.env) :: starEach [] X.env := by rfl) : PE X (.Call (.Name "len" p) [.Call (.Name "set" p2) [a] [] q] [] pos) (tLenSetM X.K ta) := by
  refine ⟨fun pins s σ H Q I h => ?_⟩
  refine Call_ (ld_blt I hg hm PySem.boot_len ?_)
  refine PyProof.Rows.callWith_builtin1 (PyProof.Rows.args_cons ?_ rfl) rfl rfl
  refine Call_ (ld_blt I hg2 hm2 PyProof.Rows.boot_set ?_)
  refine PyProof.Rows.callWith_type1 (PyProof.Rows.args_cons (thn (ha.run pins s σ H _ I h) fun v s1 ⟨x, H1, I1, r1, q1⟩ => PyProof.Rows.args_nil ?_) na) na rfl
  obtain ⟨l, ns, rfl, hq, h1, q1⟩ := q1
  cases r1
  obtain ⟨its, r, pl, hz⟩ := I1.list hq
  have hl : its.toArray.size = ns.length := by rw [List.size_toArray, ← r.length, List.length_map]
  refine call_set_list (I1.ok.hd hc) pl.isList (ns := ns) (by simpa using r.ints) (by unfold scanBound; omega) fun h' tk hS hk => ?_
  rw [hl, firstMet_len] at hS
  refine PyProof.Rows.args_nil ?_
  obtain ⟨o, es, ep, t, ho, hex, hd, _, _, _, hf, hn⟩ := hS
  have I2 : Inv X pins σ H1 { s1 with heap := h', toks := tk } := I1.kept fun b o e => hk b o (Heap.lt_size e) e
  have hb : (uniI ns).length ≤ ns.length := by rw [← firstMet_len]; exact firstMet_length_le _ _
  refine call_len_set ho hex hd hf (by rw [hn] <;> omega) ⟨.int (uniI ns).length, H1, I2.tok _, ⟨_, by rw [hn]⟩, q1⟩
theorem se_lenSetL {p p2 pos q : Pos} (hc : X.calm = true) (hg : Gl X "len") (hm : X.mg "len" = none) (hg2 : Gl X "set") (hm2 : X.mg "set" = none) (ha : PE X a (rdE X.kw Ξ fa))
    (he : starEach [a] X.env = (false, eval a X.env) :: starEach [] X.env := by rfl) :
    PE X (.Call (.Name "len" p) [.Call (.Name "set" p2) [a] [] q] [] pos) (rdE X.kw Ξ (e1 oLenSetL fa)) :=
  PE_imp (pe_lenSetM hc hg hm hg2 hm2 ha he) fun σ H Q ⟨g, s, m, em, sr, q⟩ => by
    refine ⟨g, s, m, em, sr, QR.bind q fun z hz q1 g1 H1 V x1 e1 r1 => ?_⟩
    have q2 : QE X.kw Ξ g1 H1 Q (oLenSetL z.1 z.2) := QE.later x1 q1
    unfold oLenSetL at q2
    split at q2
    · rename_i ys hy
      split at q2
      · rename_i is hi
        split at q2
        · rename_i hl
          obtain ⟨p, vs, rfl, h1, h2⟩ := e1.look r1 hy
          cases intsOf_rel hi h2
          exact ⟨p, is, rfl, SqL.of h1, hl, QE.ret e1 (.int _) q2⟩
        · exact q2.elim
      · exact q2.elim
    · exact q2.elim
end
end TT
end

section
set_option Elab.async false
set_option linter.all false
set_option autoImplicit false
set_option maxRecDepth 100000
/-! TT: methods of instances with *args, and with keyword-only arguments left out -/
namespace TT
open PySem PySem.Spec PyProof.Rows L2
/-- o.m(args), a method def m(self, *args) -/
def eMethS (c k : List Nat) (F : ON) (o : SE) (a : SA) : SE := fun s m => (o s m).bind fun (x, m1) => match x with
  | .ref n => (match m1[n]? with
    | some (.ins c' fs) => if c' = c ∧ fLook fs k = none then (a s m1).bind fun (xs, m2) => F [.ref n, .tup xs] m2 else .no
    | _ => .no)
  | _ => .no
/-- o.m(), its keyword-only arguments left out -/
def eMethD (c k : List Nat) (F : ON) (ds : List PV) (o : SE) : SE := fun s m => (o s m).bind fun (x, m1) => match x with
  | .ref n => (match m1[n]? with
    | some (.ins c' fs) => if c' = c ∧ fLook fs k = none then F (.ref n :: ds) m1 else .no
    | _ => .no)
  | _ => .no
/-- a method with *args of the class -/
def HasMS (P : Program) (w : World) (K : KW) (mg : Str → Option Value) (base : Heap) (CX : CXT) (c : List Nat) (k : Str) (l : Nat) (sp : Sp) : Prop :=
  ∃ C f, K.mg ⟨c.toArray⟩ = some (.ref C) ∧ L2.Cls K.K C ∧ L2.Meth K.K C k f ∧ FnR P w K mg base CX l f (fun vs H Q E => ∃ ws rest, vs = ws ++ rest ∧ ws.length = 1 ∧ rest.length ≤ sizeLine ∧ ∀ p, H p = Option.none → sp (ws ++ [V.ref p]) (upd H p (.tup rest)) Q E)
/-- a method whose other arguments have defaults -/
def HasMD (P : Program) (w : World) (K : KW) (mg : Str → Option Value) (base : Heap) (CX : CXT) (c : List Nat) (k : Str) (l : Nat) (ds : List PV) (sp : Sp) : Prop :=
  ∃ C f fd ps us ws, K.mg ⟨c.toArray⟩ = some (.ref C) ∧ L2.Cls K.K C ∧ L2.Meth K.K C k f ∧ FnOk P w K mg base CX l f fd ps sp ∧ Binds K fd ps us ∧ Vals ws us ∧ ∀ g H, Rps K g H ds ws
section
variable {K : KW} {P : Program} {w : World} {mg : Str → Option Value} {base : Heap}
/-- THE RULE for a def with *args, by its body's function -/
theorem defS {x qual : Str} {st : Stmt} {f : Addr} {fd : FuncData} {N : List Str} {p1 pv : Str} {k : Nat} {b : SS} (F : Fun K x qual st f fd) (S : FnScope N ([p1] ++ [pv]) (defScope st)) (hN : 2 ≤ N.length)
    (h0 : ∀ (kV doc pm : Value) (an : Option Addr) (cdv ct a : Value), bindArgs (PySem.W.fnOf x qual (defArgs st) (defBody st) (defScope st) .none kV doc pm an cdv ct) ⟨[a], []⟩ = (newTuple [] >>= fun t => pure [(p1, a), (pv, t)]))
    (h1 : ∀ (kV doc pm : Value) (an : Option Addr) (cdv ct a r : Value) (rs : List Value), bindArgs (PySem.W.fnOf x qual (defArgs st) (defBody st) (defScope st) .none kV doc pm an cdv ct) ⟨a :: r :: rs, []⟩ = (newTuple (r :: rs) >>= fun t => pure [(p1, a), (pv, t)]))
    (hbody : ∀ (cdv : Value) (A : Around) (outer : List Env) (s : Shared) (H : Hp) (E : XK), Room k (A.deeper (envOfC qual (defScope st) s.heap.objs.size f cdv)) →
      PSs (cxOf CX0 P w K mg base N qual (defScope st) f cdv A outer s H E).nox (defBody st) (rdS K X0 b)) :
    FnR P w K mg base CX0 (k + 1) f (fun vs H Q E => ∃ ws rest, vs = ws ++ rest ∧ ws.length = 1 ∧ rest.length ≤ sizeLine ∧ ∀ p, H p = Option.none → spI K 2 (bodyI N.length 2 b) (ws ++ [V.ref p]) (upd H p (.tup rest)) Q E) := by
  obtain ⟨oc, od, kV, doc, pm, an, cdv, ct, osl, rfl, lk, hcd⟩ := F.ex
  refine StX.fn_star (ps := [p1]) lk hcd S StX.cxUp_none (StX.bind_star1 (B := fun xs => bindArgs (PySem.W.fnOf x qual (defArgs st) (defBody st) (defScope st) .none kV doc pm an cdv ct) ⟨xs, []⟩) (h0 kV doc pm an cdv ct) (h1 kV doc pm an cdv ct)) fun A outer s H vs Q E hr hsp => ?_
  obtain ⟨g, m, as, hl, em, r, q⟩ := hsp
  exact ⟨_, (hbody cdv A outer s H E hr).nox, body_rd em r (by rw [hl]; exact hN) (by rw [hl]; exact q)⟩
end
section
variable {X : Cx} {Ξ : XC} {o e : Expr} {es : List Expr} {pos apos : Pos} {fo : SE} {fs : SA}
/-- a call of what binds by relation -/
theorem run_R {CX : CXT} {k : Nat} {f : Addr} {sp : Sp} {pins : List (Addr × Obj)} {σ : L2.St} {H : Hp} {s : Shared} {Q : VK} {E : XK} {us : List Value} {vs : List V} (F : FnR X.prog X.w X.K X.mg X.base CX k f sp) (hr : Room k X.A) (hx : Passes CX X E)
    (I : Inv X pins σ H s) (r : Vals vs us) (h : sp vs H Q E) : wpAny (model X.prog X.w) X.A (call (.ref f) us) (EP X pins σ Q) X.xe s := by
  refine wpAny_call (codeAny_mono (F X.A X.stack s H us vs Q E hr I.env0 r h) fun r s' hq => ?_)
  cases r with
  | error e => exact hx pins σ H s e s' I hq
  | ok fl =>
    cases fl with
    | ret u => exact I.after hq
    | next => exact False.elim hq
    | brk => exact False.elim hq
    | cont => exact False.elim hq
/-- o.m(args), by relation -/
theorem pe_methR {CX : CXT} {k : Nat} {C f : Addr} {m : Str} {sp : Sp} {E : XK} {ta : TE} {t : TA} {pl : Sem Bool} (he : PE X o ta) (c : Cls X.K C) (hm : Meth X.K C m f) (F : FnR X.prog X.w X.K X.mg X.base CX k f sp) (hr : Room k X.A) (hx : Passes CX X E) (ha : PA X (e :: es) t)
    (hst : starEach (e :: es) X.env = (false, eval e X.env) :: starEach es X.env := by rfl) (hpl : (backTo pos (starEach es X.env)).any (·.1) = false := by rfl)
    (ht : eval (.Call (.Attribute o m apos) (e :: es) [] pos) X.env = (do
      let ov ← eval o X.env
      standAt apos.atName
      let (f, first) ← holding [ov] (getMethod ov m pl)
      callWith pos f first (backTo pos (starEach (e :: es) X.env)) (backToKw pos (keywordEach [] X.env))) := by rfl) :
    PE X (.Call (.Attribute o m apos) (e :: es) [] pos) (tMeth C m sp [] E ta t) := by
  refine ⟨fun pins s σ H Q I h => ?_⟩
  refine PySem.W.methodCall_KW (pl := pl) (thn (he.run pins s σ H _ I h) fun u s1 ⟨x, H1, I1, rx, a, dx, fs, ex, ea, l, q⟩ => ?_) ht
  subst ex
  obtain rfl : u = Value.ref a := rx
  refine getmeth_ok I1 ea c hm l ?_
  refine PySem.W.callWith_K (first := [.ref a]) (h₀ := X.base) I.ok.mod.kin hm.kp (thn (ha.run pos pins s1 σ H1 _ I1 q) fun us s2 ⟨vs, H2, I2, r, q2⟩ => ⟨I2.kIn, ?_⟩) hst hpl
  have q2 : sp (V.ref a :: (vs ++ [])) H2 Q E := q2
  rw [List.append_nil] at q2
  exact run_R (us := .ref a :: us) (vs := .ref a :: vs) F hr hx I2 (.cons rfl r) q2
/-- o.m(args), a method with *args -/
theorem se_omethS {l : Nat} {F : IF} {c kl : List Nat} {k : Str} {pl : Sem Bool} (h : HasMS X.prog X.w X.kw X.mg X.base CX0 c k l (spI X.kw 2 F)) (hr : Room l X.A) (ho : PE X o (rdE X.kw Ξ fo)) (ha : PA X (e :: es) (rdA X.kw Ξ fs)) (hl : ∀ s m xs m', fs s m = .ok (xs, m') → xs.length = (e :: es).length) (hn : (e :: es).length ≤ 1000 := by decide)
    (hk : k = ⟨kl.toArray⟩ := by rfl) (hst : starEach (e :: es) X.env = (false, eval e X.env) :: starEach es X.env := by rfl) (hpl : (backTo pos (starEach es X.env)).any (·.1) = false := by rfl)
    (ht : eval (.Call (.Attribute o k apos) (e :: es) [] pos) X.env = (do
      let ov ← eval o X.env
      standAt apos.atName
      let (f, first) ← holding [ov] (getMethod ov k pl)
      callWith pos f first (backTo pos (starEach (e :: es) X.env)) (backToKw pos (keywordEach [] X.env))) := by rfl) :
    PE X (.Call (.Attribute o k apos) (e :: es) [] pos) (rdE X.kw Ξ (eMethS c kl (cI F) fo fs)) := by
  obtain ⟨C, f, hC, hcl, M, G⟩ := h
  refine PE_imp (pe_methR (pl := pl) ho hcl M G hr pass0 ha hst hpl ht) fun σ H Q ⟨g, s, m, em, sr, q⟩ => ?_
  refine ⟨g, s, m, em, sr, QR.bind q fun p hp q1 g1 H1 V x1 e1 r1 => ?_⟩
  obtain ⟨v, m1⟩ := p
  cases v with
  | ref j =>
    obtain ⟨a, rfl, ha⟩ := r1.ref_inv
    have q2 := QE.later x1 q1
    simp only at q2
    split at q2
    · rename_i c' xs hm
      split at q2
      · rename_i hcc
        obtain ⟨rfl, hlk⟩ := hcc
        obtain ⟨a2, C', dx, vs, h1, h2, h3, h4⟩ := e1.obj _ _ hm
        rw [ha] at h1; cases h1
        rw [hC] at h2; cases h2
        refine ⟨a, dx, vs, rfl, h3, by rw [hk]; exact h4.lookN hlk, g1, s, m1, e1, sr.ext em x1, QR.bind q2 fun p2 hp2 q3 g2 H2 W x2 e2 r2 => ?_⟩
        show ∃ ws rest, (V.ref a :: (W ++ [])) = ws ++ rest ∧ _
        refine ⟨[.ref a], W, by simp, rfl, rps_small r2 1000 (by rw [hl s m1 p2.1 p2.2 hp2]; exact hn) (by rw [sizeLine_eq]; decide), fun p hp => ?_⟩
        obtain ⟨x3, e3, r3⟩ := e2.new_tup hp r2
        refine ⟨g2, p2.2, [.ref j, .tup p2.1], rfl, e3, .cons (.ref (x3.phi _ _ (x2.phi _ _ ha))) (.cons r3 .nil), cI_X0 (Ξ := Ξ) ?_⟩
        exact QE.later x3 (QE.later x2 q3)
      · exact q2.elim
    · exact q2.elim
  | _ => exact q1.elim
/-- o.m(), what is left out has defaults -/
theorem se_omethD {l : Nat} {F : IF} {c kl : List Nat} {k : Str} {ds : List PV} {n : Nat} {pl : Sem Bool} (h : HasMD X.prog X.w X.kw X.mg X.base CX0 c k l ds (spI X.kw n F)) (hr : Room l X.A) (ho : PE X o (rdE X.kw Ξ fo)) (hn : ds.length + 1 = n := by rfl)
    (hk : k = ⟨kl.toArray⟩ := by rfl)
    (ht : eval (.Call (.Attribute o k apos) [] [] pos) X.env = (do
      let ov ← eval o X.env
      standAt apos.atName
      let (f, first) ← holding [ov] (getMethod ov k pl)
      callWith pos f first (backTo pos (starEach [] X.env)) (backToKw pos (keywordEach [] X.env))) := by rfl) :
    PE X (.Call (.Attribute o k apos) [] [] pos) (rdE X.kw Ξ (eMethD c kl (cI F) ds fo)) := by
  obtain ⟨C, f, fd, ps, us, ws, hC, hcl, M, G, hb, hv, hd⟩ := h
  refine PE_imp (pe_meth0 (pl := pl) ho hcl M G hr hb hv pass0 ht) fun σ H Q ⟨g, s, m, em, sr, q⟩ => ?_
  refine ⟨g, s, m, em, sr, QR.bind q fun p hp q1 g1 H1 V x1 e1 r1 => ?_⟩
  obtain ⟨v, m1⟩ := p
  cases v with
  | ref j =>
    obtain ⟨a, rfl, ha⟩ := r1.ref_inv
    have q2 := QE.later x1 q1
    simp only at q2
    split at q2
    · rename_i c' xs hm
      split at q2
      · rename_i hcc
        obtain ⟨rfl, hlk⟩ := hcc
        obtain ⟨a2, C', dx, vs, h1, h2, h3, h4⟩ := e1.obj _ _ hm
        rw [ha] at h1; cases h1
        rw [hC] at h2; cases h2
        refine ⟨a, dx, vs, rfl, h3, by rw [hk]; exact h4.lookN hlk, ?_⟩
        exact ⟨g1, m1, .ref j :: ds, by rw [List.length_cons]; exact hn, e1, .cons (.ref ha) (hd _ _), cI_X0 q2⟩
      · exact q2.elim
    · exact q2.elim
  | _ => exact q1.elim
end
end TT
end

section
set_option Elab.async false
set_option linter.all false
set_option autoImplicit false
set_option maxRecDepth 100000
/-! TT: t.index(x), xs.index(x): items of any form -/
namespace TT
open PySem PySem.Spec PyProof.Rows L2
mutual
def PV.sok : PV → Bool
  | .str l => l.all fun c => decide (c < 1114112)
  | .tup xs => PV.soks xs
  | .vl xs => PV.soks xs
  | _ => true
def PV.soks : List PV → Bool
  | [] => true
  | x :: xs => PV.sok x && PV.soks xs
end
/-- t.index(x), t a tuple, x there -/
def mIndexT (o : PV) (as : List PV) (m : Mm) : Rs (PV × Mm) := match look1 m o, as with
  | .tup xs, [v] => if (xs.all (PV.sh DEP) && v.sh DEP) && (PV.soks xs && v.sok) then (match idx (fun y => PV.eqv y v) xs 0 with
    | some i => .ok (.int i, m)
    | none => .no) else .no
  | _, _ => .no
/-- xs.index(x), xs a list, x there -/
def mIndexL (o : PV) (as : List PV) (m : Mm) : Rs (PV × Mm) := match look1 m o, as with
  | .vl xs, [v] => if (xs.all (PV.sh DEP) && v.sh DEP) && (PV.soks xs && v.sok) then (match idx (fun y => PV.eqv y v) xs 0 with
    | some i => .ok (.int i, m)
    | none => .no) else .no
  | _, _ => .no
theorem idx_spec (p : PV → Bool) : ∀ (xs : List PV) (i j : Nat), idx p xs i = some j → ∃ k z, j = i + k ∧ xs[k]? = some z ∧ p z = true ∧ ∀ m z', m < k → xs[m]? = some z' → p z' = false
  | [], i, j, h => by cases h
  | x :: r, i, j, h => by
    unfold idx at h
    split at h
    · rename_i hx
      cases h
      exact ⟨0, x, rfl, rfl, hx, fun m z' hm => by omega⟩
    · rename_i hx
      obtain ⟨k, z, h1, h2, h3, h4⟩ := idx_spec p r (i + 1) j h
      refine ⟨k + 1, z, by omega, h2, h3, fun m z' hm hz => ?_⟩
      cases m with
      | zero => cases hz; simpa using hx
      | succ m => exact h4 m z' (by omega) hz
theorem toDs_get : ∀ (xs : List PV) (k : Nat), (toDs xs)[k]? = xs[k]?.map toD
  | [], k => by simp [toDs]
  | x :: xs, 0 => rfl
  | x :: xs, k + 1 => toDs_get xs k
def rIndexDT (K : PySem.W.Frag) : V → List V → Hp → VK → Prop := fun x xs H Q => ∃ (a : Addr) (y : V) (d : PyData) (ds : List PyData) (j : Nat) (z : PyData), x = V.ref a ∧ xs = [y] ∧ Dp K H (V.ref a) (.tuple ds) ∧ Dp K H y d ∧
  PyData.canLayAll0 ds = true ∧ d.canLay0 = true ∧ min (PyData.depthAll ds) d.depth ≤ 62 ∧ ds[j]? = some z ∧ PyData.eqv z d = true ∧ (∀ (m : Nat) (z' : PyData), m < j → ds[m]? = some z' → PyData.eqv z' d = false) ∧ Q (.int (j : Nat)) H
section
variable {X : Cx} {Ξ : XC}
theorem mt_indexDT (hu : X.A.units + 64 < cLine) : MtR X "tuple.index" (rIndexDT X.K) := by
  intro pins s σ H x xs v us Q I rx rxs h
  obtain ⟨a, y, d, ds, j, z, rfl, rfl, hl, hy, hxs, hcd, hdep, hz, hzj, hno, q⟩ := h
  cases rx
  cases rxs with
  | cons ry rt =>
    rename_i uy ut
    cases rt
    obtain ⟨bs, r1⟩ := Dp.reads I d y uy hy ry
    have hroom : X.A.units + 1 + min (PyData.depthAll ds) d.depth < cLine := by omega
    cases hl with
    | tup hs ha =>
      obtain ⟨its, rv, pt, hlen⟩ := I.tuple hs
      obtain ⟨⟨cls, dd, data, sls⟩, ho, hc, n, hdt⟩ := id pt
      simp only at hc hdt
      subst hc hdt
      obtain ⟨as, h4⟩ := Dp.readsAll I ds _ its ha rv
      have hn : its.length = ds.length := SeqAt.ReadsAll.length ds its as h4
      have hmap : its.map (SeqAt.readOf s.heap) = ds := SeqAt.readsAll_map ds its as hxs h4
      obtain ⟨hjd, _⟩ := List.getElem?_eq_some_iff.mp hz
      have hjl : j < its.length := by omega
      have hj : j < its.toArray.size := by simpa using hjl
      have at_ : ∀ (m : Nat) (hm : m < its.toArray.size) (z' : PyData), ds[m]? = some z' → SeqAt.readOf s.heap its.toArray[m] = z' := by
        intro m hm z' hz'
        have hml : m < its.length := by simpa using hm
        rw [← hmap, List.getElem?_map, List.getElem?_eq_getElem hml] at hz'
        have e1 : SeqAt.readOf s.heap its[m] = z' := Option.some.inj (show some (SeqAt.readOf s.heap its[m]) = some z' from hz')
        simpa using e1
      have ea := SeqAt.items_eqAt (vs := its.toArray) (show ReadsAll s.heap its.toArray.toList ds as from h4) r1 hxs hcd hroom
      have ef : ∀ (m : Nat) (hm : m < its.toArray.size), (match its.toArray[m]? with | some u => PyData.eqv (SeqAt.readOf s.heap u) d | none => false) = PyData.eqv (SeqAt.readOf s.heap its.toArray[m]) d := fun m hm => by
        rw [Array.getElem?_eq_getElem hm]
      refine call_meets PySem.F.slot_tuple_index ⟨_, ho, rfl⟩ PySem.F.entry_tuple_index (PySem.F.args_tuple_index_2 _ _)
        (SeqAt.tuple_index2_found a its.toArray n dd sls uy (fun m => match its.toArray[m]? with | some u => PyData.eqv (SeqAt.readOf s.heap u) d | none => false) j hj (Nat.zero_le _) hj ?_ ?_) ⟨ho, fun m hm => ?_, ?_⟩
      · show (match its.toArray[j]? with | some u => PyData.eqv (SeqAt.readOf s.heap u) d | none => false) = true
        rw [ef j hj, at_ j hj z hz]
        exact hzj
      · intro m hm _ hmj
        have hmd : m < ds.length := by omega
        have hz' : ds[m]? = some ds[m] := List.getElem?_eq_getElem hmd
        show (match its.toArray[m]? with | some u => PyData.eqv (SeqAt.readOf s.heap u) d | none => false) = false
        rw [ef m hm, at_ m hm _ hz']
        exact hno m _ hmj hz'
      · show SeqAt.EqAt _ s its.toArray[m] uy (match its.toArray[m]? with | some u => PyData.eqv (SeqAt.readOf s.heap u) d | none => false)
        rw [ef m hm]
        exact ea _ (Array.getElem_mem hm)
      · exact ⟨.int (j : Nat), H, I.tok _, ⟨_, rfl⟩, q⟩
mutual
theorem layD : ∀ a : PV, a.sok = true → (toD a).canLay0 = true
  | .non, _ => rfl
  | .bl _, _ => rfl
  | .int _, _ => rfl
  | .str l, h => by
    show PyData.strOk ⟨l.toArray⟩ = true
    have h : (l.all fun c => decide (c < 1114112)) = true := h
    unfold PyData.strOk
    simpa using h
  | .tup xs, h => by show PyData.canLay0 (.tuple (toDs xs)) = true; unfold PyData.canLay0; exact layDs xs h
  | .vl xs, h => by show PyData.canLay0 (.list (toDs xs)) = true; unfold PyData.canLay0; exact layDs xs h
  | .fz _, _ => rfl
  | .vd _, _ => rfl
  | .ref _, _ => rfl
  | .fn _, _ => rfl
theorem layDs : ∀ xs : List PV, PV.soks xs = true → PyData.canLayAll0 (toDs xs) = true
  | [], _ => rfl
  | x :: xs, h => by
    have h : (PV.sok x && PV.soks xs) = true := h
    rw [Bool.and_eq_true] at h
    show PyData.canLayAll0 (toD x :: toDs xs) = true
    unfold PyData.canLayAll0
    rw [layD x h.1, layDs xs h.2]; rfl
end
theorem idxD {xs : List PV} {v : PV} {i : Nat} (hs : xs.all (PV.sh DEP) = true) (hv : v.sh DEP = true) (h : idx (fun y => PV.eqv y v) xs 0 = some i) : ∃ z, (toDs xs)[i]? = some z ∧ PyData.eqv z (toD v) = true ∧ ∀ (m : Nat) (z' : PyData), m < i → (toDs xs)[m]? = some z' → PyData.eqv z' (toD v) = false := by
  obtain ⟨k, z, h1, h2, h3, h4⟩ := idx_spec _ xs 0 i h
  rw [Nat.zero_add] at h1
  subst h1
  have sh : ∀ {m : Nat} {y : PV}, xs[m]? = some y → y.sh DEP = true := fun hy => List.all_eq_true.mp hs _ (List.mem_of_getElem? hy)
  refine ⟨toD z, by rw [toDs_get, h2]; rfl, by rw [← eqvD z v _ _ (sh h2) hv]; exact h3, fun m z' hm hz => ?_⟩
  rw [toDs_get] at hz
  cases hy : xs[m]? with
  | none => rw [hy] at hz; cases hz
  | some y =>
    rw [hy] at hz
    cases hz
    rw [← eqvD y v _ _ (sh hy) hv]
    exact h4 m y hm hy
theorem mt_tIndexT (hu : X.A.units + 64 < cLine) : MtR X "tuple.index" (rdM X.kw Ξ mIndexT) := by
  refine MtR_imp (mt_indexDT hu) fun x xs H Q ⟨g, m, a, as, e, ra, rs, q⟩ => ?_
  unfold mIndexT at q
  split at q
  · rename_i ys v h1
    split at q
    · rename_i hc
      simp only [Bool.and_eq_true] at hc
      obtain ⟨hc, hk⟩ := hc
      split at q
      · rename_i i hi
        have hb : (look1 m a).sh (DEP + 1) = true := by rw [h1]; simpa only [PV.sh] using hc.1
        have db := ra.dp1 e hb
        rw [h1] at db
        cases rs with
        | cons r1 r2 =>
          cases r2
          have da := r1.dp e _ hc.2
          have ra' := ra
          rw [look1_tup h1] at ra'
          obtain ⟨a1, vs, rfl, _⟩ := ra'.tup_inv
          obtain ⟨z, z1, z2, z3⟩ := idxD hc.1 hc.2 hi
          have h3 : (toD v).depth ≤ 12 := depthD _ _ hc.2
          exact ⟨a1, _, toD v, toDs ys, i, z, rfl, rfl, db, da, layDs ys hk.1, layD v hk.2, by have := Nat.min_le_right (PyData.depthAll (toDs ys)) (toD v).depth; omega, z1, z2, z3, QE.ret e (.int _) q⟩
      · exact q.elim
    · exact q.elim
  · exact q.elim
theorem mt_tIndexL (hu : X.A.units + 64 + 1 < cLine) : MtR X "list.index" (rdM X.kw Ξ mIndexL) := by
  refine MtR_imp (mt_indexD hu) fun x xs H Q ⟨g, m, a, as, e, ra, rs, q⟩ => ?_
  unfold mIndexL at q
  split at q
  · rename_i ys v h1
    split at q
    · rename_i hc
      simp only [Bool.and_eq_true] at hc
      obtain ⟨hc, hk⟩ := hc
      split at q
      · rename_i i hi
        have hb : (look1 m a).sh (DEP + 1) = true := by rw [h1]; simpa only [PV.sh] using hc.1
        have db := ra.dp1 e hb
        rw [h1] at db
        cases rs with
        | cons r1 r2 =>
          cases r2
          have da := r1.dp e _ hc.2
          obtain ⟨a1, vs, rfl, _⟩ := e.look ra h1
          obtain ⟨z, z1, z2, z3⟩ := idxD hc.1 hc.2 hi
          have h3 : (toD v).depth ≤ 12 := depthD _ _ hc.2
          have h4 : (toD (PV.vl ys)).depth ≤ 13 := depthD _ _ (by rw [h1] at hb; exact hb)
          have sl : SeqAt.shaped (toD (PV.vl ys)) = true := by
            unfold SeqAt.shaped
            rw [layD (PV.vl ys) hk.1, decide_eq_true (show (toD (PV.vl ys)).depth ≤ 64 by omega)]; rfl
          have sd : SeqAt.shaped (toD v) = true := by
            unfold SeqAt.shaped
            rw [layD v hk.2, decide_eq_true (show (toD v).depth ≤ 64 by omega)]; rfl
          exact ⟨a1, _, toD v, toDs ys, i, z, rfl, rfl, db, da, sl, sd, z1, z2, z3, QE.ret e (.int _) q⟩
      · exact q.elim
    · exact q.elim
  · exact q.elim
def tupItems : PV → List PV
  | .tup ys => ys
  | _ => []
/-- x names a tuple of the text -/
def HasCT (K : KW) (mg : Str → Option Value) (x : Str) (ys : List PV) : Prop := ∃ a o, mg x = some (.ref a) ∧ K.K.lookup a = some o ∧ o.cls = .type "tuple" ∧ o.dict = none ∧ ∀ g H, Rp K g H (.tup ys) (.ref a)
/-- x.m(args), x a name of a tuple of the text -/
def eMT (f : PV → List PV → Mm → Rs (PV × Mm)) (ys : List PV) (a : SA) : SE := fun s m => (a s m).bind fun (xs, m2) => f (.tup ys) xs m2
theorem se_methT {e : Expr} {es : List Expr} {x : Str} {ys : List PV} {id : String} {name : Str} {npos apos cpos : Pos} {f : PV → List PV → Mm → Rs (PV × Mm)} {fs : SA} (h : HasCT X.kw X.mg x ys) (pa : PlainAttrs "tuple") (slot : Slot "tuple" name id) (hty : typeOf (.builtin id) = pure (.type "method_descriptor")) (hm : MtR X id (rdM X.kw Ξ f)) (ha : PA X (e :: es) (rdA X.kw Ξ fs))
    (hg : Gl X x := by rfl) (hd : (x == ("__debug__" : Str)) = false := by decide)
    (hbase : attributeBase (.Name x npos) name X.env (eval (.Name x npos) X.env) = eval (.Name x npos) X.env := by rfl)
    (hfew : ((backTo cpos (starEach (e :: es) X.env)).all (fun x => !x.1) && (backToKw cpos (keywordEach [] X.env)).all (fun x => x.1.isSome)
      && decide ((e :: es).length + ([] : List Keyword).length + (if ([] : List Keyword).isEmpty then 0 else 1) < 30)) = true := by rfl)
    (hline : (apos.endLine == cpos.line) = true := by rfl) (hs : starEach (e :: es) X.env = (false, eval e X.env) :: starEach es X.env := by rfl) (hplain : (backTo cpos (starEach es X.env)).any (·.1) = false := by rfl) :
    PE X (.Call (.Attribute (.Name x npos) name apos) (e :: es) [] cpos) (rdE X.kw Ξ (eMT f ys fs)) := by
  obtain ⟨a, o, h1, h2, h3, h4, h5⟩ := h
  refine PE_imp (pe_bm pa slot hty hm (pe_glob (v := V.ref a) hg h1 rfl hd) ha hbase hfew hline hs hplain) fun σ H Q ⟨g, s, m, em, sr, q⟩ => ?_
  exact ⟨.inr (.inl ⟨rfl, o, h2, h3, h4⟩), g, s, m, em, sr, QR.bind q fun p2 hp2 q2 g2 H2 W x2 e2 r2 => ⟨g2, p2.2, _, p2.1, e2, h5 _ _, r2, QE.later x2 q2⟩⟩
end
theorem HasCT.mk1 {K : KW} {mg : Str → Option Value} {x : Str} {a : Addr} {us : List Value} {n : Nat} {sl : Array (Option Value)} {xs : List PV} (h : mg x = some (.ref a)) (l : K.K.lookup a = some ⟨.type "tuple", none, .seq us.toArray n, sl⟩) (hs : us.length ≤ 1000) (k : KVs K (KV1 K) xs us) : HasCT K mg x xs :=
  ⟨a, _, h, l, rfl, rfl, ktup_rp (fun x u h => by
    cases h with
    | non => exact ⟨.non, rfl, fun _ _ => .non⟩
    | bl b => exact ⟨.bl b, rfl, fun _ _ => .bl b⟩
    | int i t => exact ⟨.int i, ⟨t, rfl⟩, fun _ _ => .int i⟩
    | str l t => exact ⟨.str _, ⟨t, rfl⟩, fun _ _ => .str l⟩) ⟨_, _, us, n, sl, rfl, l, hs, k⟩⟩
end TT
end

section
set_option Elab.async false
set_option linter.all false
set_option autoImplicit false
set_option maxRecDepth 100000
/-! TT: defs that are reached from the law alone, nothing that is being shown under way: there repr of a list is its text -/
namespace TT
open PySem PySem.Spec PyProof.Rows L2
/-- FnOk where nothing that is being shown is under way -/
structure FnOkG (P : Program) (w : World) (K : PySem.W.Frag) (mg : Str → Option Value) (base : Heap) (k : Nat) (f : Addr) (fd : FuncData) (ps : List Str) (sp : Sp) : Prop where
  arity : ∀ vs H Q E, sp vs H Q E → vs.length = ps.length
  goes : ∀ {A : Around} {outer : List Env} {s : Shared} {H : Hp} {args : Args} {us : List Value} {vs : List V} {Q : VK} {E : XK}, A.guards = some [] → Room k A → Env0 P w K mg base A outer s H → BindsTo s fd args (ps.zip us) → Vals vs us → sp vs H Q E →
    codeAny (model P w) A (.call (.ref f) args) (CR CX0 outer P w H s Q E) s
section
variable {P : Program} {w : World} {K : PySem.W.Frag} {mg : Str → Option Value} {base : Heap} {k : Nat} {f : Addr} {fd : FuncData} {ps : List Str} {sp : Sp}
theorem FnOkG.imp {sp' : Sp} (F : FnOkG P w K mg base k f fd ps sp) (h : ∀ vs H Q E, sp' vs H Q E → sp vs H Q E) : FnOkG P w K mg base k f fd ps sp' where
  arity := fun vs H Q E q => F.arity vs H Q E (h _ _ _ _ q)
  goes := fun hg hr he hb hv hs => F.goes hg hr he hb hv (h _ _ _ _ hs)
/-- a body, run once -/
theorem runG {A : Around} {outer : List Env} {s : Shared} {H : Hp} {args : Args} {us : List Value} {vs : List V} {Q : VK} {E : XK} {name qual : Str} {params : Arguments} {body : List Stmt} {scope : Scope} {dV kV doc pm cdv ct oc : Value} {an od : Option Addr} {osl : Array (Option Value)} {N : List Str} {t : TS}
    (lk : K.lookup f = some ⟨oc, od, .func (PySem.W.fnOf name qual params body scope dV kV doc pm an cdv ct), osl⟩) (hcd : PySem.W.codeIn K cdv qual = true) (S : FnScope N ps scope) (hl : vs.length = ps.length) (hr : Room (k + 1) A) (e0 : Env0 P w K mg base A outer s H)
    (hb : BindsTo s (PySem.W.fnOf name qual params body scope dV kV doc pm an cdv ct) args (ps.zip us)) (rv : Vals vs us) (ht : PSs (cxOf CX0 P w K mg base N qual scope f cdv A outer s H E) body t) (hq : t { nx := fun _ H' => Q .non H', rt := Q } (start N vs) H) :
    codeAny (model P w) A (.call (.ref f) args) (CR CX0 outer P w H s Q E) s := by
  have inK : K.In s.heap := e0.mod.kin.keeps fun b o z => (e0.bs b o z).1
  have kinds : ∀ y ∈ ps.zip us, scope.names.lookup y.1 = some .local ∨ (scope.names.lookup y.1 = some .cell ∧ ((cellsFrom (s.heap.objs.size + 1) scope.names []).lookup y.1).isSome = true) := by
    intro y hy
    cases S.par y.1 (List.of_mem_zip (a := y.1) (b := y.2) hy).1 with
    | inl z => exact .inl z
    | inr z => exact .inr ⟨z, PySem.W.cellsFrom_some _ _ _ (.inl z)⟩
  refine codeAny_call_function hr.depth (inK _ _ lk) rfl S.co S.gen rfl (PySem.W.codeRec_of inK hcd) (hb _ _ _ _ (wpAny_newFunctionEnv_cells S.kind kinds ?_))
  rintro env rfl s1 x
  refine ⟨(e0.mod.nolimit.keeps fun b o z => (e0.bs b o z).1).keeps x.toInCall.keep, codeAny_func (wpAny_mono (ht.run [] s1 (start N vs) H _ (inv_start S hr.hd e0 hl rv x) hq) (fun fl s' hs => ?_) fun e s' hs => hs)⟩
  cases fl with
  | brk => exact hs.choose_spec.choose_spec.2.elim
  | cont => exact hs.choose_spec.choose_spec.2.elim
  | next => exact let ⟨σ', H', J, q⟩ := hs; ⟨V.non, H', J.os, J.bare, J.base, J.hok, rfl, q⟩
  | ret u => exact let ⟨v, σ', H', J, r, q⟩ := hs; ⟨v, H', J.os, J.bare, J.base, J.hok, r, q⟩
end
section
variable {P : Program} {w : World} {K : KW} {mg : Str → Option Value} {base : Heap} {k : Nat}
/-- a def that wants it, by its body -/
def HasG (P : Program) (w : World) (K : KW) (mg : Str → Option Value) (base : Heap) (x : Str) (k : Nat) (sp : Sp) : Prop :=
  ∃ f fd ps, FnOkG P w K mg base k f fd ps sp ∧ mg x = some (.ref f) ∧ PySem.W.keepIn K (.ref f) = true ∧ Binds K fd ps []
theorem has_defG {x : Str} {st : Stmt} {f : Addr} {fd : FuncData} {N ps : List Str} {b : SS} (F : Fun K x x st f fd) (hm : mg x = some (.ref f)) (S : FnScope N ps (defScope st)) (hN : ps.length ≤ N.length)
    (hb : ∀ (kV doc pm : Value) (an : Option Addr) (cdv ct : Value) (us : List Value), us.length = ps.length → bindArgs (PySem.W.fnOf x x (defArgs st) (defBody st) (defScope st) .none kV doc pm an cdv ct) ⟨us, []⟩ = pure (ps.zip us))
    (hbody : ∀ (cdv : Value) (A : Around) (outer : List Env) (s : Shared) (H : Hp) (E : XK), A.guards = some [] → Room k (A.deeper (envOfC x (defScope st) s.heap.objs.size f cdv)) →
      PSs (cxOf CX0 P w K mg base N x (defScope st) f cdv A outer s H E).nox (defBody st) (rdS K X0 b)) : HasG P w K mg base x (k + 1) (spI K ps.length (bodyI N.length ps.length b)) := by
  obtain ⟨oc, od, kV, doc, pm, an, cdv, ct, osl, rfl, lk, hcd⟩ := F.ex
  refine ⟨f, _, ps, ⟨fun _ _ _ _ h => spI_len h, fun {A outer s H args us vs Q E} hg hr e0 hbd rv hs => ?_⟩, hm, F.kp, F.binds hb⟩
  obtain ⟨g, m, as, hl, em, r, q⟩ := hs
  exact runG lk hcd S (spI_len (E := E) ⟨g, m, as, hl, em, r, q⟩) hr e0 hbd rv (hbody cdv A outer s H E hg (hr.deeper _)).nox (body_rd em r (by rw [hl]; exact hN) (by rw [hl]; exact q))
/-- the law that calls such defs -/
theorem law_fnTG {x : Str} {st : Stmt} {f c Pt : Addr} {N : List Str} {p : Str} {kV doc pm ct oc : Value} {an od : Option Addr} {osl : Array (Option Value)} {b : SS} {q : List Nat}
    (lk : K.K.lookup f = some ⟨oc, od, .func (PySem.W.fnOf x x (defArgs st) (defBody st) (defScope st) .none kV doc pm an (.ref c) ct), osl⟩) (hcd : PySem.W.codeIn K (.ref c) x = true) (S : FnScope N [p] (defScope st)) (hN : 1 ≤ N.length)
    (hbody : ∀ (A : Around) (outer : List Env) (s : Shared) (H : Hp) (E : XK), A.guards = some [] → Room k (A.deeper (envOfC x (defScope st) s.heap.objs.size f (.ref c))) →
      PSs (cxOf CX0 P w K mg base N x (defScope st) f (.ref c) A outer s H E).nox (defBody st) (rdS K X0 b))
    (h : ∀ ns : List Int, ns.length ≤ 63 → ∃ m, bodyI N.length 1 b [.fz (ns.map PV.int)] [.tab Pt q] = .ok (.bl true, m)) : FnOkG P w K mg base (k + 1) f (PySem.W.fnOf x x (defArgs st) (defBody st) (defScope st) .none kV doc pm an (.ref c) ct) [p] (spLawT K Pt) := by
  refine ⟨fun vs H Q E z => ?_, fun {A outer s H args us vs Q E} hg hr e0 hbd rv z => ?_⟩
  · obtain ⟨a, ns, rfl, _⟩ := z; rfl
  · obtain ⟨g, m, as, hl, em, r, q⟩ := spLawT_of h z
    refine runG lk hcd S ?_ hr e0 hbd rv (hbody A outer s H E hg (hr.deeper _)).nox (body_rd em r (by rw [hl]; exact hN) (by rw [hl]; exact q))
    obtain ⟨a, ns, rfl, _⟩ := z; rfl
end
section
variable {X : Cx} {Ξ : XC} {k : Nat} {x : Str} {p pos : Pos} {e : Expr} {es : List Expr} {fs : SA}
/-- a call of such a def -/
theorem sh_callG {n : Nat} {F : IF} (h : HasG X.prog X.w X.kw X.mg X.base x k (spI X.kw n F)) (hg : X.A.guards = some []) (hr : Room k X.A) (ha : PA X (e :: es) (rdA X.kw Ξ fs)) (hl : ∀ s m xs m', fs s m = .ok (xs, m') → xs.length = (e :: es).length)
    (hn : (e :: es).length = n := by rfl) (hgl : Gl X x := by rfl) (hdb : (x == ("__debug__" : Str)) = false := by decide) (he : starEach (e :: es) X.env = (false, eval e X.env) :: starEach es X.env := by rfl) (hpl : (backTo pos (starEach es X.env)).any (·.1) = false := by rfl) :
    PE X (.Call (.Name x p) (e :: es) [] pos) (rdE X.kw Ξ (eN (cI F) fs)) := by
  obtain ⟨f, fd, ps, G, hm, hk, hb⟩ := h
  have step : PE X (.Call (.Name x p) (e :: es) [] pos) (tCall (spI X.kw n F) [] E0 (rdA X.kw Ξ fs)) := by
    refine ⟨fun pins s σ H Q I z => wpAny_Call_Name_kw (ld_glob I hgl hm (PySem.W.callWith_K (h₀ := X.base) I.ok.mod.kin hk (thn (ha.run pos pins s σ H _ I z) fun us s1 z1 => ?_) he hpl) hdb)⟩
    obtain ⟨vs, H1, I1, r, q⟩ := z1
    rw [List.append_nil] at q
    have hl2 : (us ++ []).length = ps.length := by rw [List.append_nil, ← r.length]; exact G.arity _ _ _ _ q
    have hb2 := hb s1 us I1.kIn hl2
    rw [List.append_nil] at hb2
    refine ⟨I1.kIn, wpAny_call (codeAny_mono (G.goes hg hr I1.env0 hb2 r q) fun rr s' hq => ?_)⟩
    match rr, hq with
    | .ok (.ret u), hq => exact I1.after hq
  exact PE_imp step fun σ H Q ⟨g, s, m, em, sr, q⟩ => ⟨g, s, m, em, sr, QR.bind q fun p hp q1 g1 H1 V x1 e1 r1 => ⟨g1, p.2, p.1, by rw [hl s m p.1 p.2 hp, hn], e1, by rw [List.append_nil]; exact r1, cI_X0 (QE.later x1 q1)⟩⟩
end
end TT
end

section
set_option Elab.async false
set_option linter.all false
set_option autoImplicit false
set_option maxRecDepth 100000
set_option maxHeartbeats 1000000
/-! TT: the end of a law whose def wants that nothing is being shown -/
namespace TT
open PySem PySem.Spec PyProof.Rows L2
/-- what is tracked when the law is called: its table of code objects; its script, if that is not written -/
def lawHp (K : PySem.W.Frag) (a Pt : Addr) (o : Obj) (zs : List V) : Hp := fun b => if b = Pt then some (.tbl #[]) else if b = a then (if (K.lookup a).isSome = true then none else some (.frz o (.lst zs))) else none
section
variable {K : PySem.W.Frag} {a Pt b : Addr} {o : Obj} {zs : List V}
theorem lawHp_tab : lawHp K a Pt o zs Pt = some (.tbl #[]) := if_pos rfl
theorem lawHp_off (h1 : b ≠ Pt) (h2 : b ≠ a) : lawHp K a Pt o zs b = none := by simp [lawHp, h1, h2]
theorem lawHp_own (h1 : a ≠ Pt) (h : K.lookup a = none) : lawHp K a Pt o zs a = some (.frz o (.lst zs)) := by simp [lawHp, h1, h]
theorem lawHp_kept {u : Obj} (h1 : a ≠ Pt) (h : K.lookup a = some u) : lawHp K a Pt o zs a = none := by simp [lawHp, h1, h]
theorem lawHp_inv {u : HO} (h : lawHp K a Pt o zs b = some u) : (b = Pt ∧ u = .tbl #[]) ∨ (b = a ∧ u = .frz o (.lst zs)) := by
  unfold lawHp at h
  split at h
  · exact .inl ⟨by assumption, (Option.some.inj h).symm⟩
  · split at h
    · split at h
      · cases h
      · exact .inr ⟨by assumption, (Option.some.inj h).symm⟩
    · cases h
end
theorem law_callG {P : Program} {w : World} {K : PySem.W.Frag} {mg mb : Str → Option Value} {k : Nat} {fa a c Pt : Addr} {fd : FuncData} {x : Str} {sp : Sp} {s₁ : Shared} {vs : List Value} {ns : List Int}
    (KX : K.In s₁.heap) (hns : s₁.heap.Ns mainGlobals mg) (hb : s₁.heap.Ns builtinsNs mb) (hbb : ∀ y : Str, y ≠ "__name__" → mb y = bootBuiltins y) (hlim : s₁.heap.NoLimit) (hg : s₁.gens = #[])
    (hT : s₁.heap.get? Pt = some { cls := .none, data := .fields #[] }) (nT : K.lookup Pt = none) (C : PySem.W.CodeHd s₁.heap c Pt)
    (hbm : ∃ (bm : Addr) (ob : Obj), mg "__builtins__" = some (.ref bm) ∧ bm ≠ builtinsNs ∧ s₁.heap.get? bm = some ob ∧ ob.cls = .type "module" ∧ ob.dict = some builtinsNs ∧ ob.data = .plain)
    (ha : s₁.heap.get? a = some { cls := .type "list", data := .seq vs.toArray }) (hi : IntsAre vs ns) (hl : ns.length ≤ sizeLine) (hr : Room k callerA)
    (F : ∀ base : Heap, K.In base → base.Ns mainGlobals mg → LamX.TabB base mg c Pt → FnOkG P w K mg base k fa fd [x] sp) (hbind : ∀ (s : Shared) (u : Value), BindsTo s fd ⟨[u], []⟩ [(x, u)])
    (hsp : ∀ H : Hp, H Pt = some (.tbl #[]) → SqL K H a (ns.map V.int) → sp [.ref a] H (fun v _ => v = .bl true) E0) :
    codeAny (model P w) callerA (.call (.ref fa) ⟨[.ref a], []⟩) (fun r s' => r = .ok (.ret (.bool true)) ∧ OldK s₁.heap s'.heap ∧ s'.os = s₁.os ∧ AllBare s'.gens) s₁ := by
  have rv := vals_ints hi
  have aP : a ≠ Pt := by
    rintro rfl
    rw [hT] at ha
    cases ha
  generalize hH : lawHp K a Pt { cls := .type "list", data := .seq vs.toArray } (ns.map V.int) = H
  -- what is neither the script nor the table is seen
  have vis : ∀ {b : Addr} {o : Obj}, s₁.heap.get? b = some o → o ≠ { cls := .type "list", data := .seq vs.toArray } → o ≠ { cls := .none, data := .fields #[] } → (hidT s₁.heap H).get? b = some o := by
    intro b o e n1 n2
    refine hidT_get e ?_
    rw [← hH]
    refine lawHp_off ?_ ?_
    · rintro rfl
      exact n2 (Option.some.inj (e.symm.trans hT))
    · rintro rfl
      exact n1 (Option.some.inj (e.symm.trans ha))
  have ns_ : ∀ {b : Addr} {m : Str → Option Value}, s₁.heap.Ns b m → (hidT s₁.heap H).Ns b m := by
    rintro b m ⟨o, es, ep, e, d, r⟩
    exact ⟨o, es, ep, vis e (by rintro rfl; cases d) (by rintro rfl; cases d), d, r⟩
  have kin : K.In (hidT s₁.heap H) := by
    intro b o e
    refine hidT_get (KX b o e) ?_
    rw [← hH]
    by_cases h1 : b = Pt
    · rw [h1, nT] at e
      cases e
    · by_cases h2 : b = a
      · rw [h2] at e ⊢
        exact lawHp_kept aP e
      · exact lawHp_off h1 h2
  have tb : LamX.TabB (hidT s₁.heap H) mg c Pt := by
    obtain ⟨o, us, file, tf, flags, tg, inF, text, tt, e1, r1, r2, r3, r⟩ := C
    obtain ⟨bm, ob, b1, b2, b3, b4, b5, b6⟩ := hbm
    obtain ⟨og, es, ep, g1, g2, _⟩ := hns
    refine ⟨⟨o, us, file, tf, flags, tg, inF, text, tt, vis e1 (by rintro rfl; cases r2) (by rintro rfl; cases r1), r1, r2, r3, r⟩, ⟨bm, ob, b1, b2, ?_, ?_, vis b3 (by rintro rfl; cases b6) (by rintro rfl; cases b6), b4, b5, b6⟩, ?_⟩
    · rintro rfl
      rw [g1] at b3
      cases b3
      rw [g2] at b6
      cases b6
    · rintro rfl
      rw [hT] at b3
      cases b3
      cases b4
    · rintro rfl
      rw [hT] at g1
      cases g1
      cases g2
  have ok : HOk P w H s₁.heap := by
    intro b u e
    rw [← hH] at e
    rcases lawHp_inv e with ⟨rfl, rfl⟩ | ⟨rfl, rfl⟩
    · exact hT
    · exact ⟨ha, by rw [List.length_map]; exact hl, vs, _, rv, ha⟩
  have sq : SqL K H a (ns.map V.int) := by
    cases e : K.lookup a with
    | some o =>
      have h1 := KX a o e
      rw [ha] at h1
      cases h1
      exact .inr ⟨_, vs.toArray, _, e, rfl, rfl, rfl, by rw [List.size_toArray, hi.length]; exact hl, by simpa using rv⟩
    | none => exact .inl (.inr ⟨_, by rw [← hH]; exact lawHp_own aP e⟩)
  have tH : H Pt = some (.tbl #[]) := by rw [← hH]; exact lawHp_tab
  have e0 : Env0 P w K mg (hidT s₁.heap H) callerA [] s₁ H :=
    { frames := rfl, mod := ⟨kin, ns_ hns, ⟨mb, ns_ hb, hbb⟩, hlim.elim fun mc h => ⟨mc, ns_ h.1, h.2⟩⟩, bs := fun _ _ e => of_hidT e, bsz := Nat.le_of_eq (hidT_size _ _), funs := trivial, frf := fun b z => absurd (show b ∈ ([] : List Addr) from z) List.not_mem_nil, hok := ok, bare := .of_eq hg }
  refine codeAny_mono ((F _ kin (ns_ hns) tb).goes (A := callerA) (us := [.ref a]) (vs := [.ref a]) rfl hr e0 (hbind s₁ (.ref a)) (.cons rfl .nil) (hsp H tH sq)) fun r s' h => ?_
  match r, h with
  | .ok (.ret u), h =>
    obtain ⟨v, H', os, bare, un, hok', rr, q⟩ := h
    obtain rfl : v = .bl true := q
    obtain rfl : u = .bool true := rr
    have kept : ∀ b o, b ≠ Pt → s₁.heap.get? b = some o → s'.heap.get? b = some o := by
      intro b o hn e
      cases z : H b with
      | none => exact un.keep b o e z (fun y => absurd (show b ∈ ([] : List Addr) from y) List.not_mem_nil) List.not_mem_nil
      | some u =>
        have z' := z
        rw [← hH] at z'
        rcases lawHp_inv z' with ⟨y, _⟩ | ⟨rfl, rfl⟩
        · exact absurd y hn
        · cases ha.symm.trans e
          exact (hok' _ _ (un.frzs _ _ _ z)).1
    obtain ⟨more, z⟩ := un.tbls Pt #[] tH
    have tab' := hok' _ _ z
    rw [Array.empty_append] at tab'
    refine ⟨rfl, ⟨fun b o e => ?_, fun b o e => ?_⟩, os, bare⟩
    · by_cases hn : b = Pt
      · subst hn
        cases hT.symm.trans e
        exact .inr (.inl ⟨(C.tab hT).isCodeTable, rfl, #[], more, rfl, by rw [Array.empty_append]; exact tab'⟩)
      · exact .inl (kept b o hn e)
    · by_cases hn : b = Pt
      · exact hn ▸ ⟨_, tab'⟩
      · exact ⟨o, kept b o hn e⟩
/-- what is wanted of a law -/
def LawG (l : PySem.W.OpenLaw) (w : World) (K : PySem.W.Frag) (k n : Nat) (x : Str) (mg : Str → Option Value) (fa : Addr) (h : Heap) : Prop :=
  ∃ (fd : FuncData) (c Pt : Addr) (sp : Sp), h.get? Pt = some { cls := .none, data := .fields #[] } ∧ K.lookup Pt = none ∧ PySem.W.CodeHd h c Pt ∧ (∀ (s : Shared) (u : Value), BindsTo s fd ⟨[u], []⟩ [(x, u)]) ∧
    (∀ (H : Hp) (a : Addr) (ns : List Int), ns.length ≤ n → H Pt = some (.tbl #[]) → SqL K H a (ns.map V.int) → sp [.ref a] H (fun v _ => v = .bl true) E0) ∧
    ∀ base : Heap, K.In base → base.Ns mainGlobals mg → LamX.TabB base mg c Pt → FnOkG l.prog w K mg base k fa fd [x] sp
theorem walkG {l : PySem.W.OpenLaw} {n k : Nat} {q : Program} {loose : List Str} {XP : (Str → Option Value) → Heap → Prop} {YP : World → Heap → Prop} {d : DefRec} {K : Params → PySem.W.Frag} {x : Str}
    (hn : l.most = some n) (hn2 : n ≤ sizeLine) (hdf : d.params.defaults = []) (hr : Room k callerA) (hrec : ((recsOf q).any fun e => e.name == d.name) = true) (hY : ∀ (w : World) (h : Heap), YP w h → (K w.params).In h)
    (F : ∀ (w : World) (mg : Str → Option Value) (fa : Addr) (h : Heap), YP w h → (K w.params).In h → h.Ns mainGlobals mg → mg d.name = some (.ref fa) → LamX.OwnTab (K w.params) fa h → LawG l w (K w.params) k n x mg fa h) :
    PySem.W.WalkO q loose XP YP l.row.toRowW d [] (fun f vs => PySem.call f vs) := by
  refine Att.attach_callB hn hdf ?_
  intro w s₀ s₁ mg mb fa o pm cd doc a vs ns G Y ho hd hcd hmg hobj hints hlen hbits hg
  have own : LamX.OwnTab (K w.params) fa s₁.heap := by
    intro c Pt o1 fd1 e dd vs1 sl k1 k2 k3 k4 k5
    obtain ⟨dl, hm, he⟩ := List.any_eq_true.mp hrec
    obtain ⟨a', o', fd', c', P', h1, h2, h3, h4, _, h6⟩ := G.T.tab dl hm
    rw [show dl.name = d.name from beq_iff_eq.mp he] at h1
    cases hmg.symm.trans h1
    cases (hY w _ Y _ _ k1).symm.trans h2
    cases k2.symm.trans h3
    cases k3.symm.trans h4
    obtain ⟨⟨oc, vc, e1, _, e3, e4⟩, hP⟩ := h6
    cases (hY w _ Y _ _ k4).symm.trans e1
    cases e3
    cases k5.symm.trans e4
    exact hP
  obtain ⟨fd, c, Pt, sp, hT, nT, C, hb, hsp, hF⟩ := F w mg fa _ Y (hY w _ Y) G.T.g hmg own
  exact law_callG (hY w _ Y) G.T.g G.T.b G.T.builtins G.T.nolimit hg hT nT C G.T.bmain hobj hints (Nat.le_trans hlen hn2) hr hF hb fun H h1 h2 => hsp H a ns hlen h1 h2
end TT
end

section
set_option Elab.async false
set_option linter.all false
set_option autoImplicit false
set_option maxRecDepth 100000
/-! TT: repr of a list of plain items -/
namespace TT
open PySem PySem.Spec PyProof.Rows L2
/-- a plain item as data -/
def dOf : PV → Option PyData
  | .non => some .none
  | .bl b => some (.bool b)
  | .int i => some (.int i)
  | .str l => some (.str ⟨l.toArray⟩)
  | _ => none
def dOfs : List PV → Option (List PyData)
  | [] => some []
  | x :: xs => (dOf x).bind fun d => (dOfs xs).map fun ds => d :: ds
/-- repr(xs), xs a list of plain items -/
def fReprL : ON := fun xs m => match xs with
  | [v] => (match look1 m v with
    | .vl ys => (match dOfs ys with
      | some ds => if ((PyData.list ds).showable && (PyData.list ds).leavesShort 13 && decide ((PyData.list ds).weight ≤ 1048576)) = true then .ok (.str (PyData.list ds).shown.cps.toList, m) else .no
      | none => .no)
    | _ => .no)
  | _ => .no
section
variable {K : KW} {g : Gh} {H : Hp}
theorem dOf_reads {h : Heap} {x : PV} {d : PyData} {v : V} {u : Value} (e : dOf x = some d) (r : Rp K g H x v) (rv : RelV v u) : Reads h u d [] ∧ d.hasDict = false := by
  unfold dOf at e
  split at e
  · cases e; cases r; cases rv; exact ⟨.none, rfl⟩
  · cases e; cases r; cases rv; exact ⟨.bool _, rfl⟩
  · cases e; cases r; obtain ⟨t, rfl⟩ := rv; exact ⟨.int _ _, rfl⟩
  · cases e; cases r; obtain ⟨t, rfl⟩ := rv; exact ⟨.str _ _, rfl⟩
  · cases e
theorem dOfs_reads {h : Heap} : ∀ {xs : List PV} {ds : List PyData} {vs : List V} {us : List Value}, dOfs xs = some ds → Rps K g H xs vs → Vals vs us → ReadsAll h us ds [] ∧ (PyData.list ds).hasDict = false
  | [], ds, vs, us, e, r, rv => by
    cases e; cases r; cases rv; exact ⟨.nil, rfl⟩
  | x :: xs, ds, vs, us, e, r, rv => by
    cases r with
    | cons r1 r2 =>
      cases rv with
      | cons v1 v2 =>
        unfold dOfs at e
        cases h1 : dOf x with
        | none => rw [h1] at e; cases e
        | some d =>
          cases h2 : dOfs xs with
          | none => rw [h1, h2] at e; cases e
          | some ds' =>
            rw [h1, h2] at e
            cases e
            obtain ⟨a1, b1⟩ := dOf_reads (h := h) h1 r1 v1
            obtain ⟨a2, b2⟩ := dOfs_reads (h := h) h2 r2 v2
            refine ⟨.cons (as := []) (bs := []) a1 a2, ?_⟩
            show (d.hasDict || PyData.hasDictAll ds') = false
            rw [b1, show PyData.hasDictAll ds' = false from b2]; rfl
end
section
variable {X : Cx} {Ξ : XC} {k : Nat}
theorem str_eta (z : Str) : (⟨z.cps.toList.toArray⟩ : Str) = z := by cases z; simp
theorem call_tReprL (hg : X.A.guards = some []) (hr : Room k X.A) : CallR X (.builtin "repr") (rdN X.kw Ξ fReprL) := by
  intro pins s σ H xs us Q I r ⟨g, m, as, e, ra, q⟩
  unfold fReprL at q
  split at q
  · rename_i v
    split at q
    · rename_i ys hy
      split at q
      · rename_i ds hds
        split at q
        · rename_i hc
          simp only [Bool.and_eq_true, decide_eq_true_eq] at hc
          obtain ⟨⟨c1, c2⟩, c3⟩ := hc
          cases ra with
          | cons r1 r2 =>
            cases r2
            obtain ⟨p, vs, rfl, h1, h2⟩ := e.look r1 hy
            obtain ⟨u, rfl, rx⟩ := vals1 r
            cases rx
            obtain ⟨its, rv, pl, hz⟩ := I.list (SqL.of h1)
            obtain ⟨ob, o1, o2, n, o3⟩ := pl.isList
            obtain ⟨d1, d2⟩ := dOfs_reads (h := s.heap) hds h2 rv
            have dp : (PyData.list ds).depth ≤ 1 := by
              have : ∀ {xs : List PV} {ds : List PyData}, dOfs xs = some ds → PyData.depthAll ds = 0 := by
                intro xs
                induction xs with
                | nil => intro ds e; cases e; rfl
                | cons x xs ih =>
                  intro ds e
                  unfold dOfs at e
                  cases h1 : dOf x with
                  | none => rw [h1] at e; cases e
                  | some d =>
                    cases h2 : dOfs xs with
                    | none => rw [h1, h2] at e; cases e
                    | some ds' =>
                      rw [h1, h2] at e
                      cases e
                      have i := ih h2
                      have : d.depth = 0 := by
                        unfold dOf at h1
                        split at h1 <;> first | cases h1; rfl | cases h1
                      simp [PyData.depthAll, i, this]
              have := this hds
              simp [PyData.depth, this]
            have hu := hr.units
            refine repr_of_reads' (.list o1 o2 o3 d1) c1 (fun z => by rw [d2] at z; cases z) hg (by omega) (fun _ _ z => z) (fun h' u tk hk => ?_) (PyData.shown_fits (B := 13) (by decide) (by decide) c2 c3)
            have I2 : Inv X pins σ H { s with heap := h', toks := tk } := I.kept hk
            refine ⟨.str _, H, I2, ⟨u, rfl⟩, ?_⟩
            have := QE.ret e (.str (PyData.list ds).shown.cps.toList) q
            rw [str_eta] at this
            exact this
        · exact q.elim
      · exact q.elim
    · exact q.elim
  · exact q.elim
end
end TT
end

section
set_option Elab.async false
set_option linter.all false
set_option autoImplicit false
set_option maxRecDepth 100000
/-! TT: defs that may raise, with arguments by keyword -/
namespace TT
open PySem PySem.Spec PyProof.Rows L2
/-- where it does not raise it is a def by values -/
theorem fn_xToP {P : Program} {w : World} {K : KW} {mg : Str → Option Value} {base : Heap} {k n : Nat} {f : Addr} {fd : FuncData} {ps : List Str} {F : PF} (G : FnOk P w K mg base (L2N.CX P w) k f fd ps (spX K mg n F)) (hn : n = ps.length) : FnOk P w K mg base CX0 k f fd ps (spP K n F) := by
  refine ⟨fun vs H Q E ⟨g, m, as, hl, em, r, q⟩ => ?_, fun A outer s H args us vs Q E hr e0 hb rv ⟨g, m, as, hl, em, r, q⟩ => ?_⟩
  · rw [← r.length, hl, hn]
  · refine codeAny_mono (G.run A outer s H args us vs Q E0 hr e0 hb rv ⟨g, m, as, hl, em, r, cP_cX q⟩) fun rr s' h => ?_
    match rr, h with
    | .ok (.ret u), h => exact h
    | .error e, h =>
      obtain ⟨_, _, _, _, _, _, _, _, _, _, _, _, z⟩ := h
      exact z.elim
def HasXD (P : Program) (w : World) (K : KW) (mg : Str → Option Value) (base : Heap) (x : Str) (k : Nat) (ds : List PV) (sp : Sp) : Prop := ∃ a, CalV P w K mg base x a k ds sp
section
variable {X : Cx} {k : Nat} {x : Str} {p pos : Pos} {e : Expr} {es : List Expr} {fs : SA}
theorem sh_callXD {ds : List PV} {F : PF} {E : XK} (N : Nat) (h : HasXD X.prog X.w X.kw X.mg X.base x k ds (spX X.kw X.mg N F)) (hr : Room k X.A) (tk : L2N.Takes X (fun cls d _ H => E cls d H)) (ha : PA X (e :: es) (rdA X.kw (XofE X.kw X.mg E) fs)) (hl : ∀ s m xs m', fs s m = .ok (xs, m') → xs.length = (e :: es).length)
    (hN : (e :: es).length + ds.length = N := by rfl) (hg : Gl X x := by rfl) (hdb : (x == ("__debug__" : Str)) = false := by decide) (he : starEach (e :: es) X.env = (false, eval e X.env) :: starEach es X.env := by rfl) (hpl : (backTo pos (starEach es X.env)).any (·.1) = false := by rfl) :
    PE X (.Call (.Name x p) (e :: es) [] pos) (rdE X.kw (XofE X.kw X.mg E) (eND (cX F) fs ds)) := by
  obtain ⟨f, fd, ps, us, zs, G, hm, hk, hb, hv, hz⟩ := h
  refine PE_imp (pe_call (E := E) G hr hg hm hk hb hv (fun pins σ H s e s' I z => L2N.passAt tk σ pins H s e s' I z) ha hdb he hpl) fun σ H Q ⟨g, s, m, em, sr, q⟩ => ?_
  refine ⟨g, s, m, em, sr, QR.bind q fun p hp q1 g1 H1 V x1 e1 r1 => ?_⟩
  exact ⟨g1, p.2, p.1 ++ ds, by rw [List.length_append, hl _ _ _ _ hp, hN], e1, r1.append (hz _ _), QE.later x1 q1⟩
end
end TT
end

section
set_option linter.all false
set_option autoImplicit false
namespace TT
/-! dicts with tuple keys, typed: a list of pairs of a node and a value -/
section
variable {α β : Type} [DecidableEq α]
/-- what keys must do -/
structure KEq (key : α → PV) : Prop where
  eq : ∀ a b, PV.eqv (key a) (key b) = decide (a = b)
  tup : ∀ a, isTup (key a) = true
  ky : ∀ a, (key a).ky 8 = true
  pu : ∀ a, (key a).pu = true
def aget : List (α × β) → α → Option β
  | [], _ => none
  | p :: D, a => if p.1 = a then some p.2 else aget D a
def aput : List (α × β) → α → β → List (α × β)
  | [], a, b => [(a, b)]
  | p :: D, a, b => if p.1 = a then (a, b) :: D else p :: aput D a b
def encA (key : α → PV) (val : β → PV) (D : List (α × β)) : List (PV × PV) := D.map fun p => (key p.1, val p.2)
variable {key : α → PV} {val : β → PV}
theorem aget_put (D : List (α × β)) (a : α) (b : β) (x : α) : aget (aput D a b) x = if x = a then some b else aget D x := by
  induction D with
  | nil =>
    by_cases h : x = a
    · subst h; simp [aput, aget]
    · have : ¬ a = x := fun z => h z.symm
      simp [aput, aget, h, this]
  | cons p D ih =>
    unfold aput
    by_cases hp : p.1 = a
    · rw [if_pos hp]
      by_cases h : x = a
      · subst h; simp [aget]
      · have h1 : ¬ a = x := fun z => h z.symm
        have h2 : ¬ p.1 = x := fun z => h1 (hp ▸ z)
        simp [aget, h, h1, h2]
    · rw [if_neg hp]
      by_cases h : p.1 = x
      · have : ¬ x = a := fun z => hp (h.trans z)
        simp [aget, h, this]
      · simp only [aget, if_neg h, ih]
theorem aget_some_iff {D : List (α × β)} {a : α} : (aget D a).isSome = true ↔ a ∈ D.map (·.1) := by
  induction D with
  | nil => simp [aget]
  | cons p D ih =>
    unfold aget
    by_cases h : p.1 = a
    · simp [h]
    · rw [if_neg h, ih]
      simp only [List.map_cons, List.mem_cons]
      exact ⟨fun z => .inr z, fun z => z.resolve_left fun e => h e.symm⟩
theorem aget_mem {D : List (α × β)} {a : α} {b : β} (h : aget D a = some b) : (a, b) ∈ D := by
  induction D with
  | nil => cases h
  | cons p D ih =>
    unfold aget at h
    by_cases hp : p.1 = a
    · rw [if_pos hp] at h; cases h; rw [← hp]; exact List.mem_cons_self
    · rw [if_neg hp] at h; exact List.mem_cons_of_mem _ (ih h)
theorem aget_of_mem {D : List (α × β)} (nd : (D.map (·.1)).Nodup) {a : α} {b : β} (h : (a, b) ∈ D) : aget D a = some b := by
  induction D with
  | nil => cases h
  | cons p D ih =>
    rw [List.map_cons, List.nodup_cons] at nd
    unfold aget
    rcases List.mem_cons.mp h with e | h
    · rw [← e]; simp
    · have : ¬ p.1 = a := fun z => nd.1 (List.mem_map.mpr ⟨(a, b), h, z.symm⟩)
      rw [if_neg this]; exact ih nd.2 h
theorem aput_keys (D : List (α × β)) (a : α) (b : β) : (aput D a b).map (·.1) = if a ∈ D.map (·.1) then D.map (·.1) else D.map (·.1) ++ [a] := by
  induction D with
  | nil => simp [aput]
  | cons p D ih =>
    unfold aput
    by_cases h : p.1 = a
    · simp [h]
    · rw [if_neg h]
      have h' : ¬ a = p.1 := fun z => h z.symm
      rw [List.map_cons, ih]
      by_cases hm : a ∈ D.map (·.1)
      · rw [if_pos hm, if_pos (by rw [List.map_cons]; exact List.mem_cons_of_mem _ hm), List.map_cons]
      · rw [if_neg hm, if_neg (by rw [List.map_cons, List.mem_cons]; exact fun z => z.elim h' hm), List.map_cons, List.cons_append]
theorem aput_nodup {D : List (α × β)} (nd : (D.map (·.1)).Nodup) (a : α) (b : β) : ((aput D a b).map (·.1)).Nodup := by
  rw [aput_keys]
  split
  · exact nd
  · rename_i h
    rw [List.nodup_append]
    exact ⟨nd, by simp, fun x hx y hy => by rw [List.mem_singleton] at hy; subst hy; exact fun z => h (z ▸ hx)⟩
theorem aput_new {D : List (α × β)} {a : α} (b : β) (h : a ∉ D.map (·.1)) : aput D a b = D ++ [(a, b)] := by
  induction D with
  | nil => rfl
  | cons p D ih =>
    rw [List.map_cons, List.mem_cons] at h
    unfold aput
    rw [if_neg (fun z => h (.inl z.symm)), ih fun z => h (.inr z), List.cons_append]
theorem kfind_a (E : KEq key) (D : List (α × β)) (a : α) : kFind (encA key val D) (key a) = (aget D a).map val := by
  induction D with
  | nil => rfl
  | cons p D ih =>
    unfold kFind encA at *
    rw [List.map_cons, List.find?_cons, aget]
    simp only [E.eq]
    by_cases h : p.1 = a
    · simp [h]
    · simp only [decide_eq_false h, if_neg h]
      exact ih
theorem khas_a (E : KEq key) (D : List (α × β)) (a : α) : kHas (encA key val D) (key a) = (aget D a).isSome := by
  induction D with
  | nil => rfl
  | cons p D ih =>
    unfold kHas encA at *
    rw [List.map_cons, List.any_cons, aget, ih]
    simp only [E.eq]
    by_cases h : p.1 = a <;> simp [h]
theorem kput_map (E : KEq key) {D : List (α × β)} (nd : (D.map (·.1)).Nodup) (a : α) (b : β) (h : a ∈ D.map (·.1)) : (encA key val D).map (fun p => if PV.eqv p.1 (key a) = true then (p.1, val b) else p) = encA key val (aput D a b) := by
  induction D with
  | nil => cases h
  | cons p D ih =>
    rw [List.map_cons, List.nodup_cons] at nd
    unfold encA at *
    unfold aput
    by_cases hp : p.1 = a
    · rw [if_pos hp, List.map_cons, List.map_cons, List.map_cons]
      simp only [E.eq, decide_eq_true_eq, hp, if_true]
      congr 1
      rw [List.map_map]
      refine List.map_congr_left fun q hq => ?_
      have : ¬ q.1 = a := fun z => nd.1 (List.mem_map.mpr ⟨q, hq, z.trans hp.symm⟩)
      simp only [Function.comp, E.eq, decide_eq_true_eq, if_neg this]
    · rw [if_neg hp, List.map_cons, List.map_cons, List.map_cons]
      simp only [E.eq, decide_eq_true_eq, if_neg hp]
      rw [List.map_cons, List.mem_cons] at h
      congr 1
      have := ih nd.2 (h.resolve_left fun z => hp z.symm)
      simpa only [E.eq, decide_eq_true_eq] using this
theorem kput_a (E : KEq key) {D : List (α × β)} (nd : (D.map (·.1)).Nodup) (a : α) (b : β) : kPut (encA key val D) (key a) (val b) = encA key val (aput D a b) := by
  unfold kPut
  rw [khas_a E]
  by_cases h : a ∈ D.map (·.1)
  · rw [if_pos (aget_some_iff.mpr h), kput_map E nd a b h]
  · rw [if_neg (fun z => h (aget_some_iff.mp z)), aput_new b h]
    simp [encA]
theorem encA_keys (D : List (α × β)) : (encA key val D).map (·.1) = (D.map (·.1)).map key := by simp [encA]
theorem encA_len (D : List (α × β)) : (encA key val D).length = D.length := by simp [encA]
end
end TT
end

section
set_option linter.all false
set_option autoImplicit false
namespace TT
/-! ### walks over a graph, fault by fault -/
structure Gr (α : Type) where
  start : α
  safe : α → List α
  fault : α → List α
  bad : α → Bool
section
variable {α : Type} [DecidableEq α] (G : Gr α)
/-- met with at most so many faults -/
inductive Rch : Nat → α → Prop
  | start (i : Nat) : Rch i G.start
  | safe {i : Nat} {n m : α} : Rch i n → G.bad n = false → m ∈ G.safe n → Rch i m
  | fault {i : Nat} {n m : α} : Rch i n → G.bad n = false → m ∈ G.fault n → Rch (i + 1) m
/-- all that come without a fault: known ones, those that wait, those that were met -/
inductive Sp (K : List α) : List α → List α → List α × Bool → Prop
  | done (N : List α) : Sp K [] N (N, false)
  | skip {n : α} {P N : List α} {r : List α × Bool} : n ∈ K ∨ n ∈ N → Sp K P N r → Sp K (n :: P) N r
  | bad {n : α} {P N : List α} : ¬ (n ∈ K ∨ n ∈ N) → G.bad n = true → Sp K (n :: P) N (N ++ [n], true)
  | go {n : α} {P N : List α} {r : List α × Bool} : ¬ (n ∈ K ∨ n ∈ N) → G.bad n = false → Sp K (P ++ G.safe n) (N ++ [n]) r → Sp K (n :: P) N r
variable {G}
theorem Rch.mono {i j : Nat} {n : α} (h : Rch G i n) (hj : i ≤ j) : Rch G j n := by
  induction h generalizing j with
  | start i => exact .start j
  | safe h1 h2 h3 ih => exact .safe (ih hj) h2 h3
  | @fault i n m h1 h2 h3 ih =>
    obtain ⟨k, rfl⟩ : ∃ k, j = k + 1 := ⟨j - 1, by omega⟩
    exact .fault (ih (by omega)) h2 h3
theorem Sp.sub {K P N : List α} {r : List α × Bool} (h : Sp G K P N r) : ∀ n ∈ N, n ∈ r.1 := by
  induction h with
  | done N => exact fun n h => h
  | skip _ _ ih => exact ih
  | bad _ _ => exact fun n h => List.mem_append_left _ h
  | go _ _ _ ih => exact fun n h => ih n (List.mem_append_left _ h)
theorem Sp.nodup {K P N : List α} {r : List α × Bool} (h : Sp G K P N r) (nd : N.Nodup) : r.1.Nodup := by
  have ap : ∀ {N : List α} {n : α}, N.Nodup → ¬ n ∈ N → (N ++ [n]).Nodup := fun {N n} nd hn => by
    rw [List.nodup_append]
    refine ⟨nd, by simp, fun a ha b hb => ?_⟩
    cases List.mem_singleton.mp hb
    exact fun z => hn (by rw [← z]; exact ha)
  induction h with
  | done N => exact nd
  | skip _ _ ih => exact ih nd
  | bad h1 _ => exact ap nd fun z => h1 (.inr z)
  | go h1 _ _ ih => exact ih (ap nd fun z => h1 (.inr z))
/-- what holds of all that wait and goes on, holds of all that are met -/
theorem Sp.all {K P N : List α} {r : List α × Bool} {T : α → Prop} (h : Sp G K P N r) (hP : ∀ n ∈ P, T n) (hN : ∀ n ∈ N, T n) (st : ∀ n m, T n → G.bad n = false → m ∈ G.safe n → T m) : ∀ n ∈ r.1, T n := by
  induction h with
  | done N => exact hN
  | skip _ _ ih => exact ih (fun n h => hP n (List.mem_cons_of_mem _ h)) hN
  | bad _ _ =>
    intro n hn
    rcases List.mem_append.mp hn with hn | hn
    · exact hN n hn
    · cases List.mem_singleton.mp hn; exact hP _ List.mem_cons_self
  | @go n P N r _ hb _ ih =>
    refine ih (fun m hm => ?_) (fun m hm => ?_)
    · rcases List.mem_append.mp hm with hm | hm
      · exact hP m (List.mem_cons_of_mem _ hm)
      · exact st n m (hP n List.mem_cons_self) hb hm
    · rcases List.mem_append.mp hm with hm | hm
      · exact hN m hm
      · cases List.mem_singleton.mp hm; exact hP _ List.mem_cons_self
theorem Sp.hit {K P N : List α} {M : List α} (h : Sp G K P N (M, true)) : ∃ n ∈ M, G.bad n = true := by
  generalize hr : (M, true) = r at h
  induction h with
  | done N => cases hr
  | skip _ _ ih => exact ih hr
  | @bad n P N _ hb => cases hr; exact ⟨n, by simp, hb⟩
  | go _ _ _ ih => exact ih hr
/-- where nothing bad was met: all is closed -/
theorem Sp.closed {K P N : List α} {M : List α} (h : Sp G K P N (M, false)) : (∀ n ∈ P, n ∈ K ∨ n ∈ M) ∧ ∀ n ∈ M, n ∈ N ∨ (G.bad n = false ∧ ∀ m ∈ G.safe n, m ∈ K ∨ m ∈ M) := by
  generalize hr : (M, false) = r at h
  induction h with
  | done N => cases hr; exact ⟨fun n h => (nomatch h), fun n h => .inl h⟩
  | @skip n P N r h1 h2 ih =>
    obtain ⟨i1, i2⟩ := ih hr
    subst hr
    refine ⟨fun m hm => ?_, i2⟩
    rcases List.mem_cons.mp hm with rfl | hm
    · exact h1.imp id fun z => h2.sub _ z
    · exact i1 m hm
  | bad _ _ => cases hr
  | @go n P N r h1 hb h2 ih =>
    obtain ⟨i1, i2⟩ := ih hr
    subst hr
    have nm : n ∈ M := h2.sub n (by simp)
    refine ⟨fun m hm => ?_, fun m hm => ?_⟩
    · rcases List.mem_cons.mp hm with rfl | hm
      · exact .inr nm
      · exact i1 m (List.mem_append_left _ hm)
    · rcases i2 m hm with z | z
      · rcases List.mem_append.mp z with z | z
        · exact .inl z
        · cases List.mem_singleton.mp z
          exact .inr ⟨hb, fun k hk => i1 k (List.mem_append_right _ hk)⟩
      · exact .inr z
/-- it ends -/
theorem Sp.ends {T : α → Prop} {U : List α} (hU : ∀ n, T n → n ∈ U) (K : List α) (st : ∀ n m, T n → G.bad n = false → m ∈ G.safe n → T m) : ∀ (k : Nat) (P N : List α), (∀ n ∈ P, T n) → (∀ n ∈ N, T n) → N.Nodup → U.length - N.length ≤ k → ∃ r, Sp G K P N r := by
  have len : ∀ {N : List α}, N.Nodup → (∀ n ∈ N, T n) → N.length ≤ U.length := fun {N} nd h => by
    have aux : ∀ (N U : List α), N.Nodup → (∀ x ∈ N, x ∈ U) → N.length ≤ U.length := by
      intro N
      induction N with
      | nil => intros; exact Nat.zero_le _
      | cons a N ih =>
        intro U nd hh
        have ha := hh a List.mem_cons_self
        obtain ⟨n1, n2⟩ := List.nodup_cons.mp nd
        have := ih (U.erase a) n2 fun x hx => (List.mem_erase_of_ne (fun z => n1 (by rw [← z]; exact hx))).mpr (hh x (List.mem_cons_of_mem _ hx))
        rw [List.length_erase_of_mem ha] at this
        have hp : 0 < U.length := List.length_pos_of_mem ha
        simp only [List.length_cons]
        omega
    exact aux N U nd fun x hx => hU x (h x hx)
  intro k
  induction k with
  | zero =>
    intro P
    induction P with
    | nil => intro N _ _ _ _; exact ⟨_, .done N⟩
    | cons n P ih =>
      intro N hP hN nd hk
      by_cases hn : n ∈ K ∨ n ∈ N
      · obtain ⟨r, hr⟩ := ih N (fun m hm => hP m (List.mem_cons_of_mem _ hm)) hN nd hk
        exact ⟨r, .skip hn hr⟩
      · exfalso
        have nd2 : (n :: N).Nodup := List.nodup_cons.mpr ⟨fun z => hn (.inr z), nd⟩
        have := len nd2 (fun m hm => by
          rcases List.mem_cons.mp hm with rfl | hm
          · exact hP _ List.mem_cons_self
          · exact hN m hm)
        simp only [List.length_cons] at this
        omega
  | succ k ihk =>
    intro P
    induction P with
    | nil => intro N _ _ _ _; exact ⟨_, .done N⟩
    | cons n P ih =>
      intro N hP hN nd hk
      by_cases hn : n ∈ K ∨ n ∈ N
      · obtain ⟨r, hr⟩ := ih N (fun m hm => hP m (List.mem_cons_of_mem _ hm)) hN nd hk
        exact ⟨r, .skip hn hr⟩
      · cases hb : G.bad n with
        | true => exact ⟨_, .bad hn hb⟩
        | false =>
          have tn := hP n List.mem_cons_self
          have nd2 : (N ++ [n]).Nodup := by
            rw [List.nodup_append]
            refine ⟨nd, by simp, fun a ha b hb => ?_⟩
            cases List.mem_singleton.mp hb
            exact fun z => hn (.inr (by rw [← z]; exact ha))
          have hN2 : ∀ m ∈ N ++ [n], T m := fun m hm => by
            rcases List.mem_append.mp hm with hm | hm
            · exact hN m hm
            · cases List.mem_singleton.mp hm; exact tn
          have hl := len nd2 hN2
          simp only [List.length_append, List.length_singleton] at hl
          obtain ⟨r, hr⟩ := ihk (P ++ G.safe n) (N ++ [n]) (fun m hm => by
            rcases List.mem_append.mp hm with hm | hm
            · exact hP m (List.mem_cons_of_mem _ hm)
            · exact st n m tn hb hm) hN2 nd2 (by simp only [List.length_append, List.length_singleton]; omega)
          exact ⟨r, .go hn hb hr⟩
/-! level by level -/
variable (G)
/-- what is to be told -/
def Tells : Option Nat → Prop
  | some f => (∃ n, G.bad n = true ∧ Rch G f n) ∧ ∀ j, j < f → ∀ n, Rch G j n → G.bad n = false
  | none => ∀ j n, Rch G j n → G.bad n = false
theorem tells_unique {a b : Option Nat} (ha : Tells G a) (hb : Tells G b) : a = b := by
  cases a with
  | none =>
    cases b with
    | none => rfl
    | some f =>
      obtain ⟨n, h1, h2⟩ := hb.1
      rw [ha f n h2] at h1; cases h1
  | some f =>
    cases b with
    | none =>
      obtain ⟨n, h1, h2⟩ := ha.1
      rw [hb f n h2] at h1; cases h1
    | some g =>
      rcases Nat.lt_trichotomy f g with h | h | h
      · obtain ⟨n, h1, h2⟩ := ha.1
        rw [hb.2 f h n h2] at h1; cases h1
      · rw [h]
      · obtain ⟨n, h1, h2⟩ := hb.1
        rw [ha.2 g h n h2] at h1; cases h1
/-- what stands ahead of a level: K is done, S comes next -/
structure Lv (f : Nat) (K S : List α) : Prop where
  good : ∀ n ∈ K, G.bad n = false
  cl : ∀ n ∈ K, ∀ m ∈ G.safe n, m ∈ K
  fl : ∀ n ∈ K, ∀ m ∈ G.fault n, m ∈ K ∨ m ∈ S
  rS : ∀ n ∈ S, Rch G f n
  st : G.start ∈ K ∨ G.start ∈ S
  old : ∀ j, j < f → ∀ n, Rch G j n → n ∈ K
variable {G}
theorem lv_start : Lv G 0 [] [G.start] :=
  ⟨fun n h => (nomatch h), fun n h => (nomatch h), fun n h => (nomatch h), fun n h => by cases List.mem_singleton.mp h; exact .start 0, .inr (List.mem_singleton.mpr rfl), fun j h => absurd h (Nat.not_lt_zero j)⟩
/-- all of a level is in K and what comes of S -/
theorem lv_all {f : Nat} {K S M : List α} (h : Lv G f K S) (hS : ∀ n ∈ S, n ∈ K ∨ n ∈ M) (hM : ∀ n ∈ M, G.bad n = false ∧ ∀ m ∈ G.safe n, m ∈ K ∨ m ∈ M) : ∀ n, Rch G f n → n ∈ K ∨ n ∈ M := by
  intro n hn
  generalize hj : f = j at hn
  induction hn with
  | start i => exact h.st.elim .inl (hS _)
  | @safe i n m h1 h2 h3 ih =>
    rcases ih hj with z | z
    · exact .inl (h.cl n z m h3)
    · exact (hM n z).2 m h3
  | @fault i n m h1 h2 h3 ih =>
    have hk := h.old i (by omega) n h1
    exact (h.fl n hk m h3).elim .inl (hS m)
theorem lv_next {f : Nat} {K S M K' S' : List α} (h : Lv G f K S) (hS : ∀ n ∈ S, n ∈ K ∨ n ∈ M) (hM : ∀ n ∈ M, G.bad n = false ∧ ∀ m ∈ G.safe n, m ∈ K ∨ m ∈ M) (hR : ∀ n ∈ M, Rch G f n)
    (hK' : ∀ n, n ∈ K' ↔ n ∈ K ∨ n ∈ M) (f1 : ∀ n ∈ M, n ∈ K ∨ ∀ m ∈ G.fault n, m ∈ S') (f2 : ∀ m ∈ S', ∃ n ∈ M, m ∈ G.fault n) : Lv G (f + 1) K' S' := by
  have all := lv_all h hS hM
  refine ⟨fun n hn => ?_, fun n hn m hm => ?_, fun n hn m hm => ?_, fun m hm => ?_, ?_, fun j hj n hn => ?_⟩
  · exact ((hK' n).mp hn).elim (h.good n) fun z => (hM n z).1
  · rcases (hK' n).mp hn with z | z
    · exact (hK' m).mpr (.inl (h.cl n z m hm))
    · exact (hK' m).mpr ((hM n z).2 m hm)
  · have old : n ∈ K → m ∈ K' ∨ m ∈ S' := fun z => .inl ((hK' m).mpr ((h.fl n z m hm).elim .inl (hS m)))
    rcases (hK' n).mp hn with z | z
    · exact old z
    · exact (f1 n z).elim old fun q => .inr (q m hm)
  · obtain ⟨n, hn, hq⟩ := f2 m hm
    exact .fault (hR n hn) (hM n hn).1 hq
  · exact .inl ((hK' _).mpr (all _ (.start f)))
  · exact (hK' n).mpr (all n (hn.mono (by omega)))
theorem lv_hit {f : Nat} {K S : List α} {n : α} (h : Lv G f K S) (hb : G.bad n = true) (hn : Rch G f n) : Tells G (some f) :=
  ⟨⟨n, hb, hn⟩, fun j hj m hm => h.good m (h.old j hj m hm)⟩
theorem lv_none {f : Nat} {K : List α} (h : Lv G f K []) : Tells G none := by
  have all : ∀ j n, Rch G j n → n ∈ K := fun j n hn => by
    induction hn with
    | start i => exact h.st.elim id fun z => nomatch z
    | @safe i n m h1 h2 h3 ih => exact h.cl n ih m h3
    | @fault i n m h1 h2 h3 ih => exact (h.fl n ih m h3).elim id fun z => nomatch z
  exact fun j n hn => h.good n (all j n hn)
end
/-! ### a graph over another -/
section
variable {α β : Type} {G : Gr α} {L : Gr β} {φ : β → α}
structure Over (G : Gr α) (L : Gr β) (φ : β → α) : Prop where
  start : φ L.start = G.start
  bad : ∀ b, L.bad b = G.bad (φ b)
  s1 : ∀ b c, L.bad b = false → c ∈ L.safe b → φ c ∈ G.safe (φ b) ∨ φ c = φ b
  f1 : ∀ b c, L.bad b = false → c ∈ L.fault b → φ c ∈ G.fault (φ b)
  s2 : ∀ b a, L.bad b = false → a ∈ G.safe (φ b) → a = φ b ∨ ∃ c ∈ L.safe b, φ c = a
  f2 : ∀ b a, L.bad b = false → a ∈ G.fault (φ b) → ∃ c ∈ L.fault b, φ c = a
theorem Over.down (o : Over G L φ) {i : Nat} {b : β} (h : Rch L i b) : Rch G i (φ b) := by
  induction h with
  | start i => rw [o.start]; exact .start i
  | @safe i b c h1 h2 h3 ih =>
    rcases o.s1 b c h2 h3 with z | z
    · exact .safe ih (by rw [← o.bad]; exact h2) z
    · rw [z]; exact ih
  | @fault i b c h1 h2 h3 ih => exact .fault ih (by rw [← o.bad]; exact h2) (o.f1 b c h2 h3)
theorem Over.up (o : Over G L φ) {i : Nat} {a : α} (h : Rch G i a) : ∃ b, Rch L i b ∧ φ b = a := by
  induction h with
  | start i => exact ⟨L.start, .start i, o.start⟩
  | @safe i n m h1 h2 h3 ih =>
    obtain ⟨b, hb, rfl⟩ := ih
    have hbad : L.bad b = false := by rw [o.bad]; exact h2
    rcases o.s2 b m hbad h3 with z | ⟨c, hc, rfl⟩
    · exact ⟨b, hb, z.symm⟩
    · exact ⟨c, .safe hb hbad hc, rfl⟩
  | @fault i n m h1 h2 h3 ih =>
    obtain ⟨b, hb, rfl⟩ := ih
    have hbad : L.bad b = false := by rw [o.bad]; exact h2
    obtain ⟨c, hc, rfl⟩ := o.f2 b m hbad h3
    exact ⟨c, .fault hb hbad hc, rfl⟩
theorem Over.tells (o : Over G L φ) {r : Option Nat} (h : Tells L r) : Tells G r := by
  cases r with
  | none =>
    intro j n hn
    obtain ⟨b, hb, rfl⟩ := o.up hn
    rw [← o.bad]; exact h j b hb
  | some f =>
    obtain ⟨⟨b, h1, h2⟩, h3⟩ := h
    refine ⟨⟨φ b, by rw [← o.bad]; exact h1, o.down h2⟩, fun j hj n hn => ?_⟩
    obtain ⟨b, hb, rfl⟩ := o.up hn
    rw [← o.bad]; exact h3 j hj b hb
end
end TT
end

section
set_option Elab.async false
set_option linter.all false
set_option autoImplicit false
set_option maxRecDepth 100000
namespace TT
def c_PARTS : PV := .tup [.str [107, 101, 101, 112], .str [114, 101, 112, 108, 121], .str [115, 116, 114, 105, 99, 116], .str [108, 101, 101, 119, 97, 121], .str [115, 112, 97, 114, 101], .str [101, 118, 101, 114, 121], .str [111, 108, 100]]
def c_CHOICES : PV := .tup [.tup [.int 0, .int 1, .int 2], .tup [.str [110, 101, 119], .str [115, 97, 109, 101]], .tup [.bl false, .bl true], .tup [.non, .int 0, .int 1, .int 2], .tup [.non, .int 0, .int 1, .int 2], .tup [.int 1, .int 2, .int 3], .tup [.str [101, 110, 100], .str [114, 101, 102, 117, 115, 101]]]
def c_FAULTS : PV := .tup [.str [45], .str [126]]
def c_SAFE : PV := .tup [.str [33], .str [43], .str [46, 46]]
def s_is_integer : SS :=
  (sRet (eAnd (e1 (oIsA .tInt) (eVar 0)) (eAnd (eNot (e1 (oIsA .tBool) (eVar 0))) (eChain oLe oLe (eVar 1) (eVar 0) (eVar 2)))))
def f_is_integer : PF := bodyP 3 3 s_is_integer
def s_is_choice : SS :=
  (sSeq (sIf (tV (e1 (oIs false .non) (eVar 0))) (sRet (e2 (oIn false) (eC .non) (eVar 1))) sSkip)
  (sSeq (sIf (tT (e1 (oIsA .tStr) (eVar 0))) (sRet (e2 (oIn false) (eVar 0) (eLc [2] (iT (eVar 1)) (TT.gName 2) (tT (e1 (oIsA .tStr) (eVar 2))) (eVar 2)))) sSkip)
  (sSeq (sIf (tT (e1 (oIsA .tBool) (eVar 0))) (sRet (e2 (oIn false) (eVar 0) (eLc [2] (iT (eVar 1)) (TT.gName 2) (tT (e1 (oIsA .tBool) (eVar 2))) (eVar 2)))) sSkip)
  (sSeq (sIf (tNot (tT (e1 (oIsA .tInt) (eVar 0)))) (sRet (eC (.bl false))) sSkip)
  (sRet (e2 (oIn false) (eVar 0) (eLc [2] (iT (eVar 1)) (TT.gName 2) (tAnd (tT (e1 (oIsA .tInt) (eVar 2))) (tNot (tT (e1 (oIsA .tBool) (eVar 2))))) (eVar 2))))))))
def f_is_choice : PF := bodyP 3 2 s_is_choice
def s_first_stand : SS :=
  (sSeq (sAsg (eSlH (eC (.int 5)) (eVar 0)) (TT.gTup [1, 2, 3, 4, 5]))
  (sSeq (sAsg (eIf (tV (e1 (oIs false .non) (eVar 4))) (eTup aNil) (e2 oMul (eTup (aCons (e2 oAdd (eVar 4) (eC (.int 1))) aNil)) (eVar 1))) (TT.gName 6))
  (sRet (eTup (aCons (eC (.bl false)) (aCons (eIf (tT (eVar 3)) (eC (.int 1)) (eC (.int 0))) (aCons (eVar 6) (aCons (eIf (tV (e1 (oIs false .non) (eVar 5))) (eC (.int 0)) (eVar 5)) (aCons (eC (.int 0)) aNil)))))))))
def f_first_stand : PF := bodyP 7 1 s_first_stand
def s_is_good : SS :=
  (sSeq (sAsg (eSlH (eC (.int 5)) (eVar 0)) (TT.gTup [3, 4, 5, 6, 7]))
  (sSeq (sIf (tT (e2 oIx (eVar 1) (eC (.int 0)))) (sRet (eC (.bl false))) sSkip)
  (sSeq (sIf (tV (e2 oEq (eVar 2) (eC (.int 0)))) (sRet (eC (.bl true))) sSkip)
  (sSeq (sIf (tOr (tV (e2 oGt (eVar 2) (eVar 3))) (tAnd (tT (eVar 5)) (tV (e2 oGt (eVar 2) (e2 oIx (eVar 1) (eC (.int 1))))))) (sRet (eC (.bl false))) sSkip)
  (sSeq (sIf (tAnd (tV (e1 (oIs true .non) (eVar 6))) (tV (e2 oGt (e2 oIx (e2 oIx (eVar 1) (eC (.int 2))) (e2 oSub (eVar 2) (eC (.int 1)))) (eVar 6)))) (sRet (eC (.bl false))) sSkip)
  (sRet (eOr (e1 (oIs false .non) (eVar 7)) (e2 oGt (e2 oIx (eVar 1) (eC (.int 3))) (eC (.int 0))))))))))
def f_is_good : PF := bodyP 8 3 s_is_good
def s_with_token : SS :=
  (sRet (eTup (aCons (eC (.bl false)) (aCons (eIf (tT (e2 oIx (eVar 0) (eC (.int 2)))) (eN fMin (aCons (eN fInt (aCons (e2 oAdd (eVar 1) (eC (.int 1))) aNil)) (aCons (eN fInt (aCons (e2 oAdd (e2 oIx (eVar 0) (eC (.int 0))) (eC (.int 1))) aNil)) aNil))) (eC (.int 0))) (aCons (eSlH (eN fLen (aCons (eVar 2) aNil)) (e2 oAdd (eTup (aCons (eC (.int 0)) aNil)) (eVar 2))) (aCons (eVar 3) (aCons (eVar 4) aNil)))))))
def f_with_token : PF := bodyP 5 5 s_with_token
def s_ticked : SS :=
  (sSeq (sAsg (e2 oIx (eVar 0) (eC (.int 3))) (TT.gName 2))
  (sSeq (sIf (tOr (tV (e1 (oIs false .non) (eVar 2))) (tT (e2 oIx (eVar 1) (eC (.int 0))))) (sRet (eVar 1)) sSkip)
  (sRet (eTup (aCons (eC (.bl false)) (aCons (e2 oIx (eVar 1) (eC (.int 1))) (aCons (eN fTuple (aCons (eLc [3] (iT (e2 oIx (eVar 1) (eC (.int 2)))) (TT.gName 3) tYes (eN fMin (aCons (eN fInt (aCons (e2 oAdd (eVar 3) (eC (.int 1))) aNil)) (aCons (eN fInt (aCons (e2 oAdd (eVar 2) (eC (.int 1))) aNil)) aNil)))) aNil)) (aCons (e2 oIx (eVar 1) (eC (.int 3))) (aCons (e2 oIx (eVar 1) (eC (.int 4))) aNil)))))))))
def f_ticked : PF := bodyP 4 2 s_ticked
def s_older : SS :=
  (sSeq (sIf (tOr (tV (e1 (oIs false .non) (eVar 1))) (tV (e2 oNe (eVar 2) (eC (.str [109, 97, 100, 101]))))) (sRet (eVar 1)) sSkip)
  (sRet (eN fMin (aCons (eN fInt (aCons (e2 oAdd (eVar 1) (eC (.int 1))) aNil)) (aCons (eN fInt (aCons (e2 oAdd (e2 oIx (eVar 0) (eC (.int 0))) (eC (.int 1))) aNil)) aNil)))))
def f_older : PF := bodyP 3 3 s_older
def s_law_bag : SS :=
  (sSeq (sAsg (eC (.int 0)) (TT.gName 2))
  (sSeq (sIf (tV (e2 oLt (eVar 1) (eN fLen (aCons (eVar 0) aNil)))) (sAsg (e2 oMod (eN fInt (aCons (e2 oIx (eVar 0) (eVar 1)) aNil)) (e2 oPow (eC (.int 10)) (eC (.int 60)))) (TT.gName 2)) sSkip)
  (sSeq (sAsg (e2 oAdd (e2 oMul (e2 oMod (eN fInt (aCons (eVar 2) aNil)) (eC (.int 2147483629))) (eC (.int 16807))) (e2 oMul (e2 oMul (eC (.int 40009)) (eVar 1)) (eVar 1))) (TT.gName 3))
  (sSeq (sAsg (e2 oAdd (eC (.int 1)) (e2 oMod (eN fInt (aCons (e2 oAdd (e2 oAdd (eVar 3) (e2 oMul (eC (.int 7919)) (eVar 1))) (eC (.int 1009))) aNil)) (eC (.int 2147483645)))) (TT.gName 4))
  (sSeq (sIf (tV (e2 oLt (eVar 2) (e2 oPow (eC (.int 10)) (eC (.int 18))))) (sRet (eLstM (aCons (eC (.int 0)) (aCons (eVar 4) aNil)))) sSkip)
  (sRet (eLstM (aCons (eVar 2) (aCons (eVar 4) aNil)))))))))
def i_law_bag : IF := bodyI 5 2 s_law_bag
def s_law_take : SS :=
  (sSeq (sIf (tV (e2 oGt (e2 oIx (eVar 0) (eC (.int 0))) (eC (.int 0)))) (sSeq (sAsg (e2 oMod (eN fInt (aCons (e2 oIx (eVar 0) (eC (.int 0))) aNil)) (eVar 1)) (TT.gName 2))
  (sSeq (sAsg (e2 oFDiv (eN fInt (aCons (e2 oIx (eVar 0) (eC (.int 0))) aNil)) (eVar 1)) (TT.gSub (eVar 0) (eC (.int 0))))
  (sRet (eVar 2)))) sSkip)
  (sSeq (sAsg (e2 oMod (eN fInt (aCons (e2 oMul (e2 oIx (eVar 0) (eC (.int 1))) (eC (.int 48271))) aNil)) (eC (.int 2147483647))) (TT.gSub (eVar 0) (eC (.int 1))))
  (sSeq (sAsg (e2 oMul (e2 oFDiv (eN fInt (aCons (e2 oIx (eVar 0) (eC (.int 1))) aNil)) (eC (.int 13))) (e2 oAdd (e2 oMod (eN fInt (aCons (e2 oIx (eVar 0) (eC (.int 1))) aNil)) (eC (.int 32749))) (eC (.int 17)))) (TT.gName 3))
  (sRet (e2 oMod (eN fInt (aCons (e2 oFDiv (e2 oMod (eN fInt (aCons (eVar 3) aNil)) (eC (.int 2147483629))) (eC (.int 32))) aNil)) (eVar 1))))))
def i_law_take : IF := bodyI 4 2 s_law_take
def s_is_rule : SS :=
  (sSeq (sIf (tOr (tNot (tT (e1 (oIsA .tTup) (eVar 0)))) (tV (e2 oNe (eN fLen (aCons (eVar 0) aNil)) (eN fLen (aCons (eC c_PARTS) aNil))))) (sRet (eC (.bl false))) sSkip)
  (sRet (eN fAll (aCons (eLc [1, 2] (iZip (eVar 0) (eC c_CHOICES)) (TT.gTup [1, 2]) tYes (eN (cP f_is_choice) (aCons (eVar 1) (aCons (eVar 2) aNil)))) aNil))))
def f_is_rule : PF := bodyP 3 1 s_is_rule
def s_need_number : SS :=
  (sIf (tNot (tT (eN (cP f_is_integer) (aCons (eVar 0) (aCons (eVar 1) (aCons (eVar 2) aNil)))))) (sRaise 3) sSkip)
def f_need_number : PF := bodyP 3 3 s_need_number
def s_requested : SS :=
  (sSeq (sIf (tNot (tT (eN (cP f_is_good) (aCons (eVar 0) (aCons (eVar 1) (aCons (eVar 2) aNil)))))) (sRet (eTup (aCons (e2 oAdd (eTup (aCons (eOr (e2 oIx (eVar 1) (eC (.int 0))) (e2 oEq (e2 oIx (eVar 0) (eC (.int 6))) (eC (.str [101, 110, 100])))) aNil)) (eSlL (eC (.int 1)) (eVar 1))) (aCons (eC (.str [114, 101, 102, 117, 115, 101, 100])) aNil)))) sSkip)
  (sSeq (sAsg (eVar 1) (TT.gTup [3, 4, 5, 6, 7]))
  (sSeq (sPar2 8 9 (aCons (e2 oIx (eVar 0) (eC (.int 4))) (aCons (e2 oIx (eVar 0) (eC (.int 5))) aNil)))
  (sSeq (sIf (tV (e2 oEq (eVar 2) (eC (.int 0)))) (sSeq (sIf (tV (e1 (oIs true .non) (eVar 8))) (sSeq (sAsg (e2 oMod (e2 oAdd (eVar 7) (eC (.int 1))) (eVar 9)) (TT.gName 7))
  (sAsg (eN fMin (aCons (eN fInt (aCons (eVar 8) aNil)) (aCons (eN fInt (aCons (e2 oAdd (eVar 6) (eN fInt (aCons (e2 oEq (eVar 7) (eC (.int 0))) aNil))) aNil)) aNil))) (TT.gName 6))) sSkip)
  (sRet (eTup (aCons (eN (cP f_with_token) (aCons (eVar 0) (aCons (eC (.int 0)) (aCons (eVar 5) (aCons (eVar 6) (aCons (eVar 7) aNil)))))) (aCons (eC (.str [109, 97, 100, 101])) aNil))))) sSkip)
  (sSeq (sAsg (eN fMin (aCons (eN fInt (aCons (eVar 4) aNil)) (aCons (eN fInt (aCons (eVar 2) aNil)) aNil))) (TT.gName 4))
  (sSeq (sAsg (eIf (tV (e1 (oIs false .non) (eVar 8))) (eC (.int 0)) (e2 oSub (eVar 6) (eC (.int 1)))) (TT.gName 6))
  (sSeq (sIf (tV (e2 oEq (e2 oIx (eVar 0) (eC (.int 1))) (eC (.str [115, 97, 109, 101])))) (sRet (eTup (aCons (eTup (aCons (eC (.bl false)) (aCons (eVar 4) (aCons (eVar 5) (aCons (eVar 6) (aCons (eVar 7) aNil)))))) (aCons (eC (.str [110, 101, 119, 101, 115, 116])) aNil)))) sSkip)
  (sRet (eTup (aCons (eN (cP f_with_token) (aCons (eVar 0) (aCons (eVar 4) (aCons (eVar 5) (aCons (eVar 6) (aCons (eVar 7) aNil)))))) (aCons (eC (.str [109, 97, 100, 101])) aNil)))))))))))
def f_requested : PF := bodyP 10 3 s_requested
def s_first_node : SS :=
  (sRet (eTup (aCons (eN (cP f_first_stand) (aCons (eVar 0) aNil)) (aCons (eC (.int 0)) (aCons (eC .non) aNil)))))
def f_first_node : PF := bodyP 1 1 s_first_node
def s_law_of : SS :=
  (sRet (e2 oIx (eVar 1) (eN (cI i_law_take) (aCons (eVar 0) (aCons (eN fLen (aCons (eVar 1) aNil)) aNil)))))
def i_law_of : IF := bodyI 2 2 s_law_of
def s_need_rule : SS :=
  (sIf (tNot (tT (eN (cP f_is_rule) (aCons (eVar 0) aNil)))) (sRaise 1) sSkip)
def f_need_rule : PF := bodyP 1 1 s_need_rule
def s_alone : SS :=
  (sSeq (sAsg (eVar 1) (TT.gTup [3, 4, 5]))
  (sSeq (sIf (tV (e2 oEq (eVar 2) (eC (.str [46, 46])))) (sRet (eTup (aCons (eC (.bl false)) (aCons (eTup (aCons (eN (cP f_ticked) (aCons (eVar 0) (aCons (eVar 3) aNil))) (aCons (eVar 4) (aCons (eVar 5) aNil)))) aNil)))) sSkip)
  (sSeq (sIf (tV (e2 oEq (eVar 2) (eC (.str [43])))) (sRet (eTup (aCons (eC (.bl false)) (aCons (eTup (aCons (eVar 3) (aCons (eIf (tV (e1 (oIs false .non) (eVar 5))) (eVar 4) (eVar 5)) (aCons (eC .non) aNil)))) aNil)))) sSkip)
  (sSeq (sAsg (eN (cP f_requested) (aCons (eVar 0) (aCons (eVar 3) (aCons (eVar 4) aNil)))) (TT.gTup [6, 7]))
  (sSeq (sIf (tV (e2 oEq (eVar 7) (eC (.str [114, 101, 102, 117, 115, 101, 100])))) (sRet (eTup (aCons (eC (.bl true)) (aCons (eTup (aCons (eVar 6) (aCons (eVar 4) (aCons (eVar 5) aNil)))) aNil)))) sSkip)
  (sSeq (sIf (tV (e2 oEq (eVar 2) (eC (.str [33])))) (sRet (eTup (aCons (eC (.bl false)) (aCons (eTup (aCons (eVar 6) (aCons (eC (.int 0)) (aCons (eN (cP f_older) (aCons (eVar 0) (aCons (eVar 5) (aCons (eVar 7) aNil)))) aNil)))) aNil)))) sSkip)
  (sSeq (sAsg (eIf (tV (e2 oEq (eVar 2) (eC (.str [126])))) (eC (.int 0)) (eN (cP f_older) (aCons (eVar 0) (aCons (eVar 5) (aCons (eVar 7) aNil))))) (TT.gName 8))
  (sRet (eTup (aCons (eC (.bl false)) (aCons (eTup (aCons (eVar 6) (aCons (eN (cP f_older) (aCons (eVar 0) (aCons (eVar 4) (aCons (eVar 7) aNil)))) (aCons (eVar 8) aNil)))) aNil)))))))))))
def f_alone : PF := bodyP 9 3 s_alone
def s_law_rule : SS :=
  (sSeq (sAsg (eTup (aCons (eN (cI i_law_take) (aCons (eVar 0) (aCons (eC (.int 3)) aNil))) (aCons (eN (cI i_law_of) (aCons (eVar 0) (aCons (eLst (aCons (eC (.str [115, 97, 109, 101])) (aCons (eC (.str [110, 101, 119])) aNil))) aNil))) (aCons (e2 oEq (eN (cI i_law_take) (aCons (eVar 0) (aCons (eC (.int 2)) aNil))) (eC (.int 1))) aNil)))) (TT.gName 1))
  (sSeq (sAsg (eTup (aCons (eN (cI i_law_of) (aCons (eVar 0) (aCons (eLst (aCons (eC .non) (aCons (eC .non) (aCons (eC (.int 0)) (aCons (eC (.int 1)) (aCons (eC (.int 2)) aNil)))))) aNil))) (aCons (eN (cI i_law_of) (aCons (eVar 0) (aCons (eLst (aCons (eC .non) (aCons (eC .non) (aCons (eC (.int 0)) (aCons (eC (.int 1)) (aCons (eC (.int 2)) aNil)))))) aNil))) aNil))) (TT.gName 2))
  (sRet (e2 oAdd (e2 oAdd (eVar 1) (eVar 2)) (eTup (aCons (e2 oAdd (eC (.int 1)) (eN (cI i_law_take) (aCons (eVar 0) (aCons (eC (.int 3)) aNil)))) (aCons (eN (cI i_law_of) (aCons (eVar 0) (aCons (eLst (aCons (eC (.str [114, 101, 102, 117, 115, 101])) (aCons (eC (.str [101, 110, 100])) aNil))) aNil))) aNil)))))))
def i_law_rule : IF := bodyI 3 1 s_law_rule
def s_moved : SS :=
  (sSeq (sAsg (e2 oIx (eN (cP f_alone) (aCons (eVar 0) (aCons (eVar 1) (aCons (eVar 2) aNil)))) (eC (.int 1))) (TT.gName 4))
  (sRet (eIf (tAnd (tT (eVar 3)) (tV (e2 oEq (eVar 2) (eC (.str [33]))))) (e2 oAdd (eSlH (eC (.int 2)) (eVar 4)) (eTup (aCons (eC .non) aNil))) (eVar 4))))
def f_moved : PF := bodyP 5 4 s_moved
def s_law_easy : SS :=
  (sSeq (sAsg (eN (cI i_law_rule) (aCons (eVar 0) aNil)) (TT.gName 1))
  (sSeq (sIf (tOr (tV (e1 (oIs false .non) (e2 oIx (eVar 1) (eC (.int 3))))) (tV (e1 (oIs false .non) (e2 oIx (eVar 1) (eC (.int 4)))))) (sRet (eVar 1)) sSkip)
  (sRet (e2 oAdd (e2 oAdd (eSlH (eC (.int 3)) (eVar 1)) (eN (cI i_law_of) (aCons (eVar 0) (aCons (eLst (aCons (eTup (aCons (eC .non) (aCons (e2 oIx (eVar 1) (eC (.int 4))) aNil))) (aCons (eTup (aCons (e2 oIx (eVar 1) (eC (.int 3))) (aCons (eC .non) aNil))) aNil))) aNil)))) (eSlL (eC (.int 5)) (eVar 1))))))
def i_law_easy : IF := bodyI 2 1 s_law_easy
def b0_spread : SS :=
  (sExpr (eM .list mAppend (eVar 4) (aCons (eN (cP f_moved) (aCons (eVar 0) (aCons (eVar 7) (aCons (eVar 8) (aCons (eVar 1) aNil))))) aNil)))
def b1_spread : SS :=
  (sSeq (sAsg (e2 oIx (eVar 4) (eVar 6)) (TT.gName 7))
  (sSeq (sAsg (e2 oAdd (eVar 6) (eC (.int 1))) (TT.gName 6))
  (sSeq (sIf (tOr (tV (e2 (oKIn2 false) (eVar 7) (eVar 2))) (tV (e2 (oKIn2 false) (eVar 7) (eVar 5)))) sCont sSkip)
  (sSeq (sAsg (eC (.bl true)) (gKSub (eVar 5) (eVar 7)))
  (sSeq (sIf (tT (e2 oIx (eN (cP f_alone) (aCons (eVar 0) (aCons (eVar 7) (aCons (eC (.str [33])) aNil)))) (eC (.int 0)))) (sRet (eTup (aCons (eVar 5) (aCons (eC (.bl true)) aNil)))) sSkip)
  (sFor (iT (eC c_SAFE)) (TT.gName 8) b0_spread))))))
def b2_spread : SS :=
  (sExpr (eM .list mAppend (eVar 4) (aCons (eVar 7) aNil)))
def s_spread : SS :=
  (sSeq (sAsg (eLstM aNil) (TT.gName 4))
  (sSeq (sAsg eKNew (TT.gName 5))
  (sSeq (sAsg (eC (.int 0)) (TT.gName 6))
  (sSeq (sFor (iL (eVar 3)) (TT.gName 7) b2_spread)
  (sSeq (sWhile (tV (e2 oLt (eVar 6) (eN fLen (aCons (eVar 4) aNil)))) b1_spread)
  (sRet (eTup (aCons (eVar 5) (aCons (eC (.bl false)) aNil)))))))))
def i_spread : IF := bodyI 9 4 s_spread
def b0_fewest : SS :=
  (sAsg (eC (.bl true)) (gKSub (eVar 2) (eVar 7)))
def b1_fewest : SS :=
  (sSeq (sAsg (eN (cI i_spread) (aCons (eVar 0) (aCons (eVar 1) (aCons (eVar 2) (aCons (eVar 3) aNil))))) (TT.gTup [5, 6]))
  (sSeq (sIf (tT (eVar 6)) (sRet (eVar 4)) sSkip)
  (sSeq (sLock 5) (sSeq (sAsg (eLc2 [7, 8] [8] (iKl (eVar 5)) (TT.gName 7) tYes (iT (eC c_FAULTS)) (TT.gName 8) tYes (eN (cP f_moved) (aCons (eVar 0) (aCons (eVar 7) (aCons (eVar 8) (aCons (eVar 1) aNil)))))) (TT.gName 3))
  (sSeq (sFor (iKl (eVar 5)) (TT.gName 7) b0_fewest)
  (sAsg (e2 oAdd (eVar 4) (eC (.int 1))) (TT.gName 4)))))))
def s_fewest : SS :=
  (sSeq (sAsg eKNew (TT.gName 2))
  (sSeq (sPar2 3 4 (aCons (eLst (aCons (eN (cP f_first_node) (aCons (eVar 0) aNil)) aNil)) (aCons (eC (.int 0)) aNil)))
  (sSeq (sWhile (tV (e2 oNe (eVar 3) (eLst aNil))) b1_fewest)
  (sRet (eC .non)))))
def f_fewest : PF := bodyP 9 2 s_fewest
def s_fewest_faults : SS :=
  (sSeq (sExpr (eN (cP f_need_rule) (aCons (eVar 0) aNil)))
  (sRet (eN (cP f_fewest) (aCons (eVar 0) (aCons (eVar 1) aNil)))))
def f_fewest_faults : PF := bodyP 2 2 s_fewest_faults
def b0_values_bearing : SS :=
  (sSeq (sAsg (eN (cP f_fewest) (aCons (e2 oAdd (e2 oAdd (eSlH (eVar 4) (eVar 0)) (eTup (aCons (eVar 6) aNil))) (eSlL (e2 oAdd (eVar 4) (eC (.int 1))) (eVar 0))) (aCons (eVar 3) aNil))) (TT.gName 7))
  (sIf (tOr (tV (e1 (oIs false .non) (eVar 7))) (tV (e2 oGt (eVar 7) (eVar 2)))) (sExpr (eM .list mAppend (eVar 5) (aCons (eVar 6) aNil))) sSkip))
def s_values_bearing : SS :=
  (sSeq (sExpr (eN (cX f_need_rule) (aCons (eVar 0) aNil)))
  (sSeq (sIf (tOr (tNot (tT (e1 (oIsA .tStr) (eVar 1)))) (tV (e2 (oIn true) (eVar 1) (eC c_PARTS)))) (sRaise 6) sSkip)
  (sSeq (sExpr (eN (cX f_need_number) (aCons (eVar 2) (aCons (eC (.int 0)) (aCons (eC (.int 10)) aNil)))))
  (sSeq (sPar2 4 5 (aCons (eMT mIndexT (tupItems c_PARTS) (aCons (eVar 1) aNil)) (aCons (eLstM aNil) aNil)))
  (sSeq (sFor (iT (e2 oIx (eC c_CHOICES) (eVar 4))) (TT.gName 6) b0_values_bearing)
  (sRet (eVar 5)))))))
def f_values_bearing : PF := bodyP 8 4 s_values_bearing
def b0_law_right : SS :=
  (sSeq (sAsg (eNK (cP f_fewest_faults) (aCons (e2 oAdd (e2 oAdd (eSlH (eVar 1) (eVar 0)) (eTup (aCons (eVar 7) aNil))) (eSlL (e2 oAdd (eVar 1) (eC (.int 1))) (eVar 0))) aNil) (aCons (eVar 3) aNil)) (TT.gName 8))
  (sIf (tOr (tV (e1 (oIs false .non) (eVar 8))) (tV (e2 oGt (eVar 8) (eVar 2)))) (sExpr (eM .list mAppend (eVar 6) (aCons (eVar 7) aNil))) sSkip))
def s_law_right : SS :=
  (sSeq (sAsg (eLst (aCons (eC (.str [107, 101, 101, 112])) (aCons (eC (.str [114, 101, 112, 108, 121])) (aCons (eC (.str [115, 116, 114, 105, 99, 116])) (aCons (eC (.str [108, 101, 101, 119, 97, 121])) (aCons (eC (.str [115, 112, 97, 114, 101])) (aCons (eC (.str [101, 118, 101, 114, 121])) (aCons (eC (.str [111, 108, 100])) aNil)))))))) (TT.gName 4))
  (sSeq (sAsg (eLst (aCons (eLst (aCons (eC (.int 0)) (aCons (eC (.int 1)) (aCons (eC (.int 2)) aNil)))) (aCons (eLst (aCons (eC (.str [110, 101, 119])) (aCons (eC (.str [115, 97, 109, 101])) aNil))) (aCons (eLst (aCons (eC (.bl false)) (aCons (eC (.bl true)) aNil))) (aCons (eLst (aCons (eC .non) (aCons (eC (.int 0)) (aCons (eC (.int 1)) (aCons (eC (.int 2)) aNil))))) (aCons (eLst (aCons (eC .non) (aCons (eC (.int 0)) (aCons (eC (.int 1)) (aCons (eC (.int 2)) aNil))))) (aCons (eLst (aCons (eC (.int 1)) (aCons (eC (.int 2)) (aCons (eC (.int 3)) aNil)))) (aCons (eLst (aCons (eC (.str [101, 110, 100])) (aCons (eC (.str [114, 101, 102, 117, 115, 101])) aNil))) aNil)))))))) (TT.gName 5))
  (sSeq (sAsg (eLstM aNil) (TT.gName 6))
  (sSeq (sFor (iL (e2 oIx (eVar 5) (eVar 1))) (TT.gName 7) b0_law_right)
  (sRet (e2 oEq (eN fReprL (aCons (eNK (cP f_values_bearing) (aCons (eVar 0) (aCons (e2 oIx (eVar 4) (eVar 1)) (aCons (eVar 2) aNil))) (aCons (eVar 3) aNil)) aNil)) (eN fReprL (aCons (eVar 6) aNil))))))))
def i_law_right : IF := bodyI 9 4 s_law_right
def t__law_error : Told := (.ite 1 (.ret [114, 117, 108, 101]) (.ite 6 (.ret [112, 97, 114, 116]) (.ite 3 (.ret [110, 117, 109, 98, 101, 114]) (.ret [111, 116, 104, 101, 114]))))
def q_lam : List Nat := [108, 97, 119, 46, 60, 108, 111, 99, 97, 108, 115, 62, 46, 60, 108, 97, 109, 98, 100, 97, 62]
def b0_law (P : Nat) : SS :=
  (sIf (tV (e2 oNe (eTold P q_lam t__law_error [110, 111, 110, 101] [1, 6, 3] (eND (cX f_values_bearing) (aCons (eVar 3) (aCons (eC (.str [111, 108, 100])) (aCons (eVar 5) aNil))) [(.bl false)])) (eC (.str [110, 117, 109, 98, 101, 114])))) (sRet (eC (.bl false))) sSkip)
def b1_law (P : Nat) : SS :=
  (sIf (tV (e2 oNe (eTold P q_lam t__law_error [110, 111, 110, 101] [1, 6, 3] (eND (cX f_values_bearing) (aCons (eVar 3) (aCons (eVar 5) (aCons (eC .non) aNil))) [(.bl false)])) (eC (.str [112, 97, 114, 116])))) (sRet (eC (.bl false))) sSkip)
def b2_law : SS :=
  (sIf (tNot (tT (eN (cI i_law_right) (aCons (eVar 3) (aCons (eN (cI i_law_take) (aCons (eVar 2) (aCons (eC (.int 7)) aNil))) (aCons (eN (cI i_law_of) (aCons (eVar 2) (aCons (eLst (aCons (eC (.int 0)) (aCons (eC (.int 1)) (aCons (eC (.int 2)) (aCons (eC (.int 3)) (aCons (eN (cI i_law_take) (aCons (eVar 2) (aCons (eC (.int 11)) aNil))) aNil)))))) aNil))) (aCons (e2 oEq (eVar 4) (eC (.int 1))) aNil))))))) (sRet (eC (.bl false))) sSkip)
def b3_law (P : Nat) : SS :=
  (sSeq (sAsg (eN (cI i_law_bag) (aCons (eVar 0) (aCons (eVar 1) aNil))) (TT.gName 2))
  (sSeq (sAsg (eN (cI i_law_easy) (aCons (eVar 2) aNil)) (TT.gName 3))
  (sSeq (sFor (TT.iRng1 (eC (.int 3))) (TT.gName 4) b2_law)
  (sSeq (sFor (iL (eLst (aCons (eC .non) (aCons (eC (.str [107, 101, 112, 116])) (aCons (eC (.str [])) (aCons (eC (.int 0)) (aCons (eC (.bl true)) (aCons (eLst (aCons (eC (.str [107, 101, 101, 112])) aNil)) (aCons (eTup (aCons (eC (.str [107, 101, 101, 112])) aNil)) aNil))))))))) (TT.gName 5) (b1_law P))
  (sSeq (sFor (iL (eLst (aCons (eC .non) (aCons (e1 oNeg (eC (.int 1))) (aCons (eC (.int 11)) (aCons (eC (.bl true)) (aCons (eC (.str [49])) (aCons (eTup (aCons (eC (.int 1)) aNil)) aNil)))))))) (TT.gName 5) (b0_law P))
  (sIf (tV (e2 oNe (eTold P q_lam t__law_error [110, 111, 110, 101] [1, 6, 3] (eND (cX f_values_bearing) (aCons (eSlH (eC (.int 6)) (eVar 3)) (aCons (eC (.str [107, 101, 112, 116])) (aCons (eC .non) aNil))) [(.bl false)])) (eC (.str [114, 117, 108, 101])))) (sRet (eC (.bl false))) sSkip))))))
def s_law (P : Nat) : SS :=
  (sSeq (sFor (TT.iRng1 (e2 oAdd (eN fMin (aCons (eN fLen (aCons (eVar 0) aNil)) (aCons (eC (.int 3)) aNil))) (eC (.int 1)))) (TT.gName 1) (b3_law P))
  (sRet (e2 oEq (eND (cP f_values_bearing) (aCons (eTup (aCons (eC (.int 0)) (aCons (eC (.str [115, 97, 109, 101])) (aCons (eC (.bl false)) (aCons (eC .non) (aCons (eC .non) (aCons (eC (.int 1)) (aCons (eC (.str [101, 110, 100])) aNil)))))))) (aCons (eC (.str [107, 101, 101, 112])) (aCons (eC (.int 0)) aNil))) [(.bl false)]) (eLst (aCons (eC (.int 0)) (aCons (eC (.int 1)) (aCons (eC (.int 2)) aNil)))))))
end TT
end

section
set_option linter.all false
set_option autoImplicit false
namespace TT
/-! the law's own helpers: a bag of draws -/
theorem take_ok {m : Mm} {b : Nat} {a s c : Int} (h : m[b]? = some (.lst [.int a, .int s])) (h0 : 0 < c) (h1 : c < 1073741824) :
    ∃ r a' s' : Int, 0 ≤ r ∧ r < c ∧ i_law_take [.ref b, .int c] m = .ok (.int r, m.set b (.lst [.int a', .int s'])) := by
  by_cases ha : 0 < a
  · refine ⟨a % c, a / c, s, Int.emod_nonneg _ (by omega), Int.emod_lt_of_pos _ h0, ?_⟩
    simp [i_law_take, bodyI, s_law_take, startS, oIx_ref h, oSet_ref h, atI, ixN, ha, oMod_int, oFDiv_int, h0, h1, endF]
  · have hm := getset1 (o' := .lst [.int a, .int (s * 48271 % 2147483647)]) h
    have w1 : ∀ i : Int, within64 (i % 32749 + 17) = true := fun i => by
      have := Int.emod_nonneg i (show (32749 : Int) ≠ 0 by decide)
      have := Int.emod_lt_of_pos i (show (0 : Int) < 32749 by decide)
      simp only [within64, Bool.and_eq_true, decide_eq_true_eq]
      omega
    have w2 : within64 48271 = true := by decide
    refine ⟨_, a, s * 48271 % 2147483647, Int.emod_nonneg _ (by omega), Int.emod_lt_of_pos (?_ : Int) h0, ?_⟩
    rotate_left
    · simp [i_law_take, bodyI, s_law_take, startS, oIx_ref h, oSet_ref h, atI, ixN, ha, oMod_int, oFDiv_int, h0, h1, endF, oMul_int, w2, oIx_ref hm, w1]
      rfl
theorem of_ok {m : Mm} {b : Nat} {a s : Int} {xs : List PV} (h : m[b]? = some (.lst [.int a, .int s])) (h0 : 0 < xs.length) (h1 : xs.length < 1073741824) :
    ∃ x ∈ xs, ∃ a' s' : Int, i_law_of [.ref b, .vl xs] m = .ok (x, m.set b (.lst [.int a', .int s'])) := by
  obtain ⟨r, a', s', r0, r1, e⟩ := take_ok (c := xs.length) h (by omega) (by omega)
  obtain ⟨x, hx, hat⟩ := atI_lt r0 r1
  refine ⟨x, hx, a', s', ?_⟩
  simp [i_law_of, bodyI, s_law_of, startS, cI, e, oIx_vl hat, endF]
theorem bag_ok {m : Mm} {xs : List PV} {k : Int} (hk : 0 ≤ k) (hk2 : k < 1000) (hx : ∀ x ∈ xs, ∃ i, x = .int i) :
    ∃ a s : Int, i_law_bag [.fz xs, .int k] m = .ok (.ref m.length, m ++ [.lst [.int a, .int s]]) := by
  have w1 : within64 16807 = true := by decide
  have w2 : within64 40009 = true := by decide
  have w3 : within64 k = true := by simp only [within64, Bool.and_eq_true, decide_eq_true_eq]; omega
  have w4 : within64 7919 = true := by decide
  obtain ⟨M, p3, p1⟩ : ∃ M : Int, 0 < M ∧ oPow (.int 10) (.int 60) m = .ok (.int M, m) := ⟨10 ^ 60, by decide, rfl⟩
  obtain ⟨L, p4, p2⟩ : ∃ M : Int, 0 < M ∧ oPow (.int 10) (.int 18) m = .ok (.int M, m) := ⟨10 ^ 18, by decide, rfl⟩
  by_cases h : k < xs.length
  · obtain ⟨x, hm, hat⟩ := atI_lt hk h
    obtain ⟨i, rfl⟩ := hx x hm
    by_cases hc : i % M < L
    · simp only [i_law_bag, bodyI, s_law_bag]
      simp [startS, h, oIx_fz hat, p1, p2, p3, oMod_int, oMul_int, w1, w2, w3, w4, hc, endF]
    · simp only [i_law_bag, bodyI, s_law_bag]
      simp [startS, h, oIx_fz hat, p1, p2, p3, oMod_int, oMul_int, w1, w2, w3, w4, hc, endF]
  · simp only [i_law_bag, bodyI, s_law_bag]
    simp [startS, h, p1, p2, p3, oMod_int, oMul_int, w1, w2, w3, w4, p4, endF]

/-- a rule, as the law draws it -/
structure Rule where
  keep : Int
  new : Bool
  strict : Bool
  leeway : Option Int
  spare : Option Int
  every : Int
  fin : Bool
def encO : Option Int → PV
  | none => .non
  | some i => .int i
def sSame : List Nat := [115, 97, 109, 101]
def sNew : List Nat := [110, 101, 119]
def sRefuse : List Nat := [114, 101, 102, 117, 115, 101]
def sEnd : List Nat := [101, 110, 100]
def Rule.parts (R : Rule) : List PV := [.int R.keep, .str (if R.new then sNew else sSame), .bl R.strict, encO R.leeway, encO R.spare, .int R.every, .str (if R.fin then sEnd else sRefuse)]
def Rule.enc (R : Rule) : PV := .tup R.parts
structure Rule.Ok (R : Rule) : Prop where
  keep : 0 ≤ R.keep ∧ R.keep ≤ 2
  leeway : R.leeway = none ∨ ∃ i, R.leeway = some i ∧ 0 ≤ i ∧ i ≤ 2
  spare : R.spare = none ∨ ∃ i, R.spare = some i ∧ 0 ≤ i ∧ i ≤ 2
  every : 1 ≤ R.every ∧ R.every ≤ 3
theorem menu2 {x : PV} {u v : List Nat} (h : x ∈ [PV.str u, PV.str v]) : ∃ k : Bool, x = .str (if k then v else u) := by
  simp only [List.mem_cons, List.mem_nil_iff, or_false] at h
  rcases h with h | h
  · exact ⟨false, by simp [h]⟩
  · exact ⟨true, by simp [h]⟩
theorem menuO {x : PV} (h : x ∈ [PV.non, PV.non, PV.int 0, PV.int 1, PV.int 2]) : ∃ o : Option Int, x = encO o ∧ (o = none ∨ ∃ i, o = some i ∧ 0 ≤ i ∧ i ≤ 2) := by
  simp only [List.mem_cons, List.mem_nil_iff, or_false] at h
  rcases h with h | h | h | h | h
  · exact ⟨none, h, .inl rfl⟩
  · exact ⟨none, h, .inl rfl⟩
  · exact ⟨some 0, h, .inr ⟨0, rfl, by decide, by decide⟩⟩
  · exact ⟨some 1, h, .inr ⟨1, rfl, by decide, by decide⟩⟩
  · exact ⟨some 2, h, .inr ⟨2, rfl, by decide, by decide⟩⟩
theorem rule_ok {m : Mm} {b : Nat} {a s : Int} (h : m[b]? = some (.lst [.int a, .int s])) :
    ∃ R : Rule, R.Ok ∧ ∃ a' s' : Int, i_law_rule [.ref b] m = .ok (R.enc, m.set b (.lst [.int a', .int s'])) := by
  obtain ⟨r0, a0, s0, p0, q0, e0⟩ := take_ok (c := 3) h (by decide) (by decide)
  have h0 := getset1 (o' := .lst [.int a0, .int s0]) h
  obtain ⟨x1, m1, a1, s1, e1⟩ := of_ok (xs := [.str sSame, .str sNew]) h0 (by decide) (by decide)
  have h1 := getset1 (o' := .lst [.int a1, .int s1]) h0
  obtain ⟨r2, a2, s2, p2, q2, e2⟩ := take_ok (c := 2) h1 (by decide) (by decide)
  have h2 := getset1 (o' := .lst [.int a2, .int s2]) h1
  obtain ⟨x3, m3, a3, s3, e3⟩ := of_ok (xs := [.non, .non, .int 0, .int 1, .int 2]) h2 (by decide) (by decide)
  have h3 := getset1 (o' := .lst [.int a3, .int s3]) h2
  obtain ⟨x4, m4, a4, s4, e4⟩ := of_ok (xs := [.non, .non, .int 0, .int 1, .int 2]) h3 (by decide) (by decide)
  have h4 := getset1 (o' := .lst [.int a4, .int s4]) h3
  obtain ⟨r5, a5, s5, p5, q5, e5⟩ := take_ok (c := 3) h4 (by decide) (by decide)
  have h5 := getset1 (o' := .lst [.int a5, .int s5]) h4
  obtain ⟨x6, m6, a6, s6, e6⟩ := of_ok (xs := [.str sRefuse, .str sEnd]) h5 (by decide) (by decide)
  obtain ⟨k1, rfl⟩ := menu2 m1
  obtain ⟨o3, rfl, f3⟩ := menuO m3
  obtain ⟨o4, rfl, f4⟩ := menuO m4
  obtain ⟨k6, rfl⟩ := menu2 m6
  simp only [List.set_set] at e0 e1 e2 e3 e4 e5 e6
  refine ⟨⟨r0, k1, r2 == 1, o3, o4, 1 + r5, k6⟩, ⟨⟨p0, by show r0 ≤ 2; omega⟩, f3, f4, ⟨by show 1 ≤ 1 + r5; omega, by show 1 + r5 ≤ 3; omega⟩⟩, a6, s6, ?_⟩
  simp only [i_law_rule, bodyI, s_law_rule]
  simp only [sSame, sNew, sRefuse, sEnd] at e1 e6 ⊢
  simp [startS, cI, e0, e1, e2, e3, e4, e5, e6, oAdd_tup, LINE, endF, Rule.enc, Rule.parts, sSame, sNew, sRefuse, sEnd]
end TT
end

section
set_option linter.all false
set_option autoImplicit false
namespace TT
/-! ### the program's stands, typed -/
structure Stand where
  over : Bool
  lead : Int
  ages : List Int
  spared : Int
  counted : Int
  deriving DecidableEq
def Stand.items (st : Stand) : List PV := [.bl st.over, .int st.lead, .tup (st.ages.map .int), .int st.spared, .int st.counted]
def Stand.enc (st : Stand) : PV := .tup st.items
def lwOk (o : Option Int) (x : Int) : Bool := match o with
  | none => true
  | some l => decide (x ≤ l)
namespace Rule
def first (R : Rule) : Stand := ⟨false, if R.strict then 1 else 0, match R.leeway with | none => [] | some l => List.replicate R.keep.toNat (l + 1), R.spare.getD 0, 0⟩
def good (R : Rule) (st : Stand) (o : Int) : Bool :=
  !st.over && (o == 0 || (decide (o ≤ R.keep) && (!R.strict || decide (o ≤ st.lead)) && lwOk R.leeway ((st.ages[(o - 1).toNat]?).getD 0) && (R.spare.isNone || decide (0 < st.spared))))
def withTok (R : Rule) (lead : Int) (ages : List Int) (spared counted : Int) : Stand :=
  ⟨false, if R.strict then (if R.keep + 1 < lead + 1 then R.keep + 1 else lead + 1) else 0, (0 :: ages).take ages.length, spared, counted⟩
inductive Kind where
  | refused | made | newest
def Kind.code : Kind → List Nat
  | .refused => [114, 101, 102, 117, 115, 101, 100]
  | .made => [109, 97, 100, 101]
  | .newest => [110, 101, 119, 101, 115, 116]
def req (R : Rule) (st : Stand) (o : Int) : Stand × Kind :=
  if R.good st o then
    if o = 0 then
      match R.spare with
      | none => (R.withTok 0 st.ages st.spared st.counted, .made)
      | some s => let c := (st.counted + 1) % R.every
        let k := st.spared + b2i (c == 0)
        (R.withTok 0 st.ages (if k < s then k else s) c, .made)
    else
      let lead := if o < st.lead then o else st.lead
      let spared := match R.spare with | none => 0 | some _ => st.spared - 1
      if R.new then (R.withTok lead st.ages spared st.counted, .made) else (⟨false, lead, st.ages, spared, st.counted⟩, .newest)
  else ({ st with over := st.over || R.fin }, .refused)
def tick (R : Rule) (st : Stand) : Stand := match R.leeway with
  | none => st
  | some l => if st.over then st else ⟨false, st.lead, st.ages.map fun a => if l + 1 < a + 1 then l + 1 else a + 1, st.spared, st.counted⟩
def answer (R : Rule) (st : Stand) (newest tok : Int) : Stand × Int × Option Int :=
  let o := if R.keep + 1 < newest - tok then R.keep + 1 else newest - tok
  match R.req st o with
  | (a, .refused) => (a, newest, none)
  | (a, .made) => (a, newest + 1, some (newest + 1))
  | (a, .newest) => (a, newest, some newest)
end Rule
theorem pus_ints : ∀ xs : List Int, pus (xs.map .int) = true
  | [] => rfl
  | x :: xs => by simp [pus_ints xs]
theorem pus_comp {f : Int → Int} (xs : List Int) : pus (xs.map (PV.int ∘ f)) = true := by rw [← List.map_map]; exact pus_ints _
theorem pus_rep (i : Int) : ∀ n : Nat, pus (List.replicate n (PV.int i)) = true
  | 0 => rfl
  | n + 1 => by rw [List.replicate_succ]; simp [pus_rep i n]
theorem enc_pu (R : Rule) : R.enc.pu = true := by
  have eo : ∀ o : Option Int, (encO o).pu = true := fun o => by cases o <;> rfl
  simp [Rule.enc, Rule.parts, eo]
theorem stand_pu (st : Stand) : st.enc.pu = true := by simp [Stand.enc, Stand.items, pus_ints]
theorem encO_non (o : Option Int) (m : Mm) : oIs false .non (encO o) m = .ok (.bl o.isNone, m) := by cases o <;> rfl
theorem encO_nnon (o : Option Int) (m : Mm) : oIs true .non (encO o) m = .ok (.bl o.isSome, m) := by cases o <;> rfl
theorem first_ok {R : Rule} (ok : R.Ok) : f_first_stand [R.enc] = .ok (R.first).enc := by
  obtain ⟨keep, new, strict, leeway, spare, every, fin⟩ := R
  have k0 := ok.keep.1
  have k2 := ok.keep.2
  simp only at k0 k2
  have sl : ∀ m, oSlice none (some 5) (Rule.enc ⟨keep, new, strict, leeway, spare, every, fin⟩) m = .ok (.tup [.int keep, .str (if new then sNew else sSame), .bl strict, encO leeway, encO spare], m) := fun m => rfl
  have mul : ∀ (i : Int) m, oMul (.tup [.int i]) (.int keep) m = .ok (.tup ((List.replicate keep.toNat i).map .int), m) := fun i m => by
    unfold oMul
    simp only [look_tup]
    rw [if_pos (by simp; omega)]
    congr 2
    simp [rep]
  simp only [f_first_stand, bodyP, bodyI, s_first_stand, startS]
  have pr : ∀ v : PV, v.pu = true → ∀ m, Rs.ofO (frz 4 m v) = .ok v := fun v h m => by rw [frz_pu h]; rfl
  cases leeway <;> cases spare <;> cases strict <;> simp [sl, encO, mul, endF, Rule.first, Stand.enc, Stand.items, pus_ints, pus_rep, frz_pu]
theorem good_ok {R : Rule} {st : Stand} {o : Int} (h : st.over = false → o ≠ 0 → o ≤ R.keep → ∀ l, R.leeway = some l → 1 ≤ o ∧ o ≤ st.ages.length) : f_is_good [R.enc, st.enc, .int o] = .ok (.bl (R.good st o)) := by
  obtain ⟨keep, new, strict, leeway, spare, every, fin⟩ := R
  obtain ⟨over, lead, ages, spared, counted⟩ := st
  have sl : ∀ m, oSlice none (some 5) (Rule.enc ⟨keep, new, strict, leeway, spare, every, fin⟩) m = .ok (.tup [.int keep, .str (if new then sNew else sSame), .bl strict, encO leeway, encO spare], m) := fun m => rfl
  have i0 : ∀ m, oIx (Stand.enc ⟨over, lead, ages, spared, counted⟩) (.int 0) m = .ok (.bl over, m) := fun m => rfl
  have i1 : ∀ m, oIx (Stand.enc ⟨over, lead, ages, spared, counted⟩) (.int 1) m = .ok (.int lead, m) := fun m => rfl
  have i2 : ∀ m, oIx (Stand.enc ⟨over, lead, ages, spared, counted⟩) (.int 2) m = .ok (.tup (ages.map .int), m) := fun m => rfl
  have i3 : ∀ m, oIx (Stand.enc ⟨over, lead, ages, spared, counted⟩) (.int 3) m = .ok (.int spared, m) := fun m => rfl
  simp only [f_is_good, bodyP, bodyI, s_is_good, startS]
  cases over with
  | true => simp [sl, i0, endF, Rule.good, lwOk]
  | false =>
    by_cases h0 : o = 0
    · subst h0; simp [sl, i0, endF, Rule.good, lwOk]
    · by_cases hk : o ≤ keep
      · have hk' : ¬ keep < o := by omega
        by_cases hs : strict = true ∧ lead < o
        · obtain ⟨rfl, hl⟩ := hs
          have : ¬ o ≤ lead := by omega
          simp [sl, i0, i1, endF, Rule.good, lwOk, h0, hk, hk', hl, this]
        · have hs2 : (!strict || decide (o ≤ lead)) = true := by
            cases strict with
            | false => rfl
            | true => simp at hs ⊢; omega
          have hs3 : strict = false ∨ ¬ lead < o := by
            cases strict with
            | false => exact .inl rfl
            | true => right; simp at hs; omega
          cases leeway with
          | none =>
            cases spare <;> rcases hs3 with rfl | hs3 <;> simp [sl, i0, i1, i3, endF, Rule.good, lwOk, h0, hk, hk', *, encO] <;> simp_all
          | some l =>
            obtain ⟨o1, o2⟩ := h rfl h0 hk l rfl
            have hlt : (o - 1).toNat < ages.length := by simp only at o2; omega
            have ix : ∀ m, oIx (.tup (ages.map .int)) (.int (o - 1)) m = .ok (.int ((ages[(o - 1).toNat]?).getD 0), m) := fun m => by
              refine oIx_tup ?_
              have e := atI_nat (xs := ages.map PV.int) (j := (o - 1).toNat) (x := .int ((ages[(o - 1).toNat]?).getD 0)) (by
                rw [List.getElem?_map, List.getElem?_eq_getElem hlt]; rfl)
              have : (((o - 1).toNat : Nat) : Int) = o - 1 := by omega
              rw [this] at e
              exact e
            generalize hg : (ages[(o - 1).toNat]?).getD 0 = g at ix
            by_cases hgl : g ≤ l
            · have : ¬ l < g := by omega
              cases spare <;> rcases hs3 with rfl | hs3 <;> simp [sl, i0, i1, i2, i3, endF, Rule.good, lwOk, h0, hk, hk', *, encO] <;> simp_all
            · have : l < g := by omega
              cases spare <;> rcases hs3 with rfl | hs3 <;> simp [sl, i0, i1, i2, i3, endF, Rule.good, lwOk, h0, hk, hk', *, encO] <;> simp_all <;> omega
      · have : keep < o := by omega
        simp [sl, i0, i1, endF, Rule.good, lwOk, h0, hk, this]
theorem withTok_ok {R : Rule} {lead spared counted : Int} {ages : List Int} (hl : ages.length ≤ 10) : f_with_token [R.enc, .int lead, .tup (ages.map .int), .int spared, .int counted] = .ok (R.withTok lead ages spared counted).enc := by
  obtain ⟨keep, new, strict, leeway, spare, every, fin⟩ := R
  have i0 : ∀ m, oIx (Rule.enc ⟨keep, new, strict, leeway, spare, every, fin⟩) (.int 0) m = .ok (.int keep, m) := fun m => rfl
  have i2 : ∀ m, oIx (Rule.enc ⟨keep, new, strict, leeway, spare, every, fin⟩) (.int 2) m = .ok (.bl strict, m) := fun m => rfl
  have ad : ∀ m, oAdd (.tup [.int 0]) (.tup (ages.map .int)) m = .ok (.tup (.int 0 :: ages.map .int), m) := fun m => by
    rw [oAdd_tup, if_pos]
    · rfl
    · simp only [List.length_cons, List.length_nil, List.length_map]; exact Nat.le_trans (by omega : 0 + 1 + ages.length ≤ 11) (by decide)
  obtain ⟨A, hA⟩ : ∃ A, A = (0 :: ages).take ages.length := ⟨_, rfl⟩
  have sl : ∀ m, oSlice none (some (ages.length : Int)) (.tup (.int 0 :: ages.map .int)) m = .ok (.tup (A.map .int), m) := fun m => by
    show oSlice none (some (ages.length : Int)) (.tup ((0 :: ages).map .int)) m = _
    unfold oSlice
    simp only [look_tup]
    congr 3
    unfold cutL sIx
    simp only [List.length_map, List.length_cons]
    rw [if_neg (by omega), hA, List.map_take]
    simp
  have hw : Rule.withTok ⟨keep, new, strict, leeway, spare, every, fin⟩ lead ages spared counted = ⟨false, if strict then (if keep + 1 < lead + 1 then keep + 1 else lead + 1) else 0, A, spared, counted⟩ := by rw [hA]; rfl
  rw [hw]
  simp only [f_with_token, bodyP, bodyI, s_with_token, startS]
  cases strict <;> simp [i0, i2, ad, sl, endF, Stand.enc, Stand.items, pus_ints, frz_pu]
theorem pack3 (st : Stand) (k : Rule.Kind) (m : Mm) : Rs.ofO (frz 4 m (.tup [st.enc, .str k.code])) = .ok (.tup [st.enc, .str k.code]) := by
  rw [frz_pu (by simp [stand_pu])]; rfl
theorem req_ok {R : Rule} {st : Stand} {o : Int} (ok : R.Ok) (hl : st.ages.length ≤ 10) (h : st.over = false → o ≠ 0 → o ≤ R.keep → ∀ l, R.leeway = some l → 1 ≤ o ∧ o ≤ st.ages.length) :
    f_requested [R.enc, st.enc, .int o] = .ok (.tup [(R.req st o).1.enc, .str (R.req st o).2.code]) := by
  have hg := good_ok h
  have hw := fun lead spared counted => withTok_ok (R := R) (lead := lead) (spared := spared) (counted := counted) hl
  have pR := enc_pu R
  have pS := stand_pu st
  have cg : ∀ m, cP f_is_good [R.enc, st.enc, .int o] m = .ok (.bl (R.good st o), m) := fun m => by simp [cP, pR, pS, hg]
  have cw : ∀ lead spared counted m, cP f_with_token [R.enc, .int lead, .tup (st.ages.map .int), .int spared, .int counted] m = .ok ((R.withTok lead st.ages spared counted).enc, m) := fun a b c m => by simp [cP, pR, pus_ints, hw]
  have i1 : ∀ m, oIx R.enc (.int 1) m = .ok (.str (if R.new then sNew else sSame), m) := fun m => rfl
  have i4 : ∀ m, oIx R.enc (.int 4) m = .ok (encO R.spare, m) := fun m => rfl
  have i5 : ∀ m, oIx R.enc (.int 5) m = .ok (.int R.every, m) := fun m => rfl
  have i6 : ∀ m, oIx R.enc (.int 6) m = .ok (.str (if R.fin then sEnd else sRefuse), m) := fun m => rfl
  have j0 : ∀ m, oIx st.enc (.int 0) m = .ok (.bl st.over, m) := fun m => rfl
  have j1 : ∀ m, oSlice (some 1) none st.enc m = .ok (.tup [.int st.lead, .tup (st.ages.map .int), .int st.spared, .int st.counted], m) := fun m => rfl
  have ev : ∀ i m, oMod (.int i) (.int R.every) m = .ok (.int (i % R.every), m) := fun i m => by rw [oMod_int, if_pos]; have := ok.every.1; simp; omega
  have gt : ∀ s m, gTup [3, 4, 5, 6, 7] st.enc s m = .ok (((((s.set 3 (some (.bl st.over))).set 4 (some (.int st.lead))).set 5 (some (.tup (st.ages.map .int)))).set 6 (some (.int st.spared))).set 7 (some (.int st.counted)), m) := fun s m => rfl
  have fin : ∀ (S : Stand) (k : List Nat) m, Rs.ofO (frz 4 m (.tup [S.enc, .str k])) = .ok (.tup [S.enc, .str k]) := fun S k m => by rw [frz_pu (by simp [stand_pu])]; rfl
  simp only [f_requested, bodyP, bodyI, s_requested, startS]
  by_cases g : R.good st o = true
  · by_cases h0 : o = 0
    · subst h0
      cases hs : R.spare with
      | none => simp [cg, g, endF, i4, i5, hs, encO, cw, Rule.req, gt, fin, Rule.Kind.code]
      | some s => simp [cg, g, endF, i4, i5, hs, encO, cw, Rule.req, gt, ev, fin, Rule.Kind.code]
    · cases hs : R.spare <;> cases hn : R.new <;> simp [cg, g, endF, i1, i4, i5, hs, hn, encO, cw, Rule.req, gt, fin, Rule.Kind.code, h0, sNew, sSame] <;> simp [Stand.enc, Stand.items, frz_pu, pus_ints]
  · cases hf : R.fin <;> cases ho : st.over <;> simp [cg, g, endF, j0, j1, i6, hf, ho, oAdd_tup, LINE, sEnd, sRefuse] <;> simp [Rule.req, g, Stand.enc, Stand.items, hf, ho, frz_pu, pus_ints, Rule.Kind.code]
theorem tick_ok {R : Rule} {st : Stand} (hl : st.ages.length ≤ 10) : f_ticked [R.enc, st.enc] = .ok (R.tick st).enc := by
  have i3 : ∀ m, oIx R.enc (.int 3) m = .ok (encO R.leeway, m) := fun m => rfl
  have j0 : ∀ m, oIx st.enc (.int 0) m = .ok (.bl st.over, m) := fun m => rfl
  have j1 : ∀ m, oIx st.enc (.int 1) m = .ok (.int st.lead, m) := fun m => rfl
  have j2 : ∀ m, oIx st.enc (.int 2) m = .ok (.tup (st.ages.map .int), m) := fun m => rfl
  have j3 : ∀ m, oIx st.enc (.int 3) m = .ok (.int st.spared, m) := fun m => rfl
  have j4 : ∀ m, oIx st.enc (.int 4) m = .ok (.int st.counted, m) := fun m => rfl
  have fin : ∀ (S : Stand) m, Rs.ofO (frz 4 m S.enc) = .ok S.enc := fun S m => by rw [frz_pu (stand_pu S)]; rfl
  simp only [f_ticked, bodyP, bodyI, s_ticked, startS]
  cases hw : R.leeway with
  | none => simp [i3, hw, encO, endF, fin, Rule.tick]
  | some l =>
    cases ho : st.over with
    | true => simp [i3, hw, encO, endF, fin, Rule.tick, j0, ho]
    | false =>
      have lc : ∀ (sl : Sl) (m : Mm), sl[2]? = some (some (.int l)) → 3 < sl.length → lcL (gName 3) tYes (eN fMin (aCons (eN fInt (aCons (e2 oAdd (eVar 3) (eC (.int 1))) aNil)) (aCons (eN fInt (aCons (e2 oAdd (eVar 2) (eC (.int 1))) aNil)) aNil))) sl (st.ages.map .int) m [] = .ok ((st.ages.map fun a => if l + 1 < a + 1 then l + 1 else a + 1).map .int, m) := fun sl m h2 h3 => by
        have := lc_map (m := m) (g := gName 3) (e := eN fMin (aCons (eN fInt (aCons (e2 oAdd (eVar 3) (eC (.int 1))) aNil)) (aCons (eN fInt (aCons (e2 oAdd (eVar 2) (eC (.int 1))) aNil)) aNil))) (s := sl) (fun v => match v with | .int a => .int (if l + 1 < a + 1 then l + 1 else a + 1) | v => v) (st.ages.map .int) [] (fun x hx => by
          obtain ⟨a, _, rfl⟩ := List.mem_map.mp hx
          refine ⟨sl.set 3 (some (.int a)), rfl, ?_⟩
          have e3 : (sl.set 3 (some (PV.int a)))[3]? = some (some (.int a)) := List.getElem?_set_self h3
          have e2 : (sl.set 3 (some (PV.int a)))[2]? = some (some (.int l)) := by rw [List.getElem?_set_ne (by decide)]; exact h2
          simp [e3, e2]) (by simp only [List.length_nil, List.length_map]; exact Nat.le_trans (by omega : 0 + st.ages.length ≤ 10) (by decide))
        rw [this]
        simp
      simp [i3, hw, encO, endF, Rule.tick, j0, j1, j2, j3, j4, ho, eLc_ap, wipe, lc]
      simp [Stand.enc, Stand.items, frz_pu, pus_comp]
end TT
end

section
set_option linter.all false
set_option autoImplicit false
namespace TT
theorem rule_is {R : Rule} (ok : R.Ok) : f_is_rule [R.enc] = .ok (.bl true) := by
  obtain ⟨keep, new, strict, leeway, spare, every, fin⟩ := R
  obtain ⟨⟨a0, a1⟩, b, c, ⟨d0, d1⟩⟩ := ok
  simp only at a0 a1 b c d0 d1
  have c0 : ∀ m, cP f_is_choice [.int keep, .tup [.int 0, .int 1, .int 2]] m = .ok (.bl true, m) := fun m => by
    have : keep = 0 ∨ keep = 1 ∨ keep = 2 := by omega
    rcases this with rfl | rfl | rfl <;> rfl
  have c1 : ∀ m, cP f_is_choice [.str (if new then sNew else sSame), .tup [.str [110, 101, 119], .str [115, 97, 109, 101]]] m = .ok (.bl true, m) := fun m => by
    cases new <;> rfl
  have c2 : ∀ m, cP f_is_choice [.bl strict, .tup [.bl false, .bl true]] m = .ok (.bl true, m) := fun m => by
    cases strict <;> rfl
  have cO : ∀ (o : Option Int), (o = none ∨ ∃ i, o = some i ∧ 0 ≤ i ∧ i ≤ 2) → ∀ m, cP f_is_choice [encO o, .tup [.non, .int 0, .int 1, .int 2]] m = .ok (.bl true, m) := fun o h m => by
    rcases h with rfl | ⟨i, rfl, h0, h1⟩
    · rfl
    · have : i = 0 ∨ i = 1 ∨ i = 2 := by omega
      rcases this with rfl | rfl | rfl <;> rfl
  have c3 := cO leeway b
  have c4 := cO spare c
  have c5 : ∀ m, cP f_is_choice [.int every, .tup [.int 1, .int 2, .int 3]] m = .ok (.bl true, m) := fun m => by
    have : every = 1 ∨ every = 2 ∨ every = 3 := by omega
    rcases this with rfl | rfl | rfl <;> rfl
  have c6 : ∀ m, cP f_is_choice [.str (if fin then sEnd else sRefuse), .tup [.str [101, 110, 100], .str [114, 101, 102, 117, 115, 101]]] m = .ok (.bl true, m) := fun m => by
    cases fin <;> rfl
  generalize encO leeway = ol at c3
  simp only [f_is_rule, bodyP, bodyI, s_is_rule, startS, Rule.enc, Rule.parts]
  simp [oIsA, isA, c_PARTS, c_CHOICES, eLc_ap, zipP, lcL, wipe, LINE, c0, c1, c2, cO leeway b, c4, c5, c6, fAll, bools, endF]
theorem need_rule_ok {R : Rule} (ok : R.Ok) (m : Mm) : cP f_need_rule [R.enc] m = .ok (.non, m) := by
  have hi : ∀ m, cP f_is_rule [R.enc] m = .ok (.bl true, m) := fun m => by simp [cP, enc_pu, rule_is ok]
  have : f_need_rule [R.enc] = .ok .non := by
    simp [f_need_rule, bodyP, bodyI, s_need_rule, startS, hi, endF]
  unfold cP
  rw [if_pos (by simp [enc_pu]), this]
end TT
end

section
set_option linter.all false
set_option autoImplicit false
namespace TT
/-! ### a alone, by the program: a stand, how old a's token is, how old that of a late answer is -/
structure An where
  stand : Stand
  old : Int
  wait : Option Int
  deriving DecidableEq
def An.enc (n : An) : PV := .tup [n.stand.enc, .int n.old, encO n.wait]
inductive AEv where
  | ask | drop | late | got | tick
  deriving DecidableEq
def AEv.code : AEv → List Nat
  | .ask => [33]
  | .drop => [45]
  | .late => [126]
  | .got => [43]
  | .tick => [46, 46]
def AEv.enc (e : AEv) : PV := .str e.code
def cutO (R : Rule) (x : Int) : Int := if R.keep + 1 < x + 1 then R.keep + 1 else x + 1
def oldI (R : Rule) (x : Int) : Rule.Kind → Int
  | .made => cutO R x
  | _ => x
def oldO (R : Rule) (o : Option Int) (k : Rule.Kind) : Option Int := o.map fun x => oldI R x k
def askA (R : Rule) (n : An) (f : Int → Option Int → Int × Option Int) : Bool × An := match R.req n.stand n.old with
  | (st, .refused) => (true, ⟨st, n.old, n.wait⟩)
  | (st, k) => (false, ⟨st, (f (oldI R n.old k) (oldO R n.wait k)).1, (f (oldI R n.old k) (oldO R n.wait k)).2⟩)
def aloneN (R : Rule) (n : An) : AEv → Bool × An
  | .tick => (false, ⟨R.tick n.stand, n.old, n.wait⟩)
  | .got => (false, ⟨n.stand, n.wait.getD n.old, none⟩)
  | .ask => askA R n fun _ y => (0, y)
  | .drop => askA R n fun x y => (x, y)
  | .late => askA R n fun x _ => (x, some 0)
structure AOk (R : Rule) (n : An) : Prop where
  al : ∀ l, R.leeway = some l → (n.stand.ages.length : Int) = R.keep
  a0 : n.stand.ages.length ≤ 2
  m0 : 0 ≤ n.old
  o0 : ∀ o, n.wait = some o → 0 ≤ o
theorem encO_pu (o : Option Int) : (encO o).pu = true := by cases o <;> rfl
theorem an_pu (n : An) : n.enc.pu = true := by simp [An.enc, stand_pu, encO_pu]
theorem older_ok (R : Rule) (o : Option Int) (k : Rule.Kind) (m : Mm) : cP f_older [R.enc, encO o, .str k.code] m = .ok (encO (oldO R o k), m) := by
  have i0 : ∀ m, oIx R.enc (.int 0) m = .ok (.int R.keep, m) := fun m => rfl
  have : f_older [R.enc, encO o, .str k.code] = .ok (encO (oldO R o k)) := by
    cases o with
    | none => simp [f_older, bodyP, bodyI, s_older, startS, encO, endF, oldO]
    | some x =>
      cases k <;> simp [f_older, bodyP, bodyI, s_older, startS, encO, endF, oldO, oldI, cutO, Rule.Kind.code, i0]
  unfold cP
  rw [if_pos (by simp [enc_pu, encO_pu]), this]
theorem older_int (R : Rule) (x : Int) (k : Rule.Kind) (m : Mm) : cP f_older [R.enc, .int x, .str k.code] m = .ok (.int (oldI R x k), m) := older_ok R (some x) k m
theorem req_a {R : Rule} (ok : R.Ok) {n : An} (h : AOk R n) (m : Mm) : cP f_requested [R.enc, n.stand.enc, .int n.old] m = .ok (.tup [(R.req n.stand n.old).1.enc, .str (R.req n.stand n.old).2.code], m) := by
  have := req_ok (R := R) (st := n.stand) (o := n.old) ok (by have := h.a0; omega) (fun _ b c l hl => by have := h.al l hl; have := h.m0; omega)
  unfold cP
  rw [if_pos (by simp [enc_pu, stand_pu]), this]
set_option maxHeartbeats 4000000 in
theorem alone_ok {R : Rule} (ok : R.Ok) {n : An} (h : AOk R n) (e : AEv) : f_alone [R.enc, n.enc, e.enc] = .ok (.tup [.bl (aloneN R n e).1, (aloneN R n e).2.enc]) := by
  have tk : ∀ m, cP f_ticked [R.enc, n.stand.enc] m = .ok ((R.tick n.stand).enc, m) := fun m => by
    have := tick_ok (R := R) (st := n.stand) (by have := h.a0; omega)
    simp [cP, enc_pu, stand_pu, this]
  have fz2 : ∀ (c : Bool) (S : Stand) (a : Int) (b : PV) m, b.pu = true → frz 4 m (.tup [.bl c, .tup [S.enc, .int a, b]]) = some (.tup [.bl c, .tup [S.enc, .int a, b]]) := fun c S a b m hb => frz_pu (by simp [stand_pu, hb])
  have a := req_a ok h
  obtain ⟨st, mine, other⟩ := n
  simp only at a tk
  cases e with
  | tick => simp [f_alone, bodyP, bodyI, s_alone, startS, An.enc, AEv.enc, AEv.code, aloneN, tk, endF, fz2, encO_pu]
  | got =>
    cases other with
    | none =>
      simp [f_alone, bodyP, bodyI, s_alone, startS, An.enc, AEv.enc, AEv.code, aloneN, endF, encO]
      rw [fz2 _ _ _ _ _ rfl]; rfl
    | some o =>
      simp [f_alone, bodyP, bodyI, s_alone, startS, An.enc, AEv.enc, AEv.code, aloneN, endF, encO]
      rw [fz2 _ _ _ _ _ rfl]; rfl
  | _ =>
    all_goals
      unfold aloneN askA
      simp only
      generalize R.req st mine = q at a ⊢
      obtain ⟨S, k⟩ := q
      have p1 := fun m => older_int R mine k m
      have p2 := fun m => older_ok R other k m
      cases k <;> simp only [Rule.Kind.code] at a p1 p2 <;> simp [f_alone, bodyP, bodyI, s_alone, startS, An.enc, AEv.enc, AEv.code, a, p1, p2, endF, fz2, encO_pu]
      all_goals first
        | done
        | (rw [fz2 _ _ _ _ _ rfl]; rfl)
theorem tick_al {R : Rule} {st : Stand} : (R.tick st).ages.length = st.ages.length := by
  unfold Rule.tick
  cases R.leeway with
  | none => rfl
  | some l => by_cases ho : st.over = true <;> simp [ho]
theorem withTok_al {R : Rule} {lead sp co : Int} {ages : List Int} : (R.withTok lead ages sp co).ages.length = ages.length := by
  simp [Rule.withTok]
theorem req_al {R : Rule} {st : Stand} {o : Int} : (R.req st o).1.ages.length = st.ages.length := by
  unfold Rule.req
  split
  · split
    · split <;> exact withTok_al
    · by_cases hn : R.new = true <;> simp [hn, withTok_al]
  · rfl
theorem first_al {R : Rule} (ok : R.Ok) : (∀ l, R.leeway = some l → (R.first.ages.length : Int) = R.keep) ∧ R.first.ages.length ≤ 2 := by
  obtain ⟨keep, new, strict, leeway, spare, every, fin⟩ := R
  obtain ⟨⟨a0, a1⟩, b, c, ⟨d0, d1⟩⟩ := ok
  simp only at a0 a1
  cases leeway with
  | none => exact ⟨fun l hl => (nomatch hl), by simp [Rule.first]⟩
  | some l => exact ⟨fun l hl => by simp [Rule.first]; omega, by simp [Rule.first]; omega⟩
theorem oldI_nn {R : Rule} (ok : R.Ok) {x : Int} (h : 0 ≤ x) (k : Rule.Kind) : 0 ≤ oldI R x k := by
  have := ok.keep.1
  cases k <;> simp only [oldI, cutO] <;> first | exact h | (split <;> omega)
theorem AOk.next {R : Rule} (ok : R.Ok) {n : An} (h : AOk R n) (e : AEv) : AOk R (aloneN R n e).2 := by
  have ask : ∀ f : Int → Option Int → Int × Option Int, (∀ x y, 0 ≤ x → (∀ o, y = some o → 0 ≤ o) → 0 ≤ (f x y).1 ∧ ∀ o, (f x y).2 = some o → 0 ≤ o) → AOk R (askA R n f).2 := fun f hf => by
    have al := req_al (R := R) (st := n.stand) (o := n.old)
    unfold askA
    generalize hq : R.req n.stand n.old = q at al
    obtain ⟨S, k⟩ := q
    have hf2 := hf (oldI R n.old k) (oldO R n.wait k) (oldI_nn ok h.m0 k) (fun o ho => by
      unfold oldO at ho
      cases hw : n.wait with
      | none => rw [hw] at ho; cases ho
      | some w =>
        rw [hw] at ho
        cases ho
        exact oldI_nn ok (h.o0 w hw) k)
    simp only at al
    cases k with
    | refused => exact ⟨fun l hl => by rw [al]; exact h.al l hl, by rw [al]; exact h.a0, h.m0, h.o0⟩
    | made => exact ⟨fun l hl => by rw [al]; exact h.al l hl, by rw [al]; exact h.a0, hf2.1, hf2.2⟩
    | newest => exact ⟨fun l hl => by rw [al]; exact h.al l hl, by rw [al]; exact h.a0, hf2.1, hf2.2⟩
  cases e with
  | tick => exact ⟨fun l hl => by show ((R.tick n.stand).ages.length : Int) = _; rw [tick_al]; exact h.al l hl, by show (R.tick n.stand).ages.length ≤ 2; rw [tick_al]; exact h.a0, h.m0, h.o0⟩
  | got =>
    refine ⟨h.al, h.a0, ?_, fun o ho => nomatch ho⟩
    show 0 ≤ n.wait.getD n.old
    cases hw : n.wait with
    | none => exact h.m0
    | some w => exact h.o0 w hw
  | ask => exact ask _ fun x y hx hy => ⟨Int.le_refl _, hy⟩
  | drop => exact ask _ fun x y hx hy => ⟨hx, hy⟩
  | late => exact ask _ fun x y hx hy => ⟨hx, fun o ho => by cases ho; exact Int.le_refl _⟩
def firstA (R : Rule) : An := ⟨R.first, 0, none⟩
theorem firstA_ok {R : Rule} (ok : R.Ok) : AOk R (firstA R) := ⟨(first_al ok).1, (first_al ok).2, Int.le_refl _, fun o ho => nomatch ho⟩
theorem first_node_ok {R : Rule} (ok : R.Ok) (m : Mm) : cP f_first_node [R.enc] m = .ok ((firstA R).enc, m) := by
  have f1 : ∀ m, cP f_first_stand [R.enc] m = .ok (R.first.enc, m) := fun m => by simp [cP, enc_pu, first_ok ok]
  have : f_first_node [R.enc] = .ok (firstA R).enc := by
    simp [f_first_node, bodyP, bodyI, s_first_node, startS, f1, endF, firstA, An.enc, encO]
    rw [frz_pu (by simp [stand_pu])]; rfl
  unfold cP
  rw [if_pos (by simp [enc_pu]), this]
/-! keys -/
theorem eqv_ints : ∀ (xs ys : List Int), PV.eqvs (xs.map .int) (ys.map .int) = decide (xs = ys)
  | [], [] => rfl
  | [], _ :: _ => by simp [PV.eqvs]
  | _ :: _, [] => by simp [PV.eqvs]
  | x :: xs, y :: ys => by simp only [List.map_cons, PV.eqvs, PV.eqv, eqv_ints xs ys, List.cons.injEq]; by_cases h : x = y <;> simp [h]
theorem eqv_stand (a b : Stand) : PV.eqv a.enc b.enc = decide (a = b) := by
  obtain ⟨a1, a2, a3, a4, a5⟩ := a
  obtain ⟨b1, b2, b3, b4, b5⟩ := b
  simp only [Stand.enc, Stand.items, PV.eqv, PV.eqvs, eqv_ints, Stand.mk.injEq]
  rw [Bool.eq_iff_iff]
  simp
theorem eqv_encO (a b : Option Int) : PV.eqv (encO a) (encO b) = decide (a = b) := by
  cases a <;> cases b <;> simp [encO, PV.eqv]
  rw [Bool.eq_iff_iff]; simp
theorem eqv_an (a b : An) : PV.eqv a.enc b.enc = decide (a = b) := by
  obtain ⟨a1, a2, a3⟩ := a
  obtain ⟨b1, b2, b3⟩ := b
  simp only [An.enc, PV.eqv, PV.eqvs, eqv_stand, eqv_encO, An.mk.injEq]
  rw [Bool.eq_iff_iff]
  simp
theorem ints_ky : ∀ (xs : List Int) (n : Nat), (xs.map PV.int).all (PV.ky n) = true
  | [], _ => rfl
  | x :: xs, n => by
    rw [List.map_cons, List.all_cons, ints_ky xs n]
    cases n <;> rfl
theorem encO_ky (o : Option Int) (n : Nat) : (encO o).ky n = true := by cases o <;> cases n <;> rfl
theorem an_ky (a : An) : a.enc.ky 8 = true := by
  simp [An.enc, Stand.enc, Stand.items, PV.ky, ints_ky, encO_ky]
end TT
end

section
set_option linter.all false
set_option autoImplicit false
namespace TT
/-! ### bounds of stands: they are finitely many -/
structure StBd (R : Rule) (s : Stand) : Prop where
  l0 : 0 ≤ s.lead
  l1 : s.lead ≤ R.keep + 1
  al : s.ages.length ≤ 2
  ag : ∀ a ∈ s.ages, 0 ≤ a ∧ a ≤ 3
  sp : 0 ≤ s.spared ∧ s.spared ≤ 2
  co : 0 ≤ s.counted ∧ s.counted ≤ 2
theorem bd_first {R : Rule} (ok : R.Ok) : StBd R R.first := by
  obtain ⟨keep, new, strict, leeway, spare, every, fin⟩ := R
  obtain ⟨⟨a0, a1⟩, b, c, ⟨d0, d1⟩⟩ := ok
  simp only at a0 a1 b c d0 d1
  refine ⟨?_, ?_, ?_, ?_, ?_, ?_⟩
  · show (0 : Int) ≤ if strict = true then 1 else 0
    split <;> omega
  · show (if strict = true then (1 : Int) else 0) ≤ keep + 1
    split <;> omega
  · cases leeway with
    | none => exact Nat.zero_le _
    | some l => simp [Rule.first]; omega
  · intro x hx
    rcases b with b | ⟨i, b, b0, b1⟩
    · subst b; simp [Rule.first] at hx
    · subst b
      simp [Rule.first] at hx
      omega
  · rcases c with c | ⟨i, c, c0, c1⟩ <;> subst c
    · exact ⟨Int.le_refl _, by show (0 : Int) ≤ 2; decide⟩
    · exact ⟨c0, c1⟩
  · exact ⟨Int.le_refl _, by show (0 : Int) ≤ 2; decide⟩
theorem bd_tick {R : Rule} (ok : R.Ok) {s : Stand} (h : StBd R s) : StBd R (R.tick s) := by
  unfold Rule.tick
  cases hl : R.leeway with
  | none => exact h
  | some l =>
    have hb : 0 ≤ l ∧ l ≤ 2 := by
      rcases ok.leeway with c | ⟨i, c, c0, c1⟩
      · rw [hl] at c; cases c
      · rw [hl] at c; cases c; exact ⟨c0, c1⟩
    by_cases ho : s.over = true
    · simp only [ho, if_true]; exact h
    · show StBd R (if s.over = true then s else _)
      rw [if_neg ho]
      refine ⟨h.l0, h.l1, by show (s.ages.map _).length ≤ 2; rw [List.length_map]; exact h.al, fun x hx => ?_, h.sp, h.co⟩
      obtain ⟨y, hy, rfl⟩ := List.mem_map.mp (show x ∈ s.ages.map _ from hx)
      have := h.ag y hy
      split <;> omega
theorem bd_withTok {R : Rule} (ok : R.Ok) {lead sp co : Int} {ages : List Int} (l0 : 0 ≤ lead) (al : ages.length ≤ 2) (ag : ∀ a ∈ ages, 0 ≤ a ∧ a ≤ 3) (hs : 0 ≤ sp ∧ sp ≤ 2) (hc : 0 ≤ co ∧ co ≤ 2) : StBd R (R.withTok lead ages sp co) := by
  have := ok.keep.1
  refine ⟨?_, ?_, by rw [withTok_al]; exact al, fun x hx => ?_, hs, hc⟩
  · show 0 ≤ if R.strict = true then (if R.keep + 1 < lead + 1 then R.keep + 1 else lead + 1) else 0
    split
    · split <;> omega
    · omega
  · show (if R.strict = true then (if R.keep + 1 < lead + 1 then R.keep + 1 else lead + 1) else 0) ≤ R.keep + 1
    split
    · split <;> omega
    · omega
  · have hx : x ∈ (0 :: ages).take ages.length := hx
    rcases List.mem_cons.mp (List.mem_of_mem_take hx) with rfl | hm
    · omega
    · exact ag x hm
theorem bd_req {R : Rule} (ok : R.Ok) {s : Stand} (h : StBd R s) {o : Int} (o0 : 0 ≤ o) : StBd R (R.req s o).1 := by
  have hsp : ∀ p, R.spare = some p → 0 ≤ p ∧ p ≤ 2 := fun p hp => by
    rcases ok.spare with c | ⟨i, c, c0, c1⟩
    · rw [hp] at c; cases c
    · rw [hp] at c; cases c; exact ⟨c0, c1⟩
  have he := ok.every
  unfold Rule.req
  split
  · rename_i hg
    split
    · cases hs : R.spare with
      | none => exact bd_withTok ok (Int.le_refl _) h.al h.ag h.sp h.co
      | some p =>
        have hp := hsp p hs
        have m0 := Int.emod_nonneg (s.counted + 1) (show R.every ≠ 0 by omega)
        have m1 := Int.emod_lt_of_pos (s.counted + 1) (show 0 < R.every by omega)
        refine bd_withTok ok (Int.le_refl _) h.al h.ag ?_ ⟨m0, by omega⟩
        have hb : 0 ≤ b2i ((s.counted + 1) % R.every == 0) := by unfold b2i; split <;> omega
        have := h.sp
        split <;> omega
    · rename_i ho
      have hl : 0 ≤ (if o < s.lead then o else s.lead) ∧ (if o < s.lead then o else s.lead) ≤ R.keep + 1 := by
        have := h.l0; have := h.l1
        split <;> omega
      have hq : 0 ≤ (match R.spare with | none => (0 : Int) | some _ => s.spared - 1) ∧ (match R.spare with | none => (0 : Int) | some _ => s.spared - 1) ≤ 2 := by
        cases hs : R.spare with
        | none => exact ⟨Int.le_refl _, by show (0 : Int) ≤ 2; decide⟩
        | some p =>
          have : 0 < s.spared := by
            unfold Rule.good at hg
            have hne : (o == 0) = false := beq_eq_false_iff_ne.mpr ho
            rw [hs, hne] at hg
            simp at hg
            exact hg.2.2
          have := h.sp
          show 0 ≤ s.spared - 1 ∧ s.spared - 1 ≤ 2
          omega
      by_cases hn : R.new = true
      · simp only [hn, if_true]
        exact bd_withTok ok hl.1 h.al h.ag hq h.co
      · simp only [hn, if_neg (show ¬ (false = true) from by decide)]
        exact ⟨hl.1, hl.2, h.al, h.ag, hq, h.co⟩
  · exact ⟨h.l0, h.l1, h.al, h.ag, h.sp, h.co⟩
/-- bounds of a node -/
structure ABd (R : Rule) (n : An) : Prop where
  st : StBd R n.stand
  o : 0 ≤ n.old ∧ n.old ≤ 3
  w : ∀ x, n.wait = some x → 0 ≤ x ∧ x ≤ 3
theorem oldI_bd {R : Rule} (ok : R.Ok) {x : Int} (h : 0 ≤ x ∧ x ≤ 3) (k : Rule.Kind) : 0 ≤ oldI R x k ∧ oldI R x k ≤ 3 := by
  have := ok.keep
  cases k <;> simp only [oldI, cutO] <;> first | exact h | (split <;> omega)
theorem ABd.next {R : Rule} (ok : R.Ok) {n : An} (h : ABd R n) (e : AEv) : ABd R (aloneN R n e).2 := by
  have ask : ∀ f : Int → Option Int → Int × Option Int, (∀ x y, (0 ≤ x ∧ x ≤ 3) → (∀ o, y = some o → 0 ≤ o ∧ o ≤ 3) → (0 ≤ (f x y).1 ∧ (f x y).1 ≤ 3) ∧ ∀ o, (f x y).2 = some o → 0 ≤ o ∧ o ≤ 3) → ABd R (askA R n f).2 := fun f hf => by
    have al := bd_req ok h.st (o := n.old) h.o.1
    unfold askA
    generalize hq : R.req n.stand n.old = q at al
    obtain ⟨S, k⟩ := q
    have hf2 := hf (oldI R n.old k) (oldO R n.wait k) (oldI_bd ok h.o k) (fun o ho => by
      unfold oldO at ho
      cases hw : n.wait with
      | none => rw [hw] at ho; cases ho
      | some w =>
        rw [hw] at ho
        cases ho
        exact oldI_bd ok (h.w w hw) k)
    cases k with
    | refused => exact ⟨al, h.o, h.w⟩
    | made => exact ⟨al, hf2.1, hf2.2⟩
    | newest => exact ⟨al, hf2.1, hf2.2⟩
  cases e with
  | tick => exact ⟨bd_tick ok h.st, h.o, h.w⟩
  | got =>
    refine ⟨h.st, ?_, fun o ho => nomatch ho⟩
    show 0 ≤ n.wait.getD n.old ∧ n.wait.getD n.old ≤ 3
    cases hw : n.wait with
    | none => exact h.o
    | some w => exact h.w w hw
  | ask => exact ask _ fun x y hx hy => ⟨by show (0 : Int) ≤ 0 ∧ (0 : Int) ≤ 3; decide, hy⟩
  | drop => exact ask _ fun x y hx hy => ⟨hx, hy⟩
  | late => exact ask _ fun x y hx hy => ⟨hx, fun o ho => by cases ho; decide⟩
theorem abd_first {R : Rule} (ok : R.Ok) : ABd R (firstA R) := ⟨bd_first ok, by show (0 : Int) ≤ 0 ∧ (0 : Int) ≤ 3; decide, fun o ho => nomatch ho⟩
/-! all of them -/
def i4 : List Int := [0, 1, 2, 3]
def i3 : List Int := [0, 1, 2]
def agU : List (List Int) := [] :: (i4.map fun a => [a]) ++ (i4.flatMap fun a => i4.map fun b => [a, b])
def waU : List (Option Int) := none :: i4.map some
def stU : List Stand := [false, true].flatMap fun ov => i4.flatMap fun la => agU.flatMap fun ag => i3.flatMap fun sp => i3.map fun co => ⟨ov, la, ag, sp, co⟩
def anU : List An := stU.flatMap fun st => i4.flatMap fun o => waU.map fun w => ⟨st, o, w⟩
theorem flat_le {α β : Type} (f : α → List β) (n : Nat) : ∀ xs : List α, (∀ x, (f x).length ≤ n) → (xs.flatMap f).length ≤ xs.length * n
  | [], _ => by simp
  | x :: xs, h => by
    have := flat_le f n xs h
    have := h x
    simp only [List.flatMap_cons, List.length_append, List.length_cons, Nat.add_mul, Nat.one_mul]
    omega
theorem anU_le : anU.length ≤ 100000 := by
  have h1 : ∀ ov la ag sp, (i3.map fun co => (⟨ov, la, ag, sp, co⟩ : Stand)).length ≤ 3 := fun _ _ _ _ => by simp [i3]
  have h2 : ∀ ov la ag, (i3.flatMap fun sp => i3.map fun co => (⟨ov, la, ag, sp, co⟩ : Stand)).length ≤ 9 := fun ov la ag => flat_le _ 3 i3 fun sp => h1 ov la ag sp
  have h3 : ∀ ov la, (agU.flatMap fun ag => i3.flatMap fun sp => i3.map fun co => (⟨ov, la, ag, sp, co⟩ : Stand)).length ≤ 189 := fun ov la => flat_le _ 9 agU fun ag => h2 ov la ag
  have h4 : ∀ ov, (i4.flatMap fun la => agU.flatMap fun ag => i3.flatMap fun sp => i3.map fun co => (⟨ov, la, ag, sp, co⟩ : Stand)).length ≤ 756 := fun ov => flat_le _ 189 i4 fun la => h3 ov la
  have h5 : stU.length ≤ 1512 := flat_le _ 756 [false, true] fun ov => h4 ov
  have h6 : ∀ st : Stand, (i4.flatMap fun o => waU.map fun w => (⟨st, o, w⟩ : An)).length ≤ 20 := fun st => flat_le _ 5 i4 fun o => by simp [waU, i4]
  have := flat_le (fun st => i4.flatMap fun o => waU.map fun w => (⟨st, o, w⟩ : An)) 20 stU h6
  exact Nat.le_trans this (by omega)
theorem mem_i4 {x : Int} (h : 0 ≤ x ∧ x ≤ 3) : x ∈ i4 := by
  have : x = 0 ∨ x = 1 ∨ x = 2 ∨ x = 3 := by omega
  rcases this with rfl | rfl | rfl | rfl <;> decide
theorem mem_i3 {x : Int} (h : 0 ≤ x ∧ x ≤ 2) : x ∈ i3 := by
  have : x = 0 ∨ x = 1 ∨ x = 2 := by omega
  rcases this with rfl | rfl | rfl <;> decide
theorem mem_anU {R : Rule} (ok : R.Ok) {n : An} (h : ABd R n) : n ∈ anU := by
  obtain ⟨⟨ov, la, ag, sp, co⟩, o, w⟩ := n
  obtain ⟨⟨s1, s2, s3, s4, s5, s6⟩, h2, h3⟩ := h
  simp only at s1 s2 s3 s4 s5 s6 h2 h3
  have := ok.keep
  refine List.mem_flatMap.mpr ⟨⟨ov, la, ag, sp, co⟩, ?_, List.mem_flatMap.mpr ⟨o, mem_i4 h2, List.mem_map.mpr ⟨w, ?_, rfl⟩⟩⟩
  · refine List.mem_flatMap.mpr ⟨ov, by cases ov <;> decide, List.mem_flatMap.mpr ⟨la, mem_i4 ⟨s1, by omega⟩, List.mem_flatMap.mpr ⟨ag, ?_, List.mem_flatMap.mpr ⟨sp, mem_i3 s5, List.mem_map.mpr ⟨co, mem_i3 s6, rfl⟩⟩⟩⟩⟩
    match ag, s3, s4 with
    | [], _, _ => exact List.mem_cons_self
    | [a], _, s4 => exact List.mem_cons_of_mem _ (List.mem_append_left _ (List.mem_map.mpr ⟨a, mem_i4 (s4 a (by simp)), rfl⟩))
    | [a, b], _, s4 => exact List.mem_cons_of_mem _ (List.mem_append_right _ (List.mem_flatMap.mpr ⟨a, mem_i4 (s4 a (by simp)), List.mem_map.mpr ⟨b, mem_i4 (s4 b (by simp)), rfl⟩⟩))
    | a :: b :: c :: r, s3, _ => simp at s3
  · cases w with
    | none => exact List.mem_cons_self
    | some x => exact List.mem_cons_of_mem _ (List.mem_map.mpr ⟨x, mem_i4 (h3 x rfl), rfl⟩)
theorem nodup_len : ∀ {L U : List An}, L.Nodup → (∀ x ∈ L, x ∈ U) → L.length ≤ U.length
  | [], _, _, _ => Nat.zero_le _
  | a :: L, U, nd, h => by
    have ha := h a List.mem_cons_self
    obtain ⟨n1, n2⟩ := List.nodup_cons.mp nd
    have := nodup_len (L := L) (U := U.erase a) n2 (fun x hx => (List.mem_erase_of_ne (fun z => n1 (by rw [← z]; exact hx))).mpr (h x (List.mem_cons_of_mem _ hx)))
    rw [List.length_erase_of_mem ha] at this
    have hp : 0 < U.length := List.length_pos_of_mem ha
    simp only [List.length_cons]
    omega
theorem few {R : Rule} (ok : R.Ok) {L : List An} (nd : L.Nodup) (h : ∀ x ∈ L, ABd R x) : L.length ≤ 100000 := Nat.le_trans (nodup_len nd fun x hx => mem_anU ok (h x hx)) anU_le
end TT
end

section
set_option linter.all false
set_option autoImplicit false
namespace TT
/-! ### fewest faults, by the program -/
def movedA (R : Rule) (c : Bool) (n : An) (e : AEv) : An := if (c && decide (e = .ask)) = true then { (aloneN R n e).2 with wait := none } else (aloneN R n e).2
def safeE : List AEv := [.ask, .got, .tick]
def faultE : List AEv := [.drop, .late]
def grP (R : Rule) (c : Bool) : Gr An := ⟨firstA R, fun n => safeE.map (movedA R c n), fun n => faultE.map (movedA R c n), fun n => (aloneN R n .ask).1⟩
structure PN (R : Rule) (n : An) : Prop where
  ao : AOk R n
  bd : ABd R n
theorem pn_first {R : Rule} (ok : R.Ok) : PN R (firstA R) := ⟨firstA_ok ok, abd_first ok⟩
theorem pn_moved {R : Rule} (ok : R.Ok) (c : Bool) {n : An} (h : PN R n) (e : AEv) : PN R (movedA R c n e) := by
  have a := h.ao.next ok e
  have b := h.bd.next ok e
  unfold movedA
  split
  · exact ⟨⟨a.al, a.a0, a.m0, fun o ho => nomatch ho⟩, ⟨b.st, b.o, fun o ho => nomatch ho⟩⟩
  · exact ⟨a, b⟩
theorem alone_c {R : Rule} (ok : R.Ok) {n : An} (h : AOk R n) (e : AEv) (m : Mm) : cP f_alone [R.enc, n.enc, e.enc] m = .ok (.tup [.bl (aloneN R n e).1, (aloneN R n e).2.enc], m) :=
  cP_ok (by simp [enc_pu, an_pu, AEv.enc]) (alone_ok ok h e)
theorem moved_ok {R : Rule} (ok : R.Ok) (c : Bool) {n : An} (h : PN R n) (e : AEv) (m : Mm) : cP f_moved [R.enc, n.enc, e.enc, .bl c] m = .ok ((movedA R c n e).enc, m) := by
  refine cP_ok (by simp [enc_pu, an_pu, AEv.enc]) ?_
  have al := fun m => alone_c ok h.ao e m
  unfold movedA
  generalize aloneN R n e = q at al
  obtain ⟨r, k⟩ := q
  simp only at al
  have sl : ∀ m, oSlice none (some 2) k.enc m = .ok (.tup [k.stand.enc, .int k.old], m) := fun m => rfl
  have ad : ∀ m, oAdd (.tup [k.stand.enc, .int k.old]) (.tup [.non]) m = .ok (An.enc { k with wait := none }, m) := fun m => by
    simp [oAdd, look1, LINE, An.enc, encO]
  have ix : ∀ m, oIx (.tup [.bl r, k.enc]) (.int 1) m = .ok (k.enc, m) := fun m => rfl
  have fz : ∀ k : An, ∀ m, frz 4 m k.enc = some k.enc := fun k m => frz_pu (an_pu k)
  have ex : ∀ m, oEq e.enc (.str [33]) m = .ok (.bl (decide (e = .ask)), m) := fun m => by
    cases e <;> rfl
  cases c with
  | false => simp [f_moved, bodyP, bodyI, s_moved, startS, al, ix, endF, fz]
  | true =>
    by_cases he : e = .ask
    · subst he
      simp [f_moved, bodyP, bodyI, s_moved, startS, al, ix, ex, sl, ad, endF, fz]
    · simp [f_moved, bodyP, bodyI, s_moved, startS, al, ix, ex, he, endF, fz]
def encK (K : List An) : List (PV × PV) := K.map fun n => (n.enc, .bl true)
theorem khas_an (K : List An) (n : An) : kHas (encK K) n.enc = decide (n ∈ K) := by
  unfold kHas encK
  rw [List.any_map, Bool.eq_iff_iff, List.any_eq_true, decide_eq_true_eq]
  constructor
  · rintro ⟨q, hq, e⟩
    simp only [Function.comp, eqv_an, decide_eq_true_eq] at e
    subst e; exact hq
  · intro h
    exact ⟨n, h, by simp [Function.comp, eqv_an]⟩
theorem kput_an {K : List An} {n : An} (h : ¬ n ∈ K) : kPut (encK K) n.enc (.bl true) = encK (K ++ [n]) := by
  unfold kPut
  rw [khas_an, if_neg (by simpa using h)]
  simp [encK]
theorem keys_an (K : List An) : (encK K).map (·.1) = K.map An.enc := by unfold encK; rw [List.map_map]; rfl
def spT : ST := (tV (e2 oLt (eVar 6) (eN fLen (aCons (eVar 4) aNil))))
def spA : SS := (sExpr (eM .list mAppend (eVar 4) (aCons (eN (cP f_moved) (aCons (eVar 0) (aCons (eVar 7) (aCons (eVar 8) (aCons (eVar 1) aNil))))) aNil)))
def spB : SS := (sSeq (sAsg (e2 oIx (eVar 4) (eVar 6)) (TT.gName 7))
  (sSeq (sAsg (e2 oAdd (eVar 6) (eC (.int 1))) (TT.gName 6))
  (sSeq (sIf (tOr (tV (e2 (oKIn2 false) (eVar 7) (eVar 2))) (tV (e2 (oKIn2 false) (eVar 7) (eVar 5)))) sCont sSkip)
  (sSeq (sAsg (eC (.bl true)) (gKSub (eVar 5) (eVar 7)))
  (sSeq (sIf (tT (e2 oIx (eN (cP f_alone) (aCons (eVar 0) (aCons (eVar 7) (aCons (eC (.str [33])) aNil)))) (eC (.int 0)))) (sRet (eTup (aCons (eVar 5) (aCons (eC (.bl true)) aNil)))) sSkip)
  (sFor (iT (eC c_SAFE)) (TT.gName 8) spA))))))
def spL : SS := (sExpr (eM .list mAppend (eVar 4) (aCons (eVar 7) aNil)))
theorem sp_eq : s_spread = (sSeq (sAsg (eLstM aNil) (TT.gName 4))
  (sSeq (sAsg eKNew (TT.gName 5))
  (sSeq (sAsg (eC (.int 0)) (TT.gName 6))
  (sSeq (sFor (iL (eVar 3)) (TT.gName 7) spL)
  (sSeq (sWhile spT spB)
  (sRet (eTup (aCons (eVar 5) (aCons (eC (.bl false)) aNil))))))))) := rfl
/-- the memory while it spreads: K known, at kc -/
def spM (m0 : Mm) (L N : List An) : Mm := m0 ++ [.lst (L.map An.enc), .kd (encK N)]
section
variable {R : Rule} {c : Bool} {K : List An} {m0 : Mm} {kc : Nat}
theorem spm_a (L N : List An) : (spM m0 L N)[m0.length]? = some (.lst (L.map An.enc)) := by simp [spM]
theorem spm_b (L N : List An) : (spM m0 L N)[m0.length + 1]? = some (.kd (encK N)) := by simp [spM]
theorem spm_k (hk : m0[kc]? = some (.kd (encK K))) (L N : List An) : (spM m0 L N)[kc]? = some (.kd (encK K)) := by
  rw [spM, List.getElem?_append_left (List.getElem?_eq_some_iff.mp hk).1]; exact hk
theorem spm_seta (L L' N : List An) : (spM m0 L N).set m0.length (.lst (L'.map An.enc)) = spM m0 L' N := by
  simp [spM, List.set_append]
theorem spm_setb (L N N' : List An) : (spM m0 L N).set (m0.length + 1) (.kd (encK N')) = spM m0 L N' := by
  simp [spM, List.set_append]
theorem spm_app (L N : List An) (n : An) (hl : L.length ≤ 900000) : mAppend (.ref m0.length) [n.enc] (spM m0 L N) = .ok (.non, spM m0 (L ++ [n]) N) := by
  rw [mAppend_ref (spm_a L N) (by rw [List.length_map]; exact line_lt' (by omega)), ← spm_seta L (L ++ [n]) N]
  simp
theorem spm_ty (L N : List An) : tyOk (spM m0 L N) .list (.ref m0.length) = true := by
  show (match (spM m0 L N)[m0.length]? with | some (.lst xs) => true | _ => false) = true
  rw [spm_a]
theorem sp_moves (ok : R.Ok) {n : An} (hn : PN R n) (s2 s3 s5 s6 : Option PV) (N : List An) : ∀ (es : List AEv) (L : List An) (x8 : Option PV), L.length + es.length ≤ 900000 →
    ∃ y8, forL (gName 8) spA (es.map AEv.enc) [some R.enc, some (.bl c), s2, s3, some (.ref m0.length), s5, s6, some n.enc, x8] (spM m0 L N) = .ok (.nx, [some R.enc, some (.bl c), s2, s3, some (.ref m0.length), s5, s6, some n.enc, y8], spM m0 (L ++ es.map (movedA R c n)) N)
  | [], L, x8, _ => ⟨x8, by simp⟩
  | e :: es, L, x8, hl => by
    simp only [List.length_cons] at hl
    obtain ⟨y8, h2⟩ := sp_moves ok hn s2 s3 s5 s6 N es (L ++ [movedA R c n e]) (some e.enc) (by rw [List.length_append, List.length_singleton]; omega)
    refine ⟨y8, ?_⟩
    rw [List.map_cons, forL_cons]
    simp only [gName_ap, Rs.bind_ok]
    have h1 : spA [some R.enc, some (.bl c), s2, s3, some (.ref m0.length), s5, s6, some n.enc, some e.enc] (spM m0 L N) = .ok (.nx, [some R.enc, some (.bl c), s2, s3, some (.ref m0.length), s5, s6, some n.enc, some e.enc], spM m0 (L ++ [movedA R c n e]) N) := by
      have mv := fun m => moved_ok ok c hn e m
      simp [spA, spm_ty, mv, spm_app L N (movedA R c n e) (by omega)]
    show Rs.bind (spA [some R.enc, some (.bl c), s2, s3, some (.ref m0.length), s5, s6, some n.enc, some e.enc] (spM m0 L N)) _ = _
    rw [h1]
    simp only [Rs.bind_ok]
    rw [h2]; simp
theorem sp_loop (ok : R.Ok) (hk : m0[kc]? = some (.kd (encK K))) (s3 : Option PV) {P N : List An} {r : List An × Bool} (h : Sp (grP R c) K P N r) : ∀ (L : List An) (at_ : Nat) (x7 x8 : Option PV) (F : Nat), P = L.drop at_ → at_ ≤ L.length → (∀ n ∈ L, PN R n) → (∀ n ∈ N, PN R n) → N.Nodup → L.length + 3 * (100000 - N.length) ≤ 800000 → P.length + 4 * (100000 - N.length) + 1 ≤ F →
    ∃ L' s' , whileF spT spB F [some R.enc, some (.bl c), some (.ref kc), s3, some (.ref m0.length), some (.ref (m0.length + 1)), some (.int at_), x7, x8] (spM m0 L N) = .ok ((if r.2 = true then .rt (.tup [.ref (m0.length + 1), .bl true]) else .nx), s', spM m0 L' r.1) ∧ s'[5]? = some (some (.ref (m0.length + 1))) ∧ (∀ n ∈ r.1, PN R n) := by
  have tst : ∀ (L N : List An) (at_ : Nat) (x7 x8 : Option PV), spT [some R.enc, some (.bl c), some (.ref kc), s3, some (.ref m0.length), some (.ref (m0.length + 1)), some (.int at_), x7, x8] (spM m0 L N) = .ok (decide ((at_ : Int) < L.length), spM m0 L N) := fun L N at_ x7 x8 => by
    have fl : fLen [.ref m0.length] (spM m0 L N) = .ok (.int L.length, spM m0 L N) := by
      simp [fLen, look1, spm_a]
    unfold spT
    simp [fl]
  have few' : ∀ {N : List An}, N.Nodup → (∀ n ∈ N, PN R n) → N.length ≤ 100000 := fun nd hN => few ok nd fun x hx => (hN x hx).bd
  have head : ∀ {n : An} {P L : List An} {at_ : Nat}, n :: P = L.drop at_ → L[at_]? = some n ∧ P = L.drop (at_ + 1) ∧ at_ < L.length := fun {n P L at_} e => by
    have h1 : at_ < L.length := by
      by_cases h : at_ < L.length
      · exact h
      · rw [List.drop_eq_nil_of_le (by omega)] at e; cases e
    rw [List.drop_eq_getElem_cons h1] at e
    simp only [List.cons.injEq] at e
    exact ⟨by rw [List.getElem?_eq_getElem h1, e.1], e.2, h1⟩
  -- the first steps of a turn
  have top : ∀ {n : An} {L N : List An} {at_ : Nat} (x7 x8 : Option PV), L[at_]? = some n →
      spB [some R.enc, some (.bl c), some (.ref kc), s3, some (.ref m0.length), some (.ref (m0.length + 1)), some (.int at_), x7, x8] (spM m0 L N) =
      (if n ∈ K ∨ n ∈ N then .ok (.ct, [some R.enc, some (.bl c), some (.ref kc), s3, some (.ref m0.length), some (.ref (m0.length + 1)), some (.int (at_ + 1 : Nat)), some n.enc, x8], spM m0 L N)
       else (sSeq (sAsg (eC (.bl true)) (gKSub (eVar 5) (eVar 7)))
  (sSeq (sIf (tT (e2 oIx (eN (cP f_alone) (aCons (eVar 0) (aCons (eVar 7) (aCons (eC (.str [33])) aNil)))) (eC (.int 0)))) (sRet (eTup (aCons (eVar 5) (aCons (eC (.bl true)) aNil)))) sSkip)
  (sFor (iT (eC c_SAFE)) (TT.gName 8) spA))) [some R.enc, some (.bl c), some (.ref kc), s3, some (.ref m0.length), some (.ref (m0.length + 1)), some (.int (at_ + 1 : Nat)), some n.enc, x8] (spM m0 L N)) := fun {n L N at_} x7 x8 hn => by
    have ix : oIx (.ref m0.length) (.int (at_ : Int)) (spM m0 L N) = .ok (n.enc, spM m0 L N) := oIx_ref (spm_a L N) (atI_nat (by rw [List.getElem?_map, hn]; rfl))
    have a1 : (sAsg (e2 oIx (eVar 4) (eVar 6)) (TT.gName 7)) [some R.enc, some (.bl c), some (.ref kc), s3, some (.ref m0.length), some (.ref (m0.length + 1)), some (.int at_), x7, x8] (spM m0 L N) = .ok (.nx, [some R.enc, some (.bl c), some (.ref kc), s3, some (.ref m0.length), some (.ref (m0.length + 1)), some (.int at_), some n.enc, x8], spM m0 L N) := by
      simp [ix]
    have a2 : (sAsg (e2 oAdd (eVar 6) (eC (.int 1))) (TT.gName 6)) [some R.enc, some (.bl c), some (.ref kc), s3, some (.ref m0.length), some (.ref (m0.length + 1)), some (.int at_), some n.enc, x8] (spM m0 L N) = .ok (.nx, [some R.enc, some (.bl c), some (.ref kc), s3, some (.ref m0.length), some (.ref (m0.length + 1)), some (.int (at_ + 1 : Nat)), some n.enc, x8], spM m0 L N) := by
      simp
    have k1 := kin_ap (kd_of (spm_k hk L N)) (show isTup n.enc = true from rfl) (an_ky n)
    have k2 := kin_ap (kd_of (spm_b (m0 := m0) L N)) (show isTup n.enc = true from rfl) (an_ky n)
    rw [khas_an] at k1 k2
    have a3 : (sIf (tOr (tV (e2 (oKIn2 false) (eVar 7) (eVar 2))) (tV (e2 (oKIn2 false) (eVar 7) (eVar 5)))) sCont sSkip) [some R.enc, some (.bl c), some (.ref kc), s3, some (.ref m0.length), some (.ref (m0.length + 1)), some (.int (at_ + 1 : Nat)), some n.enc, x8] (spM m0 L N) = .ok ((if n ∈ K ∨ n ∈ N then .ct else .nx), [some R.enc, some (.bl c), some (.ref kc), s3, some (.ref m0.length), some (.ref (m0.length + 1)), some (.int (at_ + 1 : Nat)), some n.enc, x8], spM m0 L N) := by
      generalize ((at_ + 1 : Nat) : Int) = A
      by_cases h1 : n ∈ K
      · simp [k1, h1]
      · by_cases h2 : n ∈ N
        · simp [k1, k2, h1, h2]
        · simp [k1, k2, h1, h2]
    unfold spB
    rw [seq_nx a1, seq_nx a2]
    by_cases hc : n ∈ K ∨ n ∈ N
    · rw [if_pos hc] at a3 ⊢
      rw [seq_ct a3]
    · rw [if_neg hc] at a3 ⊢
      rw [seq_nx a3]
  -- a new node
  have new : ∀ {n : An} {L N : List An} (at_ : Nat) (x8 : Option PV), PN R n → ¬ n ∈ N → N.length ≤ 100000 →
      (sAsg (eC (.bl true)) (gKSub (eVar 5) (eVar 7))) [some R.enc, some (.bl c), some (.ref kc), s3, some (.ref m0.length), some (.ref (m0.length + 1)), some (.int (at_ + 1 : Nat)), some n.enc, x8] (spM m0 L N) = .ok (.nx, [some R.enc, some (.bl c), some (.ref kc), s3, some (.ref m0.length), some (.ref (m0.length + 1)), some (.int (at_ + 1 : Nat)), some n.enc, x8], spM m0 L (N ++ [n])) ∧
      (sIf (tT (e2 oIx (eN (cP f_alone) (aCons (eVar 0) (aCons (eVar 7) (aCons (eC (.str [33])) aNil)))) (eC (.int 0)))) (sRet (eTup (aCons (eVar 5) (aCons (eC (.bl true)) aNil)))) sSkip) [some R.enc, some (.bl c), some (.ref kc), s3, some (.ref m0.length), some (.ref (m0.length + 1)), some (.int (at_ + 1 : Nat)), some n.enc, x8] (spM m0 L (N ++ [n])) =
        .ok ((if (aloneN R n .ask).1 = true then .rt (.tup [.ref (m0.length + 1), .bl true]) else .nx), [some R.enc, some (.bl c), some (.ref kc), s3, some (.ref m0.length), some (.ref (m0.length + 1)), some (.int (at_ + 1 : Nat)), some n.enc, x8], spM m0 L (N ++ [n])) := fun {n L N} at_ x8 hn hnn hl => by
    have st := kset_ap (v := .bl true) (spm_b (m0 := m0) L N) (show isTup n.enc = true from rfl) (an_ky n) (by unfold encK; rw [List.length_map]; exact line_lt' (by omega))
    rw [kput_an hnn, spm_setb] at st
    have al := fun m => alone_c ok hn.ao .ask m
    simp only [AEv.enc, AEv.code] at al
    generalize ((at_ + 1 : Nat) : Int) = A
    refine ⟨by simp [gKSub, st], ?_⟩
    have ix : ∀ b v m, oIx (.tup [.bl b, v]) (.int 0) m = .ok (.bl b, m) := fun b v m => rfl
    generalize (aloneN R n .ask).1 = bb at al ⊢
    cases bb <;> simp [al, ix]
  induction h with
  | done N =>
    intro L at_ x7 x8 F hP ha hL hN nd hl hF
    obtain ⟨F, rfl⟩ : ∃ f, F = f + 1 := ⟨F - 1, by omega⟩
    have : L.length ≤ at_ := by
      have := congrArg List.length hP
      rw [List.length_drop, List.length_nil] at this; omega
    have ht := tst L N at_ x7 x8
    rw [decide_eq_false (by omega)] at ht
    exact ⟨L, _, while_end ht, rfl, hN⟩
  | @skip n P N r hq _ ih =>
    intro L at_ x7 x8 F hP ha hL hN nd hl hF
    obtain ⟨F, rfl⟩ : ∃ f, F = f + 1 := ⟨F - 1, by omega⟩
    obtain ⟨h1, h2, h3⟩ := head hP
    have ht := tst L N at_ x7 x8
    rw [decide_eq_true (by omega)] at ht
    have hb := top (N := N) x7 x8 h1
    rw [if_pos hq] at hb
    rw [while_step ht (.inr hb)]
    exact ih L (at_ + 1) (some n.enc) x8 F h2 (by omega) hL hN nd hl (by simp only [List.length_cons] at hF; omega)
  | @bad n P N hq hbad =>
    intro L at_ x7 x8 F hP ha hL hN nd hl hF
    obtain ⟨F, rfl⟩ : ∃ f, F = f + 1 := ⟨F - 1, by omega⟩
    obtain ⟨h1, h2, h3⟩ := head hP
    have pn := hL n (List.mem_of_getElem? h1)
    have ht := tst L N at_ x7 x8
    rw [decide_eq_true (by omega)] at ht
    have hb := top (N := N) x7 x8 h1
    rw [if_neg hq] at hb
    obtain ⟨n1, n2⟩ := new (L := L) at_ x8 pn (fun z => hq (.inr z)) (few' nd hN)
    have hbad' : (aloneN R n .ask).1 = true := hbad
    rw [if_pos hbad'] at n2
    rw [seq_nx n1, seq_rt n2] at hb
    refine ⟨L, _, while_rt ht hb, rfl, fun m hm => ?_⟩
    rcases List.mem_append.mp hm with hm | hm
    · exact hN m hm
    · cases List.mem_singleton.mp hm; exact pn
  | @go n P N r hq hbad _ ih =>
    intro L at_ x7 x8 F hP ha hL hN nd hl hF
    obtain ⟨F, rfl⟩ : ∃ f, F = f + 1 := ⟨F - 1, by omega⟩
    obtain ⟨h1, h2, h3⟩ := head hP
    have pn := hL n (List.mem_of_getElem? h1)
    have ht := tst L N at_ x7 x8
    rw [decide_eq_true (by omega)] at ht
    have hb := top (N := N) x7 x8 h1
    rw [if_neg hq] at hb
    obtain ⟨n1, n2⟩ := new (L := L) at_ x8 pn (fun z => hq (.inr z)) (few' nd hN)
    have hbad' : ¬ (aloneN R n .ask).1 = true := by
      have : (aloneN R n .ask).1 = false := hbad
      simp [this]
    rw [if_neg hbad'] at n2
    rw [seq_nx n1, seq_nx n2] at hb
    have nd2 : (N ++ [n]).Nodup := by
      rw [List.nodup_append]
      refine ⟨nd, by simp, fun a ha b hb => ?_⟩
      cases List.mem_singleton.mp hb
      exact fun z => hq (.inr (by rw [← z]; exact ha))
    have hN2 : ∀ m ∈ N ++ [n], PN R m := fun m hm => by
      rcases List.mem_append.mp hm with hm | hm
      · exact hN m hm
      · cases List.mem_singleton.mp hm; exact pn
    have hl2 := few' nd2 hN2
    simp only [List.length_append, List.length_singleton] at hl2
    obtain ⟨y8, mv⟩ := sp_moves (c := c) (m0 := m0) ok pn (some (.ref kc)) s3 (some (.ref (m0.length + 1))) (some (.int (at_ + 1 : Nat))) (N ++ [n]) safeE L x8 (by simp only [safeE, List.length_cons, List.length_nil]; omega)
    have fr : (sFor (iT (eC c_SAFE)) (TT.gName 8) spA) [some R.enc, some (.bl c), some (.ref kc), s3, some (.ref m0.length), some (.ref (m0.length + 1)), some (.int (at_ + 1 : Nat)), some n.enc, x8] (spM m0 L (N ++ [n])) = .ok (.nx, [some R.enc, some (.bl c), some (.ref kc), s3, some (.ref m0.length), some (.ref (m0.length + 1)), some (.int (at_ + 1 : Nat)), some n.enc, y8], spM m0 (L ++ safeE.map (movedA R c n)) (N ++ [n])) := by
      have it : iT (eC c_SAFE) [some R.enc, some (.bl c), some (.ref kc), s3, some (.ref m0.length), some (.ref (m0.length + 1)), some (.int (at_ + 1 : Nat)), some n.enc, x8] (spM m0 L (N ++ [n])) = .ok (safeE.map AEv.enc, spM m0 L (N ++ [n])) := rfl
      rw [sFor_ap, it, Rs.bind_ok]; exact mv
    rw [fr] at hb
    rw [while_step ht (.inl hb)]
    refine ih (L ++ safeE.map (movedA R c n)) (at_ + 1) (some n.enc) y8 F ?_ (by rw [List.length_append]; omega) (fun m hm => ?_) hN2 nd2 ?_ ?_
    · rw [h2, List.drop_append_of_le_length (by omega)]; rfl
    · rcases List.mem_append.mp hm with hm | hm
      · exact hL m hm
      · obtain ⟨e, _, rfl⟩ := List.mem_map.mp hm
        exact pn_moved ok c pn e
    · simp only [List.length_append, List.length_map, List.length_singleton, safeE, List.length_cons, List.length_nil]; omega
    · simp only [grP, List.length_append, List.length_map, List.length_singleton, safeE, List.length_cons, List.length_nil] at hF ⊢; omega
end
end TT
end

section
set_option linter.all false
set_option autoImplicit false
namespace TT
theorem Sp.disj {α : Type} [DecidableEq α] {G : Gr α} {K P N : List α} {r : List α × Bool} (h : Sp G K P N r) (hN : ∀ n ∈ N, ¬ n ∈ K) : ∀ n ∈ r.1, ¬ n ∈ K := by
  have ap : ∀ {N : List α} {n : α}, (∀ n ∈ N, ¬ n ∈ K) → ¬ n ∈ K → ∀ m ∈ N ++ [n], ¬ m ∈ K := fun hN hn m hm => by
    rcases List.mem_append.mp hm with hm | hm
    · exact hN m hm
    · cases List.mem_singleton.mp hm; exact hn
  induction h with
  | done N => exact hN
  | skip _ _ ih => exact ih hN
  | bad h1 _ => exact ap hN fun z => h1 (.inl z)
  | go h1 _ _ ih => exact ih (ap hN fun z => h1 (.inl z))
section
variable {R : Rule} {c : Bool} {K : List An} {m0 : Mm} {kc : Nat}
theorem sp_lines (s0 s1 s2 s3 s5 s6 s8 : Option PV) (N : List An) : ∀ (S L : List An) (x7 : Option PV), L.length + S.length ≤ 800000 →
    ∃ y7, forL (gName 7) spL (S.map An.enc) [s0, s1, s2, s3, some (.ref m0.length), s5, s6, x7, s8] (spM m0 L N) = .ok (.nx, [s0, s1, s2, s3, some (.ref m0.length), s5, s6, y7, s8], spM m0 (L ++ S) N)
  | [], L, x7, _ => ⟨x7, by simp⟩
  | n :: S, L, x7, hl => by
    simp only [List.length_cons] at hl
    obtain ⟨y7, h2⟩ := sp_lines s0 s1 s2 s3 s5 s6 s8 N S (L ++ [n]) (some n.enc) (by rw [List.length_append, List.length_singleton]; omega)
    refine ⟨y7, ?_⟩
    rw [List.map_cons, forL_cons]
    simp only [gName_ap, Rs.bind_ok]
    have h1 : spL [s0, s1, s2, s3, some (.ref m0.length), s5, s6, some n.enc, s8] (spM m0 L N) = .ok (.nx, [s0, s1, s2, s3, some (.ref m0.length), s5, s6, some n.enc, s8], spM m0 (L ++ [n]) N) := by
      simp [spL, spm_ty, spm_app L N n (by omega)]
    show Rs.bind (spL [s0, s1, s2, s3, some (.ref m0.length), s5, s6, some n.enc, s8] (spM m0 L N)) _ = _
    rw [h1]
    simp only [Rs.bind_ok]
    rw [h2]; simp
theorem spread_ok (ok : R.Ok) (hk : m0[kc]? = some (.kd (encK K))) {S : List An} {r : List An × Bool} (h : Sp (grP R c) K S [] r) (hS : ∀ n ∈ S, PN R n) (hl : S.length ≤ 400000) :
    ∃ L', i_spread [R.enc, .bl c, .ref kc, .vl (S.map An.enc)] m0 = .ok (.tup [.ref (m0.length + 1), .bl r.2], spM m0 L' r.1) ∧ ∀ n ∈ r.1, PN R n := by
  obtain ⟨y7, l1⟩ := sp_lines (m0 := m0) (some R.enc) (some (.bl c)) (some (.ref kc)) (some (.vl (S.map An.enc))) (some (.ref (m0.length + 1))) (some (.int (0 : Nat))) none [] S [] none (by simp; omega)
  rw [List.nil_append] at l1
  obtain ⟨L', s', w1, w2, w3⟩ := sp_loop ok hk (some (.vl (S.map An.enc))) h S 0 y7 none FUEL rfl (Nat.zero_le _) hS (fun n h => nomatch h) List.nodup_nil (by simp; omega) (by unfold FUEL; simp; omega)
  refine ⟨L', ?_, w3⟩
  unfold i_spread bodyI
  rw [if_pos (show [R.enc, PV.bl c, PV.ref kc, PV.vl (S.map An.enc)].length = 4 from rfl), sp_eq]
  have e1 : startS 9 [R.enc, PV.bl c, PV.ref kc, PV.vl (S.map An.enc)] = [some R.enc, some (.bl c), some (.ref kc), some (.vl (S.map An.enc)), none, none, none, none, none] := rfl
  rw [e1]
  have a1 : (sAsg (eLstM aNil) (TT.gName 4)) [some R.enc, some (.bl c), some (.ref kc), some (.vl (S.map An.enc)), none, none, none, none, none] m0 = .ok (.nx, [some R.enc, some (.bl c), some (.ref kc), some (.vl (S.map An.enc)), some (.ref m0.length), none, none, none, none], m0 ++ [.lst []]) := rfl
  have a2 : (sAsg eKNew (TT.gName 5)) [some R.enc, some (.bl c), some (.ref kc), some (.vl (S.map An.enc)), some (.ref m0.length), none, none, none, none] (m0 ++ [.lst []]) = .ok (.nx, [some R.enc, some (.bl c), some (.ref kc), some (.vl (S.map An.enc)), some (.ref m0.length), some (.ref (m0.length + 1)), none, none, none], spM m0 [] []) := by
    have kn : ∀ s m, eKNew s m = .ok (.ref m.length, m ++ [.kd []]) := fun s m => rfl
    simp [kn, spM, encK]
  have a3 : (sAsg (eC (.int 0)) (TT.gName 6)) [some R.enc, some (.bl c), some (.ref kc), some (.vl (S.map An.enc)), some (.ref m0.length), some (.ref (m0.length + 1)), none, none, none] (spM m0 [] []) = .ok (.nx, [some R.enc, some (.bl c), some (.ref kc), some (.vl (S.map An.enc)), some (.ref m0.length), some (.ref (m0.length + 1)), some (.int (0 : Nat)), none, none], spM m0 [] []) := rfl
  have a4 : (sFor (iL (eVar 3)) (TT.gName 7) spL) [some R.enc, some (.bl c), some (.ref kc), some (.vl (S.map An.enc)), some (.ref m0.length), some (.ref (m0.length + 1)), some (.int (0 : Nat)), none, none] (spM m0 [] []) = .ok (.nx, [some R.enc, some (.bl c), some (.ref kc), some (.vl (S.map An.enc)), some (.ref m0.length), some (.ref (m0.length + 1)), some (.int (0 : Nat)), y7, none], spM m0 S []) := by
    have il : iL (eVar 3) [some R.enc, some (.bl c), some (.ref kc), some (.vl (S.map An.enc)), some (.ref m0.length), some (.ref (m0.length + 1)), some (.int (0 : Nat)), none, none] (spM m0 [] []) = .ok (S.map An.enc, spM m0 [] []) := rfl
    rw [sFor_ap, il, Rs.bind_ok]; exact l1
  rw [seq_nx a1, seq_nx a2, seq_nx a3, seq_nx a4]
  cases hb : r.2 with
  | true =>
    rw [hb, if_pos rfl] at w1
    have a5 : (sWhile spT spB) [some R.enc, some (.bl c), some (.ref kc), some (.vl (S.map An.enc)), some (.ref m0.length), some (.ref (m0.length + 1)), some (.int (0 : Nat)), y7, none] (spM m0 S []) = .ok (.rt (.tup [.ref (m0.length + 1), .bl true]), s', spM m0 L' r.1) := w1
    rw [seq_rt a5]; rfl
  | false =>
    rw [hb, if_neg (by decide)] at w1
    have a5 : (sWhile spT spB) [some R.enc, some (.bl c), some (.ref kc), some (.vl (S.map An.enc)), some (.ref m0.length), some (.ref (m0.length + 1)), some (.int (0 : Nat)), y7, none] (spM m0 S []) = .ok (.nx, s', spM m0 L' r.1) := w1
    rw [seq_nx a5]
    simp [w2, endF]
/-! ### level by level -/
def fwE : SE := (eN (cP f_moved) (aCons (eVar 0) (aCons (eVar 7) (aCons (eVar 8) (aCons (eVar 1) aNil)))))
def fwT : ST := (tV (e2 oNe (eVar 3) (eLst aNil)))
def fwK : SS := (sAsg (eC (.bl true)) (gKSub (eVar 2) (eVar 7)))
def fwB : SS := (sSeq (sAsg (eN (cI i_spread) (aCons (eVar 0) (aCons (eVar 1) (aCons (eVar 2) (aCons (eVar 3) aNil))))) (TT.gTup [5, 6]))
  (sSeq (sIf (tT (eVar 6)) (sRet (eVar 4)) sSkip)
  (sSeq (sLock 5) (sSeq (sAsg (eLc2 [7, 8] [8] (iKl (eVar 5)) (TT.gName 7) tYes (iT (eC c_FAULTS)) (TT.gName 8) tYes fwE) (TT.gName 3))
  (sSeq (sFor (iKl (eVar 5)) (TT.gName 7) fwK)
  (sAsg (e2 oAdd (eVar 4) (eC (.int 1))) (TT.gName 4)))))))
theorem fw_eq : s_fewest = (sSeq (sAsg eKNew (TT.gName 2))
  (sSeq (sPar2 3 4 (aCons (eLst (aCons (eN (cP f_first_node) (aCons (eVar 0) aNil)) aNil)) (aCons (eC (.int 0)) aNil)))
  (sSeq (sWhile fwT fwB)
  (sRet (eC .non))))) := rfl
def nextF (R : Rule) (c : Bool) (n : An) : List An := faultE.map (movedA R c n)
theorem lc2_faults (ok : R.Ok) (s : Sl) (h0 : s[0]? = some (some R.enc)) (h1 : s[1]? = some (some (.bl c))) (hl : s.length = 9) (m : Mm) : ∀ (Ms acc : List An), (∀ n ∈ Ms, PN R n) → acc.length + 2 * Ms.length ≤ 900000 →
    lc2L (TT.gName 7) tYes (iT (eC c_FAULTS)) [8] (TT.gName 8) tYes fwE s (Ms.map An.enc) m (acc.map An.enc) = .ok ((acc ++ Ms.flatMap (nextF R c)).map An.enc, m)
  | [], acc, _, _ => by simp [lc2L]
  | n :: Ms, acc, hp, ha => by
    simp only [List.length_cons] at ha
    have pn := hp n List.mem_cons_self
    have mv := fun e m => moved_ok ok c pn e m
    have e1 := mv .drop
    have e2 := mv .late
    simp only [AEv.enc, AEv.code] at e1 e2
    have g7 : (s.set 7 (some n.enc))[7]? = some (some n.enc) := List.getElem?_set_self (by omega)
    have ih := lc2_faults ok s h0 h1 hl m Ms (acc ++ nextF R c n) (fun k hk => hp k (List.mem_cons_of_mem _ hk)) (by simp [nextF, faultE]; omega)
    have l1 : acc.length < LINE := line_lt' (by omega)
    have l2 : acc.length + 1 < LINE := line_lt' (by omega)
    have it : iT (eC c_FAULTS) (s.set 7 (some n.enc)) m = .ok ([.str [45], .str [126]], m) := rfl
    -- one element of the inner walk
    have el : ∀ (x : PV) (v : PV), (∀ m, cP f_moved [R.enc, n.enc, x, .bl c] m = .ok (v, m)) → fwE ((wipe (s.set 7 (some n.enc)) [8]).set 8 (some x)) m = .ok (v, m) := fun x v hv => by
      have q : (wipe (s.set 7 (some n.enc)) [8]).set 8 (some x) = (s.set 7 (some n.enc)).set 8 (some x) := by
        show ((s.set 7 (some n.enc)).set 8 none).set 8 (some x) = _
        rw [List.set_set]
      rw [q]
      have i0 : ((s.set 7 (some n.enc)).set 8 (some x))[0]? = some (some R.enc) := by rw [List.getElem?_set_ne (by decide), List.getElem?_set_ne (by decide)]; exact h0
      have i1 : ((s.set 7 (some n.enc)).set 8 (some x))[1]? = some (some (.bl c)) := by rw [List.getElem?_set_ne (by decide), List.getElem?_set_ne (by decide)]; exact h1
      have i7 : ((s.set 7 (some n.enc)).set 8 (some x))[7]? = some (some n.enc) := by rw [List.getElem?_set_ne (by decide)]; exact g7
      have i8 : ((s.set 7 (some n.enc)).set 8 (some x))[8]? = some (some x) := List.getElem?_set_self (by rw [List.length_set]; omega)
      unfold fwE
      simp only [eN_ap, aCons_ap, aNil_ap, eVar_ap, i0, i1, i7, i8, Rs.bind_ok, hv]
    have inner : lcL (TT.gName 8) tYes fwE (wipe (s.set 7 (some n.enc)) [8]) [.str [45], .str [126]] m (acc.map An.enc) = .ok ((acc ++ nextF R c n).map An.enc, m) := by
      have q1 := el _ _ e1
      have q2 := el _ _ e2
      simp only [lcL, gName_ap, Rs.nx_ok, Rs.bind_ok, tYes_ap, if_true, q1, q2, List.length_map, List.length_append, List.length_singleton, if_pos l1, if_pos l2]
      simp [nextF, faultE]
    rw [List.map_cons]
    unfold lc2L
    simp only [gName_ap, Rs.nx_ok, Rs.bind_ok, tYes_ap, if_true, it, inner]
    rw [ih, List.flatMap_cons, List.append_assoc]
theorem fw_knows (s0 s1 s3 s4 s5 s6 s8 : Option PV) : ∀ (Ms K : List An) (x7 : Option PV) (m : Mm), m[0]? = some (.kd (encK K)) → K.length + Ms.length ≤ 900000 → Ms.Nodup → (∀ n ∈ Ms, ¬ n ∈ K) →
    ∃ y7, forL (gName 7) fwK (Ms.map An.enc) [s0, s1, some (.ref 0), s3, s4, s5, s6, x7, s8] m = .ok (.nx, [s0, s1, some (.ref 0), s3, s4, s5, s6, y7, s8], m.set 0 (.kd (encK (K ++ Ms))))
  | [], K, x7, m, hm, _, _, _ => ⟨x7, by simp [set_self hm]⟩
  | n :: Ms, K, x7, m, hm, hl, nd, hd => by
    simp only [List.length_cons] at hl
    obtain ⟨n1, n2⟩ := List.nodup_cons.mp nd
    have st := kset_ap (v := .bl true) hm (show isTup n.enc = true from rfl) (an_ky n) (by unfold encK; rw [List.length_map]; exact line_lt' (by omega))
    rw [kput_an (hd n List.mem_cons_self)] at st
    have h0 : 0 < m.length := (List.getElem?_eq_some_iff.mp hm).1
    obtain ⟨y7, h2⟩ := fw_knows s0 s1 s3 s4 s5 s6 s8 Ms (K ++ [n]) (some n.enc) (m.set 0 (.kd (encK (K ++ [n])))) (List.getElem?_set_self h0) (by rw [List.length_append, List.length_singleton]; omega) n2 (fun k hk z => by
      rcases List.mem_append.mp z with z | z
      · exact hd k (List.mem_cons_of_mem _ hk) z
      · cases List.mem_singleton.mp z; exact n1 hk)
    refine ⟨y7, ?_⟩
    rw [List.map_cons, forL_cons]
    simp only [gName_ap, Rs.bind_ok]
    have h1 : fwK [s0, s1, some (.ref 0), s3, s4, s5, s6, some n.enc, s8] m = .ok (.nx, [s0, s1, some (.ref 0), s3, s4, s5, s6, some n.enc, s8], m.set 0 (.kd (encK (K ++ [n])))) := by
      simp [fwK, gKSub, st]
    show Rs.bind (fwK [s0, s1, some (.ref 0), s3, s4, s5, s6, some n.enc, s8] m) _ = _
    rw [h1]
    simp only [Rs.bind_ok]
    rw [h2, List.set_set]; simp
def encF : Option Nat → PV
  | none => .non
  | some f => .int f
def flF : Option Nat → Fl
  | none => .nx
  | some f => .rt (.int f)
theorem an_sh (n : An) : n.enc.sh 11 = true := by
  have intsSh : ∀ (xs : List Int) (k : Nat), (xs.map PV.int).all (PV.sh k) = true := fun xs k => by
    rw [List.all_map, List.all_eq_true]
    intro x _
    cases k <;> rfl
  have o : ∀ (x : Option Int) k, (encO x).sh k = true := fun x k => by cases x <;> cases k <;> rfl
  simp [An.enc, Stand.enc, Stand.items, PV.sh, intsSh, o]
theorem fw_loop (ok : R.Ok) : ∀ (k : Nat) (K S : List An) (f : Nat) (m : Mm) (x5 x6 x7 x8 : Option PV) (F : Nat), 2 * (100000 - K.length) + (if S = [] then 0 else 1) < k → k ≤ F → Lv (grP R c) f K S → K.Nodup → (∀ n ∈ K, PN R n) → (∀ n ∈ S, PN R n) → S.length ≤ 200000 → m[0]? = some (.kd (encK K)) →
    ∃ r s' m', Tells (grP R c) r ∧ whileF fwT fwB F [some R.enc, some (.bl c), some (.ref 0), some (.vl (S.map An.enc)), some (.int f), x5, x6, x7, x8] m = .ok (flF r, s', m')
  | 0, _, _, _, _, _, _, _, _, _, h, _, _, _, _, _, _, _ => absurd h (Nat.not_lt_zero _)
  | k + 1, K, S, f, m, x5, x6, x7, x8, F, hk, hF, lv, nd, pK, pS, hl, hm => by
    obtain ⟨F, rfl⟩ : ∃ g, F = g + 1 := ⟨F - 1, by omega⟩
    have tst : fwT [some R.enc, some (.bl c), some (.ref 0), some (.vl (S.map An.enc)), some (.int f), x5, x6, x7, x8] m = .ok (!S.isEmpty, m) := by
      have sh : (PV.vl (S.map An.enc)).sh DEP = true := by
        show ((S.map An.enc).all (PV.sh 11)) = true
        rw [List.all_map, List.all_eq_true]
        exact fun n _ => an_sh n
      have ne : oNe (.vl (S.map An.enc)) (.vl []) m = .ok (.bl (!S.isEmpty), m) := by
        refine (oNe_of (v := .vl (S.map An.enc)) (w := .vl []) (m := m) sh rfl).trans ?_
        cases S <;> rfl
      unfold fwT
      simp [ne]
    have km : K.length ≤ 100000 := few ok nd fun x hx => (pK x hx).bd
    cases S with
    | nil =>
      exact ⟨none, _, _, lv_none lv, while_end tst⟩
    | cons s0 S0 =>
      obtain ⟨S, hS⟩ : ∃ S, S = s0 :: S0 := ⟨_, rfl⟩
      rw [← hS] at hk lv pS hl tst ⊢
      have hne : ¬ S = [] := by rw [hS]; exact fun z => nomatch z
      have tst : fwT [some R.enc, some (.bl c), some (.ref 0), some (.vl (S.map An.enc)), some (.int f), x5, x6, x7, x8] m = .ok (true, m) := by rw [tst, hS]; rfl
      rw [if_neg hne] at hk
      have stp : ∀ n m, PN R n → (grP R c).bad n = false → m ∈ (grP R c).safe n → PN R m := fun n m h _ hm => by
        obtain ⟨e, _, rfl⟩ := List.mem_map.mp hm
        exact pn_moved ok c h e
      obtain ⟨r, hr⟩ := Sp.ends (G := grP R c) (T := PN R) (U := anU) (fun n h => mem_anU ok h.bd) K stp anU.length S [] pS (fun n h => nomatch h) List.nodup_nil (by simp)
      obtain ⟨L', e1, pM⟩ := spread_ok ok hm hr pS (by omega)
      obtain ⟨M, b⟩ := r
      simp only at e1 pM
      have rM : ∀ n ∈ M, Rch (grP R c) f n := Sp.all hr lv.rS (fun n h => nomatch h) fun n m h hb hm => .safe h hb hm
      have a1 : (sAsg (eN (cI i_spread) (aCons (eVar 0) (aCons (eVar 1) (aCons (eVar 2) (aCons (eVar 3) aNil))))) (TT.gTup [5, 6])) [some R.enc, some (.bl c), some (.ref 0), some (.vl (S.map An.enc)), some (.int f), x5, x6, x7, x8] m = .ok (.nx, [some R.enc, some (.bl c), some (.ref 0), some (.vl (S.map An.enc)), some (.int f), some (.ref (m.length + 1)), some (.bl b), x7, x8], spM m L' M) := by
        simp [cI, e1]
      cases b with
      | true =>
        have a2 : (sIf (tT (eVar 6)) (sRet (eVar 4)) sSkip) [some R.enc, some (.bl c), some (.ref 0), some (.vl (S.map An.enc)), some (.int f), some (.ref (m.length + 1)), some (.bl true), x7, x8] (spM m L' M) = .ok (.rt (.int f), [some R.enc, some (.bl c), some (.ref 0), some (.vl (S.map An.enc)), some (.int f), some (.ref (m.length + 1)), some (.bl true), x7, x8], spM m L' M) := rfl
        have hb : fwB [some R.enc, some (.bl c), some (.ref 0), some (.vl (S.map An.enc)), some (.int f), x5, x6, x7, x8] m = .ok (.rt (.int f), [some R.enc, some (.bl c), some (.ref 0), some (.vl (S.map An.enc)), some (.int f), some (.ref (m.length + 1)), some (.bl true), x7, x8], spM m L' M) := by
          unfold fwB
          rw [seq_nx a1, seq_rt a2]
        obtain ⟨n, hn, hbad⟩ := Sp.hit hr
        exact ⟨some f, _, _, lv_hit lv hbad (rM n hn), while_rt tst hb⟩
      | false =>
        have dj := Sp.disj hr (fun n h => nomatch h)
        have ndM := Sp.nodup hr List.nodup_nil
        simp only at dj ndM
        have mm : M.length ≤ 100000 := few ok ndM fun x hx => (pM x hx).bd
        obtain ⟨q1, q2⟩ := Sp.closed hr
        have q2' : ∀ n ∈ M, (grP R c).bad n = false ∧ ∀ m ∈ (grP R c).safe n, m ∈ K ∨ m ∈ M := fun n hn => (q2 n hn).elim (fun z => nomatch z) id
        have a2 : (sIf (tT (eVar 6)) (sRet (eVar 4)) sSkip) [some R.enc, some (.bl c), some (.ref 0), some (.vl (S.map An.enc)), some (.int f), some (.ref (m.length + 1)), some (.bl false), x7, x8] (spM m L' M) = .ok (.nx, [some R.enc, some (.bl c), some (.ref 0), some (.vl (S.map An.enc)), some (.int f), some (.ref (m.length + 1)), some (.bl false), x7, x8], spM m L' M) := rfl
        obtain ⟨m2, hm2⟩ : ∃ m2, m2 = (spM m L' M).set (m.length + 1) (.kl (encK M)) := ⟨_, rfl⟩
        have hb1 := spm_b (m0 := m) L' M
        have hblt := (List.getElem?_eq_some_iff.mp hb1).1
        have a3 : (sLock 5) [some R.enc, some (.bl c), some (.ref 0), some (.vl (S.map An.enc)), some (.int f), some (.ref (m.length + 1)), some (.bl false), x7, x8] (spM m L' M) = .ok (.nx, [some R.enc, some (.bl c), some (.ref 0), some (.vl (S.map An.enc)), some (.int f), some (.ref (m.length + 1)), some (.bl false), x7, x8], m2) := by
          unfold sLock
          simp [hb1, hm2]
        have k1 : m2[m.length + 1]? = some (.kl (encK M)) := by rw [hm2]; exact List.getElem?_set_self hblt
        have k0 : m2[0]? = some (.kd (encK K)) := by rw [hm2, List.getElem?_set_ne (by omega)]; exact spm_k hm L' M
        have ikl : ∀ s : Sl, s[5]? = some (some (.ref (m.length + 1))) → iKl (eVar 5) s m2 = .ok (M.map An.enc, m2) := fun s hs => by
          unfold iKl
          simp [hs, k1, keys_an]
        obtain ⟨S', hS'⟩ : ∃ S', S' = M.flatMap (nextF R c) := ⟨_, rfl⟩
        have a4 : (sAsg (eLc2 [7, 8] [8] (iKl (eVar 5)) (TT.gName 7) tYes (iT (eC c_FAULTS)) (TT.gName 8) tYes fwE) (TT.gName 3)) [some R.enc, some (.bl c), some (.ref 0), some (.vl (S.map An.enc)), some (.int f), some (.ref (m.length + 1)), some (.bl false), x7, x8] m2 = .ok (.nx, [some R.enc, some (.bl c), some (.ref 0), some (.vl (S'.map An.enc)), some (.int f), some (.ref (m.length + 1)), some (.bl false), x7, x8], m2) := by
          have l2 := lc2_faults (c := c) ok (wipe [some R.enc, some (.bl c), some (.ref 0), some (.vl (S.map An.enc)), some (.int f), some (.ref (m.length + 1)), some (.bl false), x7, x8] [7, 8]) rfl rfl rfl m2 M [] pM (by simp; omega)
          have el : eLc2 [7, 8] [8] (iKl (eVar 5)) (TT.gName 7) tYes (iT (eC c_FAULTS)) (TT.gName 8) tYes fwE [some R.enc, some (.bl c), some (.ref 0), some (.vl (S.map An.enc)), some (.int f), some (.ref (m.length + 1)), some (.bl false), x7, x8] m2 = .ok (.vl (S'.map An.enc), m2) := by
            unfold eLc2
            rw [ikl _ rfl, Rs.bind_ok]
            show Rs.bind (lc2L _ _ _ _ _ _ _ (wipe [some R.enc, some (.bl c), some (.ref 0), some (.vl (S.map An.enc)), some (.int f), some (.ref (m.length + 1)), some (.bl false), x7, x8] [7, 8]) (M.map An.enc) m2 []) _ = _
            rw [show ([] : List PV) = ([] : List An).map An.enc from rfl, l2, List.nil_append, ← hS']
            rfl
          rw [sAsg_ap, el, Rs.bind_ok, gName_ap, Rs.bind_ok]
          rfl
        obtain ⟨y7, l5⟩ := fw_knows (some R.enc) (some (.bl c)) (some (.vl (S'.map An.enc))) (some (.int f)) (some (.ref (m.length + 1))) (some (.bl false)) x8 M K x7 m2 k0 (by omega) ndM dj
        have a5 : (sFor (iKl (eVar 5)) (TT.gName 7) fwK) [some R.enc, some (.bl c), some (.ref 0), some (.vl (S'.map An.enc)), some (.int f), some (.ref (m.length + 1)), some (.bl false), x7, x8] m2 = .ok (.nx, [some R.enc, some (.bl c), some (.ref 0), some (.vl (S'.map An.enc)), some (.int f), some (.ref (m.length + 1)), some (.bl false), y7, x8], m2.set 0 (.kd (encK (K ++ M)))) := by
          rw [sFor_ap, ikl _ rfl, Rs.bind_ok]; exact l5
        have hb : fwB [some R.enc, some (.bl c), some (.ref 0), some (.vl (S.map An.enc)), some (.int f), x5, x6, x7, x8] m = .ok (.nx, [some R.enc, some (.bl c), some (.ref 0), some (.vl (S'.map An.enc)), some (.int (f + 1 : Nat)), some (.ref (m.length + 1)), some (.bl false), y7, x8], m2.set 0 (.kd (encK (K ++ M)))) := by
          unfold fwB
          rw [seq_nx a1, seq_nx a2, seq_nx a3, seq_nx a4, seq_nx a5]
          rfl
        rw [while_step tst (.inl hb)]
        have lv' : Lv (grP R c) (f + 1) (K ++ M) S' := lv_next lv q1 q2' rM (fun n => List.mem_append) (fun n hn => .inr fun m hm => by
          rw [hS']; exact List.mem_flatMap.mpr ⟨n, hn, hm⟩) (fun m hm => by
          rw [hS'] at hm
          obtain ⟨n, hn, hq⟩ := List.mem_flatMap.mp hm
          exact ⟨n, hn, hq⟩)
        have nd' : (K ++ M).Nodup := by
          rw [List.nodup_append]
          exact ⟨nd, ndM, fun a ha b hb z => dj b hb (by rw [← z]; exact ha)⟩
        have pK' : ∀ n ∈ K ++ M, PN R n := fun n hn => (List.mem_append.mp hn).elim (pK n) (pM n)
        have km' : (K ++ M).length ≤ 100000 := few ok nd' fun x hx => (pK' x hx).bd
        rw [List.length_append] at km'
        refine fw_loop ok k (K ++ M) S' (f + 1) _ _ _ _ _ F ?_ (by omega) lv' nd' pK' (fun n hn => ?_) ?_ (List.getElem?_set_self (by rw [hm2, List.length_set]; exact Nat.lt_of_le_of_lt (Nat.zero_le _) hblt))
        · rw [List.length_append]
          cases M with
          | nil =>
            have : S' = [] := by rw [hS']; rfl
            rw [if_pos this]; simp; omega
          | cons a M => simp only [List.length_cons] at km' ⊢; split <;> omega
        · rw [hS'] at hn
          obtain ⟨x, hx, hq⟩ := List.mem_flatMap.mp hn
          obtain ⟨e, _, rfl⟩ := List.mem_map.mp hq
          exact pn_moved ok c (pM x hx) e
        · rw [hS', List.length_flatMap]
          have : M.map (fun n => (nextF R c n).length) = M.map fun _ => 2 := List.map_congr_left fun n _ => rfl
          rw [this, List.map_const', List.sum_replicate_nat]
          omega
theorem fewest_ok (ok : R.Ok) (c : Bool) : ∃ r, Tells (grP R c) r ∧ f_fewest [R.enc, .bl c] = .ok (encF r) := by
  obtain ⟨r, s', m', h1, h2⟩ := fw_loop (c := c) ok 300000 [] [firstA R] 0 [.kd []] none none none none FUEL (by simp) (by unfold FUEL; omega) lv_start List.nodup_nil (fun n h => nomatch h) (fun n hn => by cases List.mem_singleton.mp hn; exact pn_first ok) (by simp) rfl
  refine ⟨r, h1, ?_⟩
  have a1 : (sAsg eKNew (TT.gName 2)) [some R.enc, some (.bl c), none, none, none, none, none, none, none] [] = .ok (.nx, [some R.enc, some (.bl c), some (.ref 0), none, none, none, none, none, none], [.kd []]) := rfl
  have a2 : (sPar2 3 4 (aCons (eLst (aCons (eN (cP f_first_node) (aCons (eVar 0) aNil)) aNil)) (aCons (eC (.int 0)) aNil))) [some R.enc, some (.bl c), some (.ref 0), none, none, none, none, none, none] [.kd []] = .ok (.nx, [some R.enc, some (.bl c), some (.ref 0), some (.vl ([firstA R].map An.enc)), some (.int (0 : Nat)), none, none, none, none], [.kd []]) := by
    have f1 := fun m => first_node_ok ok m
    simp [f1]
  have b : bodyI 9 2 s_fewest [R.enc, .bl c] [] = .ok (encF r, m') := by
    unfold bodyI
    rw [if_pos (show [R.enc, PV.bl c].length = 2 from rfl), fw_eq]
    have e1 : startS 9 [R.enc, PV.bl c] = [some R.enc, some (.bl c), none, none, none, none, none, none, none] := rfl
    rw [e1, seq_nx a1, seq_nx a2]
    cases r with
    | none =>
      have a3 : (sWhile fwT fwB) [some R.enc, some (.bl c), some (.ref 0), some (.vl ([firstA R].map An.enc)), some (.int (0 : Nat)), none, none, none, none] [.kd []] = .ok (.nx, s', m') := h2
      rw [seq_nx a3]; rfl
    | some f =>
      have a3 : (sWhile fwT fwB) [some R.enc, some (.bl c), some (.ref 0), some (.vl ([firstA R].map An.enc)), some (.int (0 : Nat)), none, none, none, none] [.kd []] = .ok (.rt (.int f), s', m') := h2
      rw [seq_rt a3]; rfl
  exact body_fin b (by cases r <;> rfl)
end
end TT
end

section
set_option linter.all false
set_option autoImplicit false
set_option maxRecDepth 100000
namespace TT
/-! ### the parts of a rule and their values -/
def chP : Nat → List PV
  | 0 => [.int 0, .int 1, .int 2]
  | 1 => [.str sNew, .str sSame]
  | 2 => [.bl false, .bl true]
  | 3 => [.non, .int 0, .int 1, .int 2]
  | 4 => [.non, .int 0, .int 1, .int 2]
  | 5 => [.int 1, .int 2, .int 3]
  | _ => [.str sEnd, .str sRefuse]
def ptP : Nat → List Nat
  | 0 => [107, 101, 101, 112]
  | 1 => [114, 101, 112, 108, 121]
  | 2 => [115, 116, 114, 105, 99, 116]
  | 3 => [108, 101, 101, 119, 97, 121]
  | 4 => [115, 112, 97, 114, 101]
  | 5 => [101, 118, 101, 114, 121]
  | _ => [111, 108, 100]
structure PartsAt (R : Rule) (i : Nat) (A B : List PV) : Prop where
  lo : ∀ m, oSlice none (some (i : Int)) R.enc m = .ok (.tup A, m)
  hi : ∀ m, oSlice (some ((i : Int) + 1)) none R.enc m = .ok (.tup B, m)
  a1 : ∀ v m, oAdd (.tup A) (.tup [v]) m = .ok (.tup (A ++ [v]), m)
  a2 : ∀ v m, oAdd (.tup (A ++ [v])) (.tup B) m = .ok (.tup (A ++ [v] ++ B), m)
  rl : ∀ v ∈ chP i, ∃ R' : Rule, R'.Ok ∧ R'.enc = .tup (A ++ [v] ++ B)
theorem parts_at (R : Rule) (ok : R.Ok) (i : Nat) (hi : i < 7) : ∃ A B, PartsAt R i A B := by
  obtain ⟨keep, new, strict, leeway, spare, every, fin⟩ := R
  obtain ⟨k1, k2, k3, k4⟩ := ok
  match i, hi with
  | 0, _ =>
    refine ⟨_, _, fun m => rfl, fun m => rfl, fun v m => rfl, fun v m => rfl, fun v hv => ?_⟩
    simp only [chP, List.mem_cons, List.mem_nil_iff, or_false] at hv
    rcases hv with rfl | rfl | rfl
    · exact ⟨⟨0, new, strict, leeway, spare, every, fin⟩, ⟨⟨by dsimp only; decide, by dsimp only; decide⟩, k2, k3, k4⟩, rfl⟩
    · exact ⟨⟨1, new, strict, leeway, spare, every, fin⟩, ⟨⟨by dsimp only; decide, by dsimp only; decide⟩, k2, k3, k4⟩, rfl⟩
    · exact ⟨⟨2, new, strict, leeway, spare, every, fin⟩, ⟨⟨by dsimp only; decide, by dsimp only; decide⟩, k2, k3, k4⟩, rfl⟩
  | 1, _ =>
    refine ⟨_, _, fun m => rfl, fun m => rfl, fun v m => rfl, fun v m => rfl, fun v hv => ?_⟩
    simp only [chP, List.mem_cons, List.mem_nil_iff, or_false] at hv
    rcases hv with rfl | rfl
    · exact ⟨⟨keep, true, strict, leeway, spare, every, fin⟩, ⟨k1, k2, k3, k4⟩, rfl⟩
    · exact ⟨⟨keep, false, strict, leeway, spare, every, fin⟩, ⟨k1, k2, k3, k4⟩, rfl⟩
  | 2, _ =>
    refine ⟨_, _, fun m => rfl, fun m => rfl, fun v m => rfl, fun v m => rfl, fun v hv => ?_⟩
    simp only [chP, List.mem_cons, List.mem_nil_iff, or_false] at hv
    rcases hv with rfl | rfl
    · exact ⟨⟨keep, new, false, leeway, spare, every, fin⟩, ⟨k1, k2, k3, k4⟩, rfl⟩
    · exact ⟨⟨keep, new, true, leeway, spare, every, fin⟩, ⟨k1, k2, k3, k4⟩, rfl⟩
  | 3, _ =>
    refine ⟨_, _, fun m => rfl, fun m => rfl, fun v m => rfl, fun v m => rfl, fun v hv => ?_⟩
    simp only [chP, List.mem_cons, List.mem_nil_iff, or_false] at hv
    rcases hv with rfl | rfl | rfl | rfl
    · exact ⟨⟨keep, new, strict, none, spare, every, fin⟩, ⟨k1, .inl rfl, k3, k4⟩, rfl⟩
    · exact ⟨⟨keep, new, strict, some 0, spare, every, fin⟩, ⟨k1, .inr ⟨0, rfl, by decide, by decide⟩, k3, k4⟩, rfl⟩
    · exact ⟨⟨keep, new, strict, some 1, spare, every, fin⟩, ⟨k1, .inr ⟨1, rfl, by decide, by decide⟩, k3, k4⟩, rfl⟩
    · exact ⟨⟨keep, new, strict, some 2, spare, every, fin⟩, ⟨k1, .inr ⟨2, rfl, by decide, by decide⟩, k3, k4⟩, rfl⟩
  | 4, _ =>
    refine ⟨_, _, fun m => rfl, fun m => rfl, fun v m => rfl, fun v m => rfl, fun v hv => ?_⟩
    simp only [chP, List.mem_cons, List.mem_nil_iff, or_false] at hv
    rcases hv with rfl | rfl | rfl | rfl
    · exact ⟨⟨keep, new, strict, leeway, none, every, fin⟩, ⟨k1, k2, .inl rfl, k4⟩, rfl⟩
    · exact ⟨⟨keep, new, strict, leeway, some 0, every, fin⟩, ⟨k1, k2, .inr ⟨0, rfl, by decide, by decide⟩, k4⟩, rfl⟩
    · exact ⟨⟨keep, new, strict, leeway, some 1, every, fin⟩, ⟨k1, k2, .inr ⟨1, rfl, by decide, by decide⟩, k4⟩, rfl⟩
    · exact ⟨⟨keep, new, strict, leeway, some 2, every, fin⟩, ⟨k1, k2, .inr ⟨2, rfl, by decide, by decide⟩, k4⟩, rfl⟩
  | 5, _ =>
    refine ⟨_, _, fun m => rfl, fun m => rfl, fun v m => rfl, fun v m => rfl, fun v hv => ?_⟩
    simp only [chP, List.mem_cons, List.mem_nil_iff, or_false] at hv
    rcases hv with rfl | rfl | rfl
    · exact ⟨⟨keep, new, strict, leeway, spare, 1, fin⟩, ⟨k1, k2, k3, ⟨by dsimp only; decide, by dsimp only; decide⟩⟩, rfl⟩
    · exact ⟨⟨keep, new, strict, leeway, spare, 2, fin⟩, ⟨k1, k2, k3, ⟨by dsimp only; decide, by dsimp only; decide⟩⟩, rfl⟩
    · exact ⟨⟨keep, new, strict, leeway, spare, 3, fin⟩, ⟨k1, k2, k3, ⟨by dsimp only; decide, by dsimp only; decide⟩⟩, rfl⟩
  | 6, _ =>
    refine ⟨_, _, fun m => rfl, fun m => rfl, fun v m => rfl, fun v m => rfl, fun v hv => ?_⟩
    simp only [chP, List.mem_cons, List.mem_nil_iff, or_false] at hv
    rcases hv with rfl | rfl
    · exact ⟨⟨keep, new, strict, leeway, spare, every, true⟩, ⟨k1, k2, k3, k4⟩, rfl⟩
    · exact ⟨⟨keep, new, strict, leeway, spare, every, false⟩, ⟨k1, k2, k3, k4⟩, rfl⟩
/-! ### texts of lists -/
def subs : List PV → List (List PV)
  | [] => [[]]
  | x :: xs => subs xs ++ (subs xs).map fun l => x :: l
theorem filter_subs (p : PV → Bool) : ∀ l : List PV, l.filter p ∈ subs l
  | [] => by simp [subs]
  | x :: xs => by
    have ih := filter_subs p xs
    unfold subs
    rw [List.filter_cons, List.mem_append, List.mem_map]
    split
    · exact .inr ⟨_, ih, rfl⟩
    · exact .inl ih
def okR (l : List PV) : Bool := match dOfs l with
  | some ds => (PySem.PyData.list ds).showable && (PySem.PyData.list ds).leavesShort 13 && decide ((PySem.PyData.list ds).weight ≤ 1048576)
  | none => false
theorem okR_all : (List.range 7).all (fun i => (subs (chP i)).all okR) = true := by decide +kernel
theorem repr_val {l : List PV} (h : okR l = true) : ∃ X, ∀ v m, look1 m v = .vl l → fReprL [v] m = .ok (.str X, m) := by
  unfold okR at h
  split at h
  · rename_i ds hd
    refine ⟨(PySem.PyData.list ds).shown.cps.toList, fun v m hl => ?_⟩
    unfold fReprL
    simp only [hl, hd, h, if_true]
  · cases h
theorem repr_part (i : Nat) (hi : i < 7) (p : PV → Bool) : ∃ X, ∀ v m, look1 m v = .vl ((chP i).filter p) → fReprL [v] m = .ok (.str X, m) :=
  repr_val (List.all_eq_true.mp (List.all_eq_true.mp okR_all i (List.mem_range.mpr hi)) _ (filter_subs p _))
/-! ### which values bear -/
def bears (w : PV) (c : Bool) (f : Int) : Bool := match f_fewest [w, .bl c] with
  | .ok .non => true
  | .ok (.int n) => decide (f < n)
  | _ => false
theorem fewest_at {w : PV} (c : Bool) (f : Int) (h : ∃ R : Rule, R.Ok ∧ R.enc = w) : ∃ x, (f_fewest [w, .bl c] = .ok x) ∧ w.pu = true ∧ x.pu = true ∧ ((x = .non ∧ bears w c f = true) ∨ ∃ n : Int, x = .int n ∧ bears w c f = decide (f < n)) := by
  obtain ⟨R, ok, rfl⟩ := h
  obtain ⟨r, _, e⟩ := fewest_ok ok c
  refine ⟨_, e, enc_pu R, by cases r <;> rfl, ?_⟩
  unfold bears
  rw [e]
  cases r with
  | none => exact .inl ⟨rfl, rfl⟩
  | some n => exact .inr ⟨n, rfl, rfl⟩
def gB (A B : List PV) (c : Bool) (f : Int) (v : PV) : Bool := bears (.tup (A ++ [v] ++ B)) c f
theorem choices_at (i : Nat) (hi : i < 7) : ∀ m, oIx c_CHOICES (.int i) m = .ok (.tup (chP i), m) := by
  intro m
  match i, hi with
  | 0, _ => rfl
  | 1, _ => rfl
  | 2, _ => rfl
  | 3, _ => rfl
  | 4, _ => rfl
  | 5, _ => rfl
  | 6, _ => rfl
theorem part_at (i : Nat) (hi : i < 7) : (∀ m, oIn true (.str (ptP i)) c_PARTS m = .ok (.bl false, m)) ∧ ∀ m, mIndexT (.tup (tupItems c_PARTS)) [.str (ptP i)] m = .ok (.int i, m) := by
  match i, hi with
  | 0, _ => exact ⟨fun m => rfl, fun m => rfl⟩
  | 1, _ => exact ⟨fun m => rfl, fun m => rfl⟩
  | 2, _ => exact ⟨fun m => rfl, fun m => rfl⟩
  | 3, _ => exact ⟨fun m => rfl, fun m => rfl⟩
  | 4, _ => exact ⟨fun m => rfl, fun m => rfl⟩
  | 5, _ => exact ⟨fun m => rfl, fun m => rfl⟩
  | 6, _ => exact ⟨fun m => rfl, fun m => rfl⟩
theorem chP_len (i : Nat) : (chP i).length ≤ 4 := by
  unfold chP
  split <;> decide
theorem chP_pu (i : Nat) (p : PV → Bool) : (PV.vl ((chP i).filter p)).pu = true := by
  have : ∀ x ∈ chP i, x.pu = true := by
    unfold chP
    split <;> simp
  show pus _ = true
  generalize chP i = L at *
  induction L with
  | nil => rfl
  | cons x xs ih =>
    rw [List.filter_cons]
    have i2 := ih fun y hy => this y (List.mem_cons_of_mem _ hy)
    split
    · rw [pus_cons, i2, this x List.mem_cons_self]; rfl
    · exact i2
theorem integer_int (i lo hi : Int) (m : Mm) : cP f_is_integer [.int i, .int lo, .int hi] m = .ok (.bl (decide (lo ≤ i) && decide (i ≤ hi)), m) := by
  have i1 : ∀ m, oIsA .tInt (.int i) m = .ok (.bl true, m) := fun m => rfl
  have i2 : ∀ m, oIsA .tBool (.int i) m = .ok (.bl false, m) := fun m => rfl
  have : f_is_integer [.int i, .int lo, .int hi] = .ok (.bl (decide (lo ≤ i) && decide (i ≤ hi))) := by
    refine bodyP_of rfl ?_
    by_cases h : lo ≤ i
    · simp [s_is_integer, startS, eChain, i1, i2, h]
    · simp [s_is_integer, startS, eChain, i1, i2, h]
  simp [cP, this]
theorem frzs_pu {f : PV → Option PV} (hf : ∀ v, v.pu = true → f v = some v) : ∀ xs : List PV, pus xs = true → frz.frzs f xs = some xs
  | [], _ => rfl
  | x :: xs, h => by
    simp only [pus_cons, Bool.and_eq_true] at h
    simp [frz.frzs, hf x h.1, frzs_pu hf xs h.2]
theorem frz_ref {m : Mm} {n k : Nat} {xs : List PV} (h : m[n]? = some (.lst xs)) (hp : pus xs = true) : frz (k + 1) m (.ref n) = some (.vl xs) := by
  simp [frz, h, frzs_pu (fun v hv => frz_pu hv) xs hp, PV.pu]
theorem need_rule_is {R : Rule} (ok : R.Ok) : f_need_rule [R.enc] = .ok .non := by
  have h := need_rule_ok ok []
  unfold cP at h
  rw [if_pos (by simp [enc_pu])] at h
  cases e : f_need_rule [R.enc] with
  | ok v => rw [e] at h; cases h; rfl
  | ex a b => rw [e] at h; cases h
  | no => rw [e] at h; cases h
theorem values_ok {R : Rule} (ok : R.Ok) {i : Nat} (hi : i < 7) (c : Bool) {f : Int} (f0 : 0 ≤ f) (f1 : f ≤ 10) {A B : List PV} (pa : PartsAt R i A B) :
    f_values_bearing [R.enc, .str (ptP i), .int f, .bl c] = .ok (.vl ((chP i).filter (gB A B c f))) := by
  have c1 : ∀ m, cX f_need_rule [R.enc] m = .ok (.non, m) := fun m => cX_ok (by simp [enc_pu]) (need_rule_is ok)
  have c2 : ∀ m, cX f_need_number [.int f, .int 0, .int 10] m = .ok (.non, m) := fun m => by
    refine cX_ok rfl ?_
    have c0 : ∀ m, cP f_is_integer [.int f, .int 0, .int 10] m = .ok (.bl true, m) := fun m => by rw [integer_int, decide_eq_true f0, decide_eq_true f1]; rfl
    simp [f_need_number, bodyP, bodyI, s_need_number, startS, c0, endF]
  obtain ⟨p1, p2⟩ := part_at i hi
  have t1 : ∀ m, oIsA .tStr (.str (ptP i)) m = .ok (.bl true, m) := fun m => rfl
  have ca := choices_at i hi
  obtain ⟨h1, h2, h3, h4, h5⟩ := pa
  have hf : ∀ v ∈ chP i, ∃ x, (∀ m, cP f_fewest [.tup (A ++ [v] ++ B), .bl c] m = .ok (x, m)) ∧ ((x = .non ∧ gB A B c f v = true) ∨ ∃ n : Int, x = .int n ∧ gB A B c f v = decide (f < n)) := fun v hv => by
    obtain ⟨x, e, pw, px, q⟩ := fewest_at c f (h5 v hv)
    exact ⟨x, fun m => cP_ok (by rw [pus_cons, pw]; rfl) e, q⟩
  have hl := chP_len i
  have fz : frz 4 [.lst ((chP i).filter (gB A B c f))] (.ref 0) = some (.vl ((chP i).filter (gB A B c f))) := frz_ref rfl (chP_pu i (gB A B c f))
  refine bodyP_of rfl ?_
  generalize hx : chP i = L at *
  generalize hg : gB A B c f = g at *
  generalize R.enc = x0 at *
  generalize ptP i = x1 at *
  simp [s_values_bearing, startS, c1, c2, t1, p1, p2, ca, eMT]
  refine wf_vals (fun done rest s m => ∃ x6 x7, s = [some x0, some (.str x1), some (.int f), some (.bl c), some (.int i), some (.ref 0), x6, x7] ∧ m = [.lst (done.filter g)] ∧ done.length + rest.length ≤ 4) ⟨_, _, rfl, rfl, by simpa using hl⟩ ?_ ?_
  · rintro done v rest s m ha ⟨x6, x7, rfl, rfl, hd⟩
    obtain ⟨x, e1, q⟩ := hf v (by rw [ha]; simp)
    simp only [List.append_assoc, List.cons_append, List.nil_append] at e1
    have fl : (done.filter g).length ≤ 4 := Nat.le_trans (List.length_filter_le _ _) (by omega)
    have ap : ∀ w : PV, mAppend (.ref 0) [w] [.lst (done.filter g)] = .ok (.non, [.lst (done.filter g ++ [w])]) := fun w => by
      simp only [mAppend, List.getElem?_cons_zero]
      rw [if_pos (by unfold LINE; omega)]; rfl
    have ty : tyOk [.lst (done.filter g)] .list (.ref 0) = true := rfl
    have hd2 : (done ++ [v]).length + rest.length ≤ 4 := by
      simp only [List.length_append, List.length_cons, List.length_nil] at hd ⊢; omega
    rcases q with ⟨rfl, q⟩ | ⟨n, rfl, q⟩
    · simp [b0_values_bearing, h1, h2, h3, h4, e1, ap, ty, q, List.filter_append]
      simpa using hd2
    · by_cases hn : f < n
      · rw [decide_eq_true hn] at q
        simp [b0_values_bearing, h1, h2, h3, h4, e1, ap, ty, q, hn, List.filter_append]
        simpa using hd2
      · rw [decide_eq_false hn] at q
        simp [b0_values_bearing, h1, h2, h3, h4, e1, ap, ty, q, hn, List.filter_append]
        simpa using hd2
  · rintro s m ⟨x6, x7, rfl, rfl, hd⟩
    simp [fz]
end TT
end

section
set_option linter.all false
set_option autoImplicit false
set_option maxRecDepth 100000
namespace TT
theorem eNK_at {f : ON} {fs gs : SA} {s : Sl} {m : Mm} : eNK f fs gs s m = (fs s m).bind fun p => (gs s p.2).bind fun q => f (p.1 ++ q.1) q.2 := rfl
theorem eND_at {f : ON} {fs : SA} {ds : List PV} {s : Sl} {m : Mm} : eND f fs ds s m = (fs s m).bind fun p => f (p.1 ++ ds) p.2 := rfl
theorem faults_at {R : Rule} (ok : R.Ok) {c : Bool} {x : PV} (h : f_fewest [R.enc, .bl c] = .ok x) (hx : x.pu = true) (m : Mm) : cP f_fewest_faults [R.enc, .bl c] m = .ok (x, m) := by
  refine cP_ok (by simp [enc_pu]) ?_
  have c1 := fun m => need_rule_ok ok m
  have c2 : ∀ m, cP f_fewest [R.enc, .bl c] m = .ok (x, m) := fun m => cP_ok (by simp [enc_pu]) h
  have fz : ∀ m, frz 4 m x = some x := fun m => frz_pu hx
  simp [f_fewest_faults, bodyP, bodyI, s_fewest_faults, startS, c1, c2, endF, fz]
def prV : List PV := (List.range 7).map fun i => .str (ptP i)
def chV : List PV := (List.range 7).map fun i => .vl (chP i)
theorem prV_at (i : Nat) (hi : i < 7) (m : Mm) : oIx (.vl prV) (.int i) m = .ok (.str (ptP i), m) := by
  match i, hi with
  | 0, _ => rfl
  | 1, _ => rfl
  | 2, _ => rfl
  | 3, _ => rfl
  | 4, _ => rfl
  | 5, _ => rfl
  | 6, _ => rfl
theorem chV_at (i : Nat) (hi : i < 7) (m : Mm) : oIx (.vl chV) (.int i) m = .ok (.vl (chP i), m) := by
  match i, hi with
  | 0, _ => rfl
  | 1, _ => rfl
  | 2, _ => rfl
  | 3, _ => rfl
  | 4, _ => rfl
  | 5, _ => rfl
  | 6, _ => rfl
def prE : SE := (eLst (aCons (eC (.str [107, 101, 101, 112])) (aCons (eC (.str [114, 101, 112, 108, 121])) (aCons (eC (.str [115, 116, 114, 105, 99, 116])) (aCons (eC (.str [108, 101, 101, 119, 97, 121])) (aCons (eC (.str [115, 112, 97, 114, 101])) (aCons (eC (.str [101, 118, 101, 114, 121])) (aCons (eC (.str [111, 108, 100])) aNil))))))))
def chE : SE := (eLst (aCons (eLst (aCons (eC (.int 0)) (aCons (eC (.int 1)) (aCons (eC (.int 2)) aNil)))) (aCons (eLst (aCons (eC (.str [110, 101, 119])) (aCons (eC (.str [115, 97, 109, 101])) aNil))) (aCons (eLst (aCons (eC (.bl false)) (aCons (eC (.bl true)) aNil))) (aCons (eLst (aCons (eC .non) (aCons (eC (.int 0)) (aCons (eC (.int 1)) (aCons (eC (.int 2)) aNil))))) (aCons (eLst (aCons (eC .non) (aCons (eC (.int 0)) (aCons (eC (.int 1)) (aCons (eC (.int 2)) aNil))))) (aCons (eLst (aCons (eC (.int 1)) (aCons (eC (.int 2)) (aCons (eC (.int 3)) aNil)))) (aCons (eLst (aCons (eC (.str [101, 110, 100])) (aCons (eC (.str [114, 101, 102, 117, 115, 101])) aNil))) aNil))))))))
theorem prE_ok (s : Sl) (m : Mm) : prE s m = .ok (.vl prV, m) := rfl
theorem chE_ok (s : Sl) (m : Mm) : chE s m = .ok (.vl chV, m) := rfl
theorem right_eq : s_law_right = (sSeq (sAsg prE (TT.gName 4))
  (sSeq (sAsg chE (TT.gName 5))
  (sSeq (sAsg (eLstM aNil) (TT.gName 6))
  (sSeq (sFor (iL (e2 oIx (eVar 5) (eVar 1))) (TT.gName 7) b0_law_right)
  (sRet (e2 oEq (eN fReprL (aCons (eNK (cP f_values_bearing) (aCons (eVar 0) (aCons (e2 oIx (eVar 4) (eVar 1)) (aCons (eVar 2) aNil))) (aCons (eVar 3) aNil)) aNil)) (eN fReprL (aCons (eVar 6) aNil)))))))) := rfl
theorem look_at {m : Mm} {n : Nat} {l : List PV} (h : m[n]? = some (.lst l)) : look1 m (.ref n) = .vl l := by
  simp [look1, h]
theorem right_ok {R : Rule} (ok : R.Ok) {i : Nat} (hi : i < 7) (c : Bool) {f : Int} (f0 : 0 ≤ f) (f1 : f ≤ 10) (m : Mm) :
    ∃ o, i_law_right [R.enc, .int i, .int f, .bl c] m = .ok (.bl true, m ++ [o]) := by
  obtain ⟨A, B, pa⟩ := parts_at R ok i hi
  have vb := values_ok ok hi c f0 f1 pa
  have vb : ∀ m, cP f_values_bearing [R.enc, .str (ptP i), .int f, .bl c] m = .ok (.vl ((chP i).filter (gB A B c f)), m) := fun m => cP_ok (by simp [enc_pu]) vb
  have pr := prV_at i hi
  have ca := chV_at i hi
  obtain ⟨h1, h2, h3, h4, h5⟩ := pa
  have hf : ∀ v ∈ chP i, ∃ x, (∀ m, cP f_fewest_faults [.tup (A ++ [v] ++ B), .bl c] m = .ok (x, m)) ∧ ((x = .non ∧ gB A B c f v = true) ∨ ∃ n : Int, x = .int n ∧ gB A B c f v = decide (f < n)) := fun v hv => by
    obtain ⟨x, e, pw, px, q⟩ := fewest_at c f (h5 v hv)
    obtain ⟨R', ok', e'⟩ := h5 v hv
    rw [← e'] at e ⊢
    exact ⟨x, fun m => faults_at ok' e px m, q⟩
  have hl := chP_len i
  obtain ⟨X, hX⟩ := repr_part i hi (gB A B c f)
  have key := bodyI_of (n := 9) (k := 4) (b := s_law_right) (args := [R.enc, .int i, .int f, .bl c]) (m := m) (P := fun v m' => v = .bl true ∧ ∃ o, m' = m ++ [o]) rfl ?_
  · obtain ⟨v, m', e, rfl, o, rfl⟩ := key
    exact ⟨o, e⟩
  have p1 := prE_ok
  have p2 := chE_ok
  rw [right_eq]
  generalize hx : chP i = L at *
  generalize hg : gB A B c f = g at *
  generalize R.enc = x0 at *
  generalize ptP i = x1 at *
  generalize prV = V1 at *
  generalize chV = V2 at *
  simp [startS, p1, p2, ca]
  have mb : ∀ o : Ob, (m ++ [o])[m.length]? = some o := fun o => by simp
  refine wf_vals (fun done rest s m' => ∃ x7 x8, s = [some x0, some (.int i), some (.int f), some (.bl c), some (.vl V1), some (.vl V2), some (.ref m.length), x7, x8] ∧ m' = m ++ [.lst (done.filter g)] ∧ done.length + rest.length ≤ 4) ⟨_, _, rfl, rfl, by simpa using hl⟩ ?_ ?_
  · rintro done v rest s m' ha ⟨x7, x8, rfl, rfl, hd⟩
    obtain ⟨x, e1, q⟩ := hf v (by rw [ha]; simp)
    simp only [List.append_assoc, List.cons_append, List.nil_append] at e1
    have fl : (done.filter g).length ≤ 4 := Nat.le_trans (List.length_filter_le _ _) (by omega)
    have ap : ∀ w : PV, mAppend (.ref m.length) [w] (m ++ [.lst (done.filter g)]) = .ok (.non, m ++ [.lst (done.filter g ++ [w])]) := fun w => by
      simp only [mAppend, mb]
      rw [if_pos (by unfold LINE; omega)]
      simp
    have ty : tyOk (m ++ [.lst (done.filter g)]) .list (.ref m.length) = true := by simp [tyOk]
    have hd2 : (done ++ [v]).length + rest.length ≤ 4 := by
      simp only [List.length_append, List.length_cons, List.length_nil] at hd ⊢; omega
    rcases q with ⟨rfl, q⟩ | ⟨n, rfl, q⟩
    · simp [b0_law_right, eNK_at, h1, h2, h3, h4, e1, ap, ty, q, List.filter_append]
      simpa using hd2
    · by_cases hn : f < n
      · rw [decide_eq_true hn] at q
        simp [b0_law_right, eNK_at, h1, h2, h3, h4, e1, ap, ty, q, hn, List.filter_append]
        simpa using hd2
      · rw [decide_eq_false hn] at q
        simp [b0_law_right, eNK_at, h1, h2, h3, h4, e1, ap, ty, q, hn, List.filter_append]
        simpa using hd2
  · rintro s m' ⟨x7, x8, rfl, rfl, hd⟩
    have r1 := hX (.vl (L.filter g)) (m ++ [.lst (L.filter g)]) rfl
    have r2 := hX (.ref m.length) (m ++ [.lst (L.filter g)]) (by simp [look1])
    simp [eNK_at, pr, vb, r1, r2]
theorem easy_ok {m : Mm} {b : Nat} {a s : Int} (h : m[b]? = some (.lst [.int a, .int s])) :
    ∃ R : Rule, R.Ok ∧ (R.leeway = none ∨ R.spare = none) ∧ ∃ a' s' : Int, i_law_easy [.ref b] m = .ok (R.enc, m.set b (.lst [.int a', .int s'])) := by
  obtain ⟨R, ok, a0, s0, e0⟩ := rule_ok h
  have h0 := getset1 (o' := .lst [.int a0, .int s0]) h
  obtain ⟨keep, new, strict, leeway, spare, every, fin⟩ := R
  have i3 : ∀ m, oIx (Rule.enc ⟨keep, new, strict, leeway, spare, every, fin⟩) (.int 3) m = .ok (encO leeway, m) := fun m => rfl
  have i4 : ∀ m, oIx (Rule.enc ⟨keep, new, strict, leeway, spare, every, fin⟩) (.int 4) m = .ok (encO spare, m) := fun m => rfl
  have h3 : ∀ m, oSlice none (some 3) (Rule.enc ⟨keep, new, strict, leeway, spare, every, fin⟩) m = .ok (.tup [.int keep, .str (if new then sNew else sSame), .bl strict], m) := fun m => rfl
  have l5 : ∀ m, oSlice (some 5) none (Rule.enc ⟨keep, new, strict, leeway, spare, every, fin⟩) m = .ok (.tup [.int every, .str (if fin then sEnd else sRefuse)], m) := fun m => rfl
  have ad : ∀ (x y : PV) m, oAdd (.tup [.int keep, .str (if new then sNew else sSame), .bl strict]) (.tup [x, y]) m = .ok (.tup [.int keep, .str (if new then sNew else sSame), .bl strict, x, y], m) := fun x y m => rfl
  have ad2 : ∀ (x y : Option Int) m, oAdd (.tup [.int keep, .str (if new then sNew else sSame), .bl strict, encO x, encO y]) (.tup [.int every, .str (if fin then sEnd else sRefuse)]) m = .ok (Rule.enc ⟨keep, new, strict, x, y, every, fin⟩, m) := fun x y m => rfl
  by_cases hc : leeway = none ∨ spare = none
  · refine ⟨⟨keep, new, strict, leeway, spare, every, fin⟩, ok, hc, a0, s0, ?_⟩
    generalize Rule.enc ⟨keep, new, strict, leeway, spare, every, fin⟩ = V at *
    simp only [i_law_easy, bodyI, s_law_easy]
    rcases hc with rfl | rfl
    · simp [startS, cI, e0, i3, encO, endF]
    · cases leeway <;> simp [startS, cI, e0, i3, i4, encO, endF]
  · cases leeway with
    | none => exact absurd (.inl rfl) hc
    | some x =>
      cases spare with
      | none => exact absurd (.inr rfl) hc
      | some y =>
        obtain ⟨v, mv, a1, s1, e1⟩ := of_ok (xs := [.tup [.non, .int y], .tup [.int x, .non]]) h0 (show 0 < 2 by decide) (show 2 < 1073741824 by decide)
        simp only [List.set_set] at e1
        simp only [List.mem_cons, List.mem_nil_iff, or_false] at mv
        rcases mv with rfl | rfl
        · have q1 := ad .non (.int y)
          have q2 := ad2 none (some y)
          refine ⟨⟨keep, new, strict, none, some y, every, fin⟩, ⟨ok.keep, .inl rfl, ok.spare, ok.every⟩, .inl rfl, a1, s1, ?_⟩
          generalize Rule.enc ⟨keep, new, strict, some x, some y, every, fin⟩ = V at *
          generalize Rule.enc ⟨keep, new, strict, none, some y, every, fin⟩ = V2 at *
          generalize PV.str (if new then sNew else sSame) = w1 at *
          generalize PV.str (if fin then sEnd else sRefuse) = w2 at *
          simp only [encO] at q2 i3 i4
          simp only [i_law_easy, bodyI, s_law_easy]
          simp [startS, cI, e0, e1, i3, i4, h3, l5, q1, q2, encO, endF]
        · have q1 := ad (.int x) .non
          have q2 := ad2 (some x) none
          refine ⟨⟨keep, new, strict, some x, none, every, fin⟩, ⟨ok.keep, ok.leeway, .inl rfl, ok.every⟩, .inr rfl, a1, s1, ?_⟩
          generalize Rule.enc ⟨keep, new, strict, some x, some y, every, fin⟩ = V at *
          generalize Rule.enc ⟨keep, new, strict, some x, none, every, fin⟩ = V2 at *
          generalize PV.str (if new then sNew else sSame) = w1 at *
          generalize PV.str (if fin then sEnd else sRefuse) = w2 at *
          simp only [encO] at q2 i3 i4
          simp only [i_law_easy, bodyI, s_law_easy]
          simp [startS, cI, e0, e1, i3, i4, h3, l5, q1, q2, encO, endF]
/-! ### what is no part, no number, no rule -/
theorem vb_c1 {R : Rule} (ok : R.Ok) (m : Mm) : cX f_need_rule [R.enc] m = .ok (.non, m) := cX_ok (by simp [enc_pu]) (need_rule_is ok)
def oddP : List PV := [.non, .str [107, 101, 112, 116], .str [], .int 0, .bl true, .vl [.str [107, 101, 101, 112]], .tup [.str [107, 101, 101, 112]]]
theorem odd_part {R : Rule} (ok : R.Ok) : ∀ v ∈ oddP, v.pu = true ∧ f_values_bearing [R.enc, v, .non, .bl false] = .ex (.mk 6 []) [] := by
  intro v hv
  have c1 := vb_c1 ok
  have key : ∀ v : PV, ((∀ m, oIsA .tStr v m = .ok (.bl false, m)) ∨ ((∀ m, oIsA .tStr v m = .ok (.bl true, m)) ∧ ∀ m, oIn true v c_PARTS m = .ok (.bl true, m))) → f_values_bearing [R.enc, v, .non, .bl false] = .ex (.mk 6 []) [] := by
    intro v h
    generalize R.enc = x0 at *
    rcases h with h | ⟨h, h'⟩
    · simp [f_values_bearing, bodyP, bodyI, s_values_bearing, startS, c1, h, sRaise, endF]
    · simp [f_values_bearing, bodyP, bodyI, s_values_bearing, startS, c1, h, h', sRaise, endF]
  simp only [oddP, List.mem_cons, List.mem_nil_iff, or_false] at hv
  rcases hv with rfl | rfl | rfl | rfl | rfl | rfl | rfl
  · exact ⟨rfl, key _ (.inl fun m => rfl)⟩
  · exact ⟨rfl, key _ (.inr ⟨fun m => rfl, fun m => rfl⟩)⟩
  · exact ⟨rfl, key _ (.inr ⟨fun m => rfl, fun m => rfl⟩)⟩
  · exact ⟨rfl, key _ (.inl fun m => rfl)⟩
  · exact ⟨rfl, key _ (.inl fun m => rfl)⟩
  · exact ⟨rfl, key _ (.inl fun m => rfl)⟩
  · exact ⟨rfl, key _ (.inl fun m => rfl)⟩
def oddN : List PV := [.non, .int (-1), .int 11, .bl true, .str [49], .tup [.int 1]]
theorem odd_num {R : Rule} (ok : R.Ok) : ∀ v ∈ oddN, v.pu = true ∧ f_values_bearing [R.enc, .str [111, 108, 100], v, .bl false] = .ex (.mk 3 []) [] := by
  intro v hv
  have c1 := vb_c1 ok
  have key : ∀ v : PV, v.pu = true → f_is_integer [v, .int 0, .int 10] = .ok (.bl false) → f_values_bearing [R.enc, .str [111, 108, 100], v, .bl false] = .ex (.mk 3 []) [] := by
    intro v hp h
    have c2 : ∀ m, cP f_is_integer [v, .int 0, .int 10] m = .ok (.bl false, m) := fun m => cP_ok (by simp [hp]) h
    have c3 : f_need_number [v, .int 0, .int 10] = .ex (.mk 3 []) [] := by simp [f_need_number, bodyP, bodyI, s_need_number, startS, c2, sRaise, endF]
    have c4 : ∀ m, cX f_need_number [v, .int 0, .int 10] m = .ex (.mk 3 []) m := fun m => cX_ex (by simp [hp]) c3
    have t1 : ∀ m, oIsA .tStr (.str [111, 108, 100]) m = .ok (.bl true, m) := fun m => rfl
    have t2 : ∀ m, oIn true (.str [111, 108, 100]) c_PARTS m = .ok (.bl false, m) := fun m => rfl
    generalize R.enc = x0 at *
    simp [f_values_bearing, bodyP, bodyI, s_values_bearing, startS, c1, t1, t2, c4, endF]
  simp only [oddN, List.mem_cons, List.mem_nil_iff, or_false] at hv
  rcases hv with rfl | rfl | rfl | rfl | rfl | rfl <;> exact ⟨rfl, key _ rfl rfl⟩
theorem odd_rule (R : Rule) : ∃ w, (∀ m, oSlice none (some 6) R.enc m = .ok (w, m)) ∧ w.pu = true ∧ f_values_bearing [w, .str [107, 101, 112, 116], .non, .bl false] = .ex (.mk 1 []) [] := by
  have hp := enc_pu R
  obtain ⟨keep, new, strict, leeway, spare, every, fin⟩ := R
  refine ⟨.tup [.int keep, .str (if new then sNew else sSame), .bl strict, encO leeway, encO spare, .int every], fun m => rfl, by cases leeway <;> cases spare <;> rfl, ?_⟩
  have nr : f_is_rule [.tup [.int keep, .str (if new then sNew else sSame), .bl strict, encO leeway, encO spare, .int every]] = .ok (.bl false) := rfl
  have pw : (PV.tup [.int keep, .str (if new then sNew else sSame), .bl strict, encO leeway, encO spare, .int every]).pu = true := by cases leeway <;> cases spare <;> rfl
  generalize PV.tup [.int keep, .str (if new then sNew else sSame), .bl strict, encO leeway, encO spare, .int every] = w at *
  have c0 : ∀ m, cP f_is_rule [w] m = .ok (.bl false, m) := fun m => cP_ok (by simp [pw]) nr
  have n0 : f_need_rule [w] = .ex (.mk 1 []) [] := by simp [f_need_rule, bodyP, bodyI, s_need_rule, startS, c0, sRaise, endF]
  have c1 : ∀ m, cX f_need_rule [w] m = .ex (.mk 1 []) m := fun m => cX_ex (by simp [pw]) n0
  simp [f_values_bearing, bodyP, bodyI, s_values_bearing, startS, c1, endF]
/-! ### the law -/
def isL3 : Rs PV → Bool
  | .ok (.vl [.int 0, .int 1, .int 2]) => true
  | _ => false
theorem isL3_of {r : Rs PV} (h : isL3 r = true) : r = .ok (.vl [.int 0, .int 1, .int 2]) := by
  unfold isL3 at h
  split at h
  · rfl
  · cases h
theorem last_ok : f_values_bearing [.tup [.int 0, .str [115, 97, 109, 101], .bl false, .non, .non, .int 1, .str [101, 110, 100]], .str [107, 101, 101, 112], .int 0, .bl false] = .ok (.vl [.int 0, .int 1, .int 2]) := isL3_of (by decide +kernel)
theorem turn_ok {fz V : PV} {R : Rule} (ok : R.Ok) (hV : R.enc = V) {P b : Nat} (hb : b ≠ 0) {k : Int} {i : Nat} (hi : i < 3) {x5 : Option PV} {m : Mm} {a s : Int} (z : m[0]? = some (.tab P q_lam)) (kb : m[b]? = some (.lst [.int a, .int s])) {Q : FQ}
    (hq : ∀ a' s' m', m'[0]? = some (.tab P q_lam) → m'[b]? = some (.lst [.int a', .int s']) → Q .nx [some fz, some (.int k), some (.ref b), some V, some (.int i), x5] m') :
    Wp b2_law [some fz, some (.int k), some (.ref b), some V, some (.int i), x5] m Q := by
  obtain ⟨r, a1, s1, r0, r1, e1⟩ := take_ok (c := 7) kb (by decide) (by decide)
  have z1 : (m.set b (.lst [.int a1, .int s1]))[0]? = some (.tab P q_lam) := by rw [List.getElem?_set_ne hb]; exact z
  have k1 := getset1 (o' := .lst [.int a1, .int s1]) kb
  generalize m.set b (.lst [.int a1, .int s1]) = m1 at *
  obtain ⟨u, a2, s2, u0, u1, e2⟩ := take_ok (c := 11) k1 (by decide) (by decide)
  have z2 : (m1.set b (.lst [.int a2, .int s2]))[0]? = some (.tab P q_lam) := by rw [List.getElem?_set_ne hb]; exact z1
  have k2 := getset1 (o' := .lst [.int a2, .int s2]) k1
  generalize m1.set b (.lst [.int a2, .int s2]) = m2 at *
  obtain ⟨v, hv, a3, s3, e3⟩ := of_ok (xs := [.int 0, .int 1, .int 2, .int 3, .int u]) k2 (by simp) (by simp)
  have z3 : (m2.set b (.lst [.int a3, .int s3]))[0]? = some (.tab P q_lam) := by rw [List.getElem?_set_ne hb]; exact z2
  have k3 := getset1 (o' := .lst [.int a3, .int s3]) k2
  generalize m2.set b (.lst [.int a3, .int s3]) = m3 at *
  obtain ⟨f, rfl, f0, f1⟩ : ∃ f : Int, v = .int f ∧ 0 ≤ f ∧ f ≤ 10 := by
    simp only [List.mem_cons, List.mem_nil_iff, or_false] at hv
    rcases hv with rfl | rfl | rfl | rfl | rfl
    · exact ⟨_, rfl, by decide, by decide⟩
    · exact ⟨_, rfl, by decide, by decide⟩
    · exact ⟨_, rfl, by decide, by decide⟩
    · exact ⟨_, rfl, by decide, by decide⟩
    · exact ⟨_, rfl, u0, by omega⟩
  obtain ⟨o, e4⟩ := right_ok ok (i := r.toNat) (by omega) ((i : Int) == 1) f0 f1 m3
  rw [Int.toNat_of_nonneg r0, hV] at e4
  have eqc : ∀ m : Mm, oEq (.int (i : Int)) (.int 1) m = .ok (.bl ((i : Int) == 1), m) := fun m => by
    rw [oEq_int]
  have t1 : (eLst (aCons (eC (.int 0)) (aCons (eC (.int 1)) (aCons (eC (.int 2)) (aCons (eC (.int 3)) (aCons (eN (cI i_law_take) (aCons (eVar 2) (aCons (eC (.int 11)) aNil))) aNil)))))) [some fz, some (.int k), some (.ref b), some V, some (.int i), x5] m1 = .ok (.vl [.int 0, .int 1, .int 2, .int 3, .int u], m2) := by simp [cI, e2]
  generalize ((i : Int) == 1) = cc at *
  unfold b2_law
  rw [Wp_if]
  have tt : (tNot (tT (eN (cI i_law_right) (aCons (eVar 3) (aCons (eN (cI i_law_take) (aCons (eVar 2) (aCons (eC (.int 7)) aNil))) (aCons (eN (cI i_law_of) (aCons (eVar 2) (aCons (eLst (aCons (eC (.int 0)) (aCons (eC (.int 1)) (aCons (eC (.int 2)) (aCons (eC (.int 3)) (aCons (eN (cI i_law_take) (aCons (eVar 2) (aCons (eC (.int 11)) aNil))) aNil)))))) aNil))) (aCons (TT.e2 oEq (eVar 4) (eC (.int 1))) aNil))))))) [some fz, some (.int k), some (.ref b), some V, some (.int i), x5] m = .ok (false, m3 ++ [o]) := by
    generalize hL : (eLst (aCons (eC (.int 0)) (aCons (eC (.int 1)) (aCons (eC (.int 2)) (aCons (eC (.int 3)) (aCons (eN (cI i_law_take) (aCons (eVar 2) (aCons (eC (.int 11)) aNil))) aNil)))))) = LL at *
    simp [cI, e1, t1, e3, e4, eqc]
  rw [tt, Wt_ok, Ci_f, Wp_skip]
  exact hq a3 s3 _ (by rw [List.getElem?_append_left (List.getElem?_eq_some_iff.mp z3).1]; exact z3) (by rw [List.getElem?_append_left (List.getElem?_eq_some_iff.mp k3).1]; exact k3)
theorem bag_turn (P : Nat) (ns : List Int) (k : Int) (h0 : 0 ≤ k) (h1 : k < 1000) (s : Sl) (m : Mm) (hm : m[0]? = some (.tab P q_lam)) (Q : FQ)
    (hs : ∃ x2 x3 x4 x5, s = [some (.fz (ns.map PV.int)), some (.int k), x2, x3, x4, x5])
    (hq : ∀ s' m', (∃ x1 x2 x3 x4 x5, s' = [some (.fz (ns.map PV.int)), x1, x2, x3, x4, x5]) → m'[0]? = some (.tab P q_lam) → Q .nx s' m') : Wp (b3_law P) s m Q := by
  obtain ⟨x2, x3, x4, x5, rfl⟩ := hs
  have hm0 : 0 < m.length := (List.getElem?_eq_some_iff.mp hm).1
  obtain ⟨a, s, eb⟩ := bag_ok (m := m) (xs := ns.map PV.int) h0 h1 (fun x hx => by obtain ⟨i, _, e⟩ := List.mem_map.mp hx; exact ⟨i, e.symm⟩)
  obtain ⟨m1, hm1⟩ : ∃ m1, m1 = m ++ [Ob.lst [.int a, .int s]] := ⟨_, rfl⟩
  rw [← hm1] at eb
  have k1 : m1[m.length]? = some (.lst [.int a, .int s]) := by rw [hm1]; simp
  have z1 : m1[0]? = some (.tab P q_lam) := by rw [hm1, List.getElem?_append_left hm0]; exact hm
  have hb : m.length ≠ 0 := by omega
  generalize m.length = b at eb k1 hb
  clear hm1 hm0 hm
  obtain ⟨R, ok, _, a2, s2, e2⟩ := easy_ok k1
  have z2 : (m1.set b (.lst [.int a2, .int s2]))[0]? = some (.tab P q_lam) := by rw [List.getElem?_set_ne hb]; exact z1
  have k2 := getset1 (o' := .lst [.int a2, .int s2]) k1
  generalize m1.set b (.lst [.int a2, .int s2]) = m2 at *
  clear k1 z1
  have op := odd_part ok
  have on := odd_num ok
  obtain ⟨w, w1, wp, w2⟩ := odd_rule R
  have vp := enc_pu R
  obtain ⟨V, hV⟩ : ∃ V, R.enc = V := ⟨_, rfl⟩
  rw [hV] at e2 op on w1 vp
  have op : ∀ v ∈ oddP, ∀ m, cX f_values_bearing [V, v, .non, .bl false] m = .ex (.mk 6 []) m := fun v hv m => cX_ex (by simp [vp, (op v hv).1]) (op v hv).2
  have on : ∀ v ∈ oddN, ∀ m, cX f_values_bearing [V, .str [111, 108, 100], v, .bl false] m = .ex (.mk 3 []) m := fun v hv m => cX_ex (by simp [vp, (on v hv).1]) (on v hv).2
  have w3 : ∀ m, cX f_values_bearing [w, .str [107, 101, 112, 116], .non, .bl false] m = .ex (.mk 1 []) m := fun m => cX_ex (by simp [wp]) w2
  generalize PV.fz (ns.map PV.int) = fz at *
  have r3 : ∀ s m, TT.iRng1 (eC (.int 3)) s m = .ok (rngL 0 3, m) := fun s m => rng1_of (x := 3) rfl rfl (by decide)
  have ip : ∀ s m, (iL (eLst (aCons (eC .non) (aCons (eC (.str [107, 101, 112, 116])) (aCons (eC (.str [])) (aCons (eC (.int 0)) (aCons (eC (.bl true)) (aCons (eLst (aCons (eC (.str [107, 101, 101, 112])) aNil)) (aCons (eTup (aCons (eC (.str [107, 101, 101, 112])) aNil)) aNil))))))))) s m = .ok (oddP, m) := fun s m => rfl
  have iN : ∀ s m, (iL (eLst (aCons (eC .non) (aCons (e1 oNeg (eC (.int 1))) (aCons (eC (.int 11)) (aCons (eC (.bl true)) (aCons (eC (.str [49])) (aCons (eTup (aCons (eC (.int 1)) aNil)) aNil)))))))) s m = .ok (oddN, m) := fun s m => rfl
  generalize hP : oddP = OP at *
  generalize hN : oddN = ON' at *
  unfold b3_law
  simp only [Wp_seq]
  simp [cI, eb, e2, r3, -iRng1_ap]
  refine wf_rng (fun i s m => ∃ x4 a s', s = [some fz, some (.int k), some (.ref b), some V, x4, x5] ∧ m[0]? = some (.tab P q_lam) ∧ m[b]? = some (.lst [.int a, .int s'])) ⟨_, _, _, rfl, z2, k2⟩ ?_ ?_
  · rintro i s m hi ⟨x4, a, s', rfl, z, kb⟩
    simp only [gName_ap, Wg_ok, Cb_ap, List.set_cons_succ, List.set_cons_zero, Int.zero_add]
    exact turn_ok ok hV hb hi z kb fun a' s' m' z' k' => by rw [Lq_nx]; exact ⟨_, _, _, rfl, z', k'⟩
  · rintro s m ⟨x4, a, s', rfl, z, kb⟩
    rw [Kq_nx]
    simp only [Wp_seq, Wp_for, ip, Wi_ok, Cf_ap]
    refine wf_all (fun s m => ∃ x5, s = [some fz, some (.int k), some (.ref b), some V, x4, x5] ∧ m[0]? = some (.tab P q_lam)) ⟨_, rfl, z⟩ ?_ ?_
    · rintro v hv s m ⟨x5, rfl, z⟩
      have t1 : eTold P q_lam t__law_error [110, 111, 110, 101] [1, 6, 3] (eND (cX f_values_bearing) (aCons (eVar 3) (aCons (eVar 5) (aCons (eC .non) aNil))) [(.bl false)]) [some fz, some (.int k), some (.ref b), some V, x4, some v] m = .ok (.str [112, 97, 114, 116], m) :=
        told_ex (c := 6) z (by simp [eND_at, op v hv]) rfl
      simp [b1_law, t1, z]
    · rintro s m ⟨x5, rfl, z⟩
      rw [Kq_nx]
      simp only [Wp_seq, Wp_for, iN, Wi_ok, Cf_ap]
      refine wf_all (fun s m => ∃ x5, s = [some fz, some (.int k), some (.ref b), some V, x4, x5] ∧ m[0]? = some (.tab P q_lam)) ⟨_, rfl, z⟩ ?_ ?_
      · rintro v hv s m ⟨x5, rfl, z⟩
        have t1 : eTold P q_lam t__law_error [110, 111, 110, 101] [1, 6, 3] (eND (cX f_values_bearing) (aCons (eVar 3) (aCons (eC (.str [111, 108, 100])) (aCons (eVar 5) aNil))) [(.bl false)]) [some fz, some (.int k), some (.ref b), some V, x4, some v] m = .ok (.str [110, 117, 109, 98, 101, 114], m) :=
          told_ex (c := 3) z (by simp [eND_at, on v hv]) rfl
        simp [b0_law, t1, z]
      · rintro s m ⟨x5, rfl, z⟩
        have t1 : eTold P q_lam t__law_error [110, 111, 110, 101] [1, 6, 3] (eND (cX f_values_bearing) (aCons (eSlH (eC (.int 6)) (eVar 3)) (aCons (eC (.str [107, 101, 112, 116])) (aCons (eC .non) aNil))) [(.bl false)]) [some fz, some (.int k), some (.ref b), some V, x4, x5] m = .ok (.str [114, 117, 108, 101], m) :=
          told_ex (c := 1) z (by simp [eND_at, w1, w3]) rfl
        rw [Kq_nx]
        simp [t1]
        exact hq _ _ ⟨_, _, _, _, _, rfl⟩ z
theorem law_holds (P : Nat) (ns : List Int) (hl : ns.length ≤ 63) : ∃ m, bodyI 6 1 (s_law P) [.fz (ns.map PV.int)] [.tab P q_lam] = .ok (.bl true, m) := by
  have key := bodyI_of (n := 6) (k := 1) (b := s_law P) (args := [.fz (ns.map PV.int)]) (m := [.tab P q_lam]) (P := fun v m' => v = .bl true) rfl ?_
  · obtain ⟨v, m', e, rfl⟩ := key
    exact ⟨m', e⟩
  obtain ⟨n, hn, e⟩ := span_ok 3 1 (by decide) (by decide) ns hl (startS 6 [.fz (ns.map PV.int)]) rfl [.tab P q_lam]
  have e : TT.iRng1 (e2 oAdd (eN fMin (aCons (eN fLen (aCons (eVar 0) aNil)) (aCons (eC (.int 3)) aNil))) (eC (.int 1))) (startS 6 [.fz (ns.map PV.int)]) [.tab P q_lam] = .ok (rngL 0 n, [.tab P q_lam]) := e
  have c0 : ∀ m, cP f_values_bearing [.tup [.int 0, .str [115, 97, 109, 101], .bl false, .non, .non, .int 1, .str [101, 110, 100]], .str [107, 101, 101, 112], .int 0, .bl false] m = .ok (.vl [.int 0, .int 1, .int 2], m) := fun m => cP_ok rfl last_ok
  have eq3 : ∀ m, oEq (.vl [.int 0, .int 1, .int 2]) (.vl [.int 0, .int 1, .int 2]) m = .ok (.bl true, m) := fun m => rfl
  unfold s_law
  rw [Wp_seq, Wp_for, e, Wi_ok, Cf_ap]
  refine wf_rng (fun i s m => (∃ x1 x2 x3 x4 x5, s = [some (.fz (ns.map PV.int)), x1, x2, x3, x4, x5]) ∧ m[0]? = some (.tab P q_lam)) ⟨⟨_, _, _, _, _, rfl⟩, rfl⟩ ?_ ?_
  · rintro i s m hi ⟨⟨x1, x2, x3, x4, x5, rfl⟩, z⟩
    rw [gName_ap, Wg_ok, Cb_ap]
    exact bag_turn P ns _ (by omega) (by omega) _ m z _ ⟨_, _, _, _, rfl⟩ fun s' m' h z' => ⟨h, z'⟩
  · rintro s m ⟨⟨x1, x2, x3, x4, x5, rfl⟩, z⟩
    simp [eND_at, c0, eq3]
end TT
end

section
set_option Elab.async false
set_option linter.all false
set_option autoImplicit false
set_option maxRecDepth 100000
set_option maxHeartbeats 4000000
namespace TT
open PySem PySem.Spec PyProof.Rows L2
def topS (i : Nat) : Stmt := PySem.Challenge.pw_tokenturns_k07_values_that_bear_faults.main.body.getD i (.Pass ⟨0, 0, 0, 0⟩)
structure Blt (mg : Str → Option Value) : Prop where
  b_all : mg "all" = none
  b_bool : mg "bool" = none
  b_int : mg "int" = none
  b_isinstance : mg "isinstance" = none
  b_len : mg "len" = none
  b_min : mg "min" = none
  b_range : mg "range" = none
  b_repr : mg "repr" = none
  b_str : mg "str" = none
  b_tuple : mg "tuple" = none
  b_zip : mg "zip" = none
abbrev st_is_integer : Stmt := topS 8
abbrev n_is_integer : List Str := ["value", "low", "high"]
theorem S_is_integer : FnScope n_is_integer ["value", "low", "high"] (defScope st_is_integer) := ⟨rfl, rfl, rfl, by decide +kernel, rfl, by decide +kernel, by decide +kernel⟩
abbrev st_is_choice : Stmt := topS 9
abbrev n_is_choice : List Str := ["value", "choices", "one"]
theorem S_is_choice : FnScope n_is_choice ["value", "choices"] (defScope st_is_choice) := ⟨rfl, rfl, rfl, by decide +kernel, rfl, by decide +kernel, by decide +kernel⟩
abbrev st_first_stand : Stmt := topS 13
abbrev n_first_stand : List Str := ["rule", "keep", "reply", "strict", "leeway", "spare", "ages"]
theorem S_first_stand : FnScope n_first_stand ["rule"] (defScope st_first_stand) := ⟨rfl, rfl, rfl, by decide +kernel, rfl, by decide +kernel, by decide +kernel⟩
abbrev st_is_good : Stmt := topS 14
abbrev n_is_good : List Str := ["rule", "stand", "old_by", "keep", "reply", "strict", "leeway", "spare"]
theorem S_is_good : FnScope n_is_good ["rule", "stand", "old_by"] (defScope st_is_good) := ⟨rfl, rfl, rfl, by decide +kernel, rfl, by decide +kernel, by decide +kernel⟩
abbrev st_with_token : Stmt := topS 15
abbrev n_with_token : List Str := ["rule", "lead", "ages", "spared", "counted"]
theorem S_with_token : FnScope n_with_token ["rule", "lead", "ages", "spared", "counted"] (defScope st_with_token) := ⟨rfl, rfl, rfl, by decide +kernel, rfl, by decide +kernel, by decide +kernel⟩
abbrev st_ticked : Stmt := topS 17
abbrev n_ticked : List Str := ["rule", "stand", "leeway", "age"]
theorem S_ticked : FnScope n_ticked ["rule", "stand"] (defScope st_ticked) := ⟨rfl, rfl, rfl, by decide +kernel, rfl, by decide +kernel, by decide +kernel⟩
abbrev st_older : Stmt := topS 18
abbrev n_older : List Str := ["rule", "old_by", "outcome"]
theorem S_older : FnScope n_older ["rule", "old_by", "outcome"] (defScope st_older) := ⟨rfl, rfl, rfl, by decide +kernel, rfl, by decide +kernel, by decide +kernel⟩
abbrev st__law_bag : Stmt := topS 30
abbrev n__law_bag : List Str := ["_law_script", "_law_k", "_law_cell", "_law_first", "_law_seed"]
theorem S__law_bag : FnScope n__law_bag ["_law_script", "_law_k"] (defScope st__law_bag) := ⟨rfl, rfl, rfl, by decide +kernel, rfl, by decide +kernel, by decide +kernel⟩
abbrev st__law_take : Stmt := topS 31
abbrev n__law_take : List Str := ["_law_bag_here", "_law_count", "_law_found", "_law_mixed"]
theorem S__law_take : FnScope n__law_take ["_law_bag_here", "_law_count"] (defScope st__law_take) := ⟨rfl, rfl, rfl, by decide +kernel, rfl, by decide +kernel, by decide +kernel⟩
abbrev st__law_error : Stmt := topS 35
abbrev n__law_error : List Str := ["_law_call", "e", "_law_name", "_law_there"]
theorem S__law_error : FnScope n__law_error ["_law_call"] (defScope st__law_error) := ⟨rfl, rfl, rfl, by decide +kernel, rfl, by decide +kernel, by decide +kernel⟩
abbrev st_is_rule : Stmt := topS 10
abbrev n_is_rule : List Str := ["value", "part", "choices"]
theorem S_is_rule : FnScope n_is_rule ["value"] (defScope st_is_rule) := ⟨rfl, rfl, rfl, by decide +kernel, rfl, by decide +kernel, by decide +kernel⟩
abbrev st_need_number : Stmt := topS 12
abbrev n_need_number : List Str := ["value", "low", "high"]
theorem S_need_number : FnScope n_need_number ["value", "low", "high"] (defScope st_need_number) := ⟨rfl, rfl, rfl, by decide +kernel, rfl, by decide +kernel, by decide +kernel⟩
abbrev st_requested : Stmt := topS 16
abbrev n_requested : List Str := ["rule", "stand", "old_by", "over", "lead", "ages", "spared", "counted", "spare", "every"]
theorem S_requested : FnScope n_requested ["rule", "stand", "old_by"] (defScope st_requested) := ⟨rfl, rfl, rfl, by decide +kernel, rfl, by decide +kernel, by decide +kernel⟩
abbrev st_first_node : Stmt := topS 24
abbrev n_first_node : List Str := ["rule"]
theorem S_first_node : FnScope n_first_node ["rule"] (defScope st_first_node) := ⟨rfl, rfl, rfl, by decide +kernel, rfl, by decide +kernel, by decide +kernel⟩
abbrev st__law_of : Stmt := topS 32
abbrev n__law_of : List Str := ["_law_bag_here", "_law_some"]
theorem S__law_of : FnScope n__law_of ["_law_bag_here", "_law_some"] (defScope st__law_of) := ⟨rfl, rfl, rfl, by decide +kernel, rfl, by decide +kernel, by decide +kernel⟩
abbrev st_need_rule : Stmt := topS 11
abbrev n_need_rule : List Str := ["value"]
theorem S_need_rule : FnScope n_need_rule ["value"] (defScope st_need_rule) := ⟨rfl, rfl, rfl, by decide +kernel, rfl, by decide +kernel, by decide +kernel⟩
abbrev st_alone : Stmt := topS 22
abbrev n_alone : List Str := ["rule", "node", "event", "stand", "old_by", "waiting", "after", "outcome", "late"]
theorem S_alone : FnScope n_alone ["rule", "node", "event"] (defScope st_alone) := ⟨rfl, rfl, rfl, by decide +kernel, rfl, by decide +kernel, by decide +kernel⟩
abbrev st__law_rule : Stmt := topS 33
abbrev n__law_rule : List Str := ["_law_bag_here", "_law_first", "_law_second"]
theorem S__law_rule : FnScope n__law_rule ["_law_bag_here"] (defScope st__law_rule) := ⟨rfl, rfl, rfl, by decide +kernel, rfl, by decide +kernel, by decide +kernel⟩
abbrev st_moved : Stmt := topS 23
abbrev n_moved : List Str := ["rule", "node", "event", "careful", "after"]
theorem S_moved : FnScope n_moved ["rule", "node", "event", "careful"] (defScope st_moved) := ⟨rfl, rfl, rfl, by decide +kernel, rfl, by decide +kernel, by decide +kernel⟩
abbrev st__law_easy : Stmt := topS 34
abbrev n__law_easy : List Str := ["_law_bag_here", "_law_rule_here"]
theorem S__law_easy : FnScope n__law_easy ["_law_bag_here"] (defScope st__law_easy) := ⟨rfl, rfl, rfl, by decide +kernel, rfl, by decide +kernel, by decide +kernel⟩
abbrev st_spread : Stmt := topS 25
abbrev n_spread : List Str := ["rule", "careful", "known", "starts", "line", "new", "at", "node", "event"]
theorem S_spread : FnScope n_spread ["rule", "careful", "known", "starts"] (defScope st_spread) := ⟨rfl, rfl, rfl, by decide +kernel, rfl, by decide +kernel, by decide +kernel⟩
abbrev st_fewest : Stmt := topS 26
abbrev n_fewest : List Str := ["rule", "careful", "known", "starts", "faults", "new", "refused", "node", "event"]
theorem S_fewest : FnScope n_fewest ["rule", "careful"] (defScope st_fewest) := ⟨rfl, rfl, rfl, by decide +kernel, rfl, by decide +kernel, by decide +kernel⟩
abbrev st_fewest_faults : Stmt := topS 27
abbrev n_fewest_faults : List Str := ["rule", "careful"]
theorem S_fewest_faults : FnScope n_fewest_faults ["rule", "careful"] (defScope st_fewest_faults) := ⟨rfl, rfl, rfl, by decide +kernel, rfl, by decide +kernel, by decide +kernel⟩
abbrev st_values_bearing : Stmt := topS 28
abbrev n_values_bearing : List Str := ["rule", "part", "faults", "careful", "place", "found", "choice", "least"]
theorem S_values_bearing : FnScope n_values_bearing ["rule", "part", "faults", "careful"] (defScope st_values_bearing) := ⟨rfl, rfl, rfl, by decide +kernel, rfl, by decide +kernel, by decide +kernel⟩
abbrev st__law_right : Stmt := topS 36
abbrev n__law_right : List Str := ["_law_rule_here", "_law_place", "_law_faults", "_law_cautious", "_law_parts", "_law_some", "_law_due", "_law_value", "_law_least"]
theorem S__law_right : FnScope n__law_right ["_law_rule_here", "_law_place", "_law_faults", "_law_cautious"] (defScope st__law_right) := ⟨rfl, rfl, rfl, by decide +kernel, rfl, by decide +kernel, by decide +kernel⟩
abbrev st_law : Stmt := topS 37
abbrev n_law : List Str := ["_law_script", "_law_k", "_law_bag_here", "_law_rule_here", "_law_turn", "_law_odd"]
theorem S_law : FnScope n_law ["_law_script"] (defScope st_law) := ⟨rfl, rfl, rfl, by decide +kernel, rfl, by decide +kernel, by decide +kernel⟩
section
variable {P : Program} {w : World} {K : PySem.W.Frag} {mg : Str → Option Value} {base : Heap}
theorem ok_is_integer (B : Blt mg) {f : Addr} {fd : FuncData} (F : Fun K "is_integer" "is_integer" st_is_integer f fd) (hm : mg "is_integer" = some (.ref f)) : Has P w (TT.KW.mk K w mg) mg base "is_integer" 1 (spI (TT.KW.mk K w mg) 3 (bodyI 3 3 s_is_integer)) :=
  has_def (K := (TT.KW.mk K w mg)) F hm S_is_integer (by decide) (fun _ _ _ _ _ _ us hl => match us, hl with | [_, _, _], _ => rfl) fun cdv A outer s H E hr => (ss_one (ss_ret (se_and (se_isA .tInt (by rfl) B.b_isinstance bb_isinstance (se_var 0) (by rfl) B.b_int bb_int) (se_and (se_not (se_isA .tBool (by rfl) B.b_isinstance bb_isinstance (se_var 0) (by rfl) B.b_bool bb_bool)) (se_and1 (se_chain op_tLe op_tLe (se_var 1) (se_var 0) (se_var 2)))))))
theorem ok_is_choice (B : Blt mg) {f : Addr} {fd : FuncData} (F : Fun K "is_choice" "is_choice" st_is_choice f fd) (hm : mg "is_choice" = some (.ref f)) : Has P w (TT.KW.mk K w mg) mg base "is_choice" 1 (spI (TT.KW.mk K w mg) 2 (bodyI 3 2 s_is_choice)) :=
  has_def (K := (TT.KW.mk K w mg)) F hm S_is_choice (by decide) (fun _ _ _ _ _ _ us hl => match us, hl with | [_, _], _ => rfl) fun cdv A outer s H E hr => (ss_cons (ss_if (st_isN (se_var 0)) (ss_one (ss_ret (se_cmp (op_tIn hr.units) se_non (se_var 1) rfl))) ss_nil)
  (ss_cons (ss_if (st_tru (se_isA .tStr (by rfl) B.b_isinstance bb_isinstance (se_var 0) (by rfl) B.b_str bb_str)) (ss_one (ss_ret (se_cmp (op_tIn hr.units) (se_var 0) (se_lc 2 rfl S_is_choice.nd (si_tup (se_var 1)) (blkOk_by (own := [("one", 2)]) (N := n_is_choice) (sc := defScope st_is_choice) (by decide +kernel)) (fun _ _ _ _ _ => pg_name (i := 2) S_is_choice.nd rfl (Or.inl rfl)) (fun _ _ _ _ _ => (sts_one (st_tru (se_isA .tStr (by rfl) B.b_isinstance bb_isinstance (se_var 2) (by rfl) B.b_str bb_str)))) (fun _ _ _ _ _ => (se_var 2))) rfl))) ss_nil)
  (ss_cons (ss_if (st_tru (se_isA .tBool (by rfl) B.b_isinstance bb_isinstance (se_var 0) (by rfl) B.b_bool bb_bool)) (ss_one (ss_ret (se_cmp (op_tIn hr.units) (se_var 0) (se_lc 2 rfl S_is_choice.nd (si_tup (se_var 1)) (blkOk_by (own := [("one", 2)]) (N := n_is_choice) (sc := defScope st_is_choice) (by decide +kernel)) (fun _ _ _ _ _ => pg_name (i := 2) S_is_choice.nd rfl (Or.inl rfl)) (fun _ _ _ _ _ => (sts_one (st_tru (se_isA .tBool (by rfl) B.b_isinstance bb_isinstance (se_var 2) (by rfl) B.b_bool bb_bool)))) (fun _ _ _ _ _ => (se_var 2))) rfl))) ss_nil)
  (ss_cons (ss_if (st_not (st_tru (se_isA .tInt (by rfl) B.b_isinstance bb_isinstance (se_var 0) (by rfl) B.b_int bb_int))) (ss_one (ss_ret se_bl)) ss_nil)
  (ss_one (ss_ret (se_cmp (op_tIn hr.units) (se_var 0) (se_lc 2 rfl S_is_choice.nd (si_tup (se_var 1)) (blkOk_by (own := [("one", 2)]) (N := n_is_choice) (sc := defScope st_is_choice) (by decide +kernel)) (fun _ _ _ _ _ => pg_name (i := 2) S_is_choice.nd rfl (Or.inl rfl)) (fun _ _ _ _ _ => (sts_one (st_w (sw_and (st_tru (se_isA .tInt (by rfl) B.b_isinstance bb_isinstance (se_var 2) (by rfl) B.b_int bb_int)) (sw_and1 (st_not (st_tru (se_isA .tBool (by rfl) B.b_isinstance bb_isinstance (se_var 2) (by rfl) B.b_bool bb_bool)))))))) (fun _ _ _ _ _ => (se_var 2))) rfl)))))))
theorem ok_first_stand (B : Blt mg) {f : Addr} {fd : FuncData} (F : Fun K "first_stand" "first_stand" st_first_stand f fd) (hm : mg "first_stand" = some (.ref f)) : Has P w (TT.KW.mk K w mg) mg base "first_stand" 1 (spI (TT.KW.mk K w mg) 1 (bodyI 7 1 s_first_stand)) :=
  has_def (K := (TT.KW.mk K w mg)) F hm S_first_stand (by decide) (fun _ _ _ _ _ _ us hl => match us, hl with | [_], _ => rfl) fun cdv A outer s H E hr => (ss_cons (ss_asg (se_slH (se_var 0) se_int) (sg_tup 5 rfl (sgs_cons 1 S_first_stand.nd (sgs_cons 2 S_first_stand.nd (sgs_cons 3 S_first_stand.nd (sgs_cons 4 S_first_stand.nd (sgs_cons 5 S_first_stand.nd sgs_nil)))))))
  (ss_cons (ss_set 6 S_first_stand.nd (se_if (st_isN (se_var 4)) (se_tup sa_nil al_nil) (se_bin op_tMul (se_tup (sa_cons (se_bin op_tAdd (se_var 4) se_int) sa_nil) (al_cons al_nil)) (se_var 1))))
  (ss_one (ss_ret (se_tup (sa_cons se_bl (sa_cons (se_if (st_tru (se_var 3)) se_int se_int) (sa_cons (se_var 6) (sa_cons (se_if (st_isN (se_var 5)) se_int (se_var 5)) (sa_cons se_int sa_nil))))) (al_cons (al_cons (al_cons (al_cons (al_cons al_nil))))))))))
theorem ok_is_good (B : Blt mg) {f : Addr} {fd : FuncData} (F : Fun K "is_good" "is_good" st_is_good f fd) (hm : mg "is_good" = some (.ref f)) : Has P w (TT.KW.mk K w mg) mg base "is_good" 1 (spI (TT.KW.mk K w mg) 3 (bodyI 8 3 s_is_good)) :=
  has_def (K := (TT.KW.mk K w mg)) F hm S_is_good (by decide) (fun _ _ _ _ _ _ us hl => match us, hl with | [_, _, _], _ => rfl) fun cdv A outer s H E hr => (ss_cons (ss_asg (se_slH (se_var 0) se_int) (sg_tup 5 rfl (sgs_cons 3 S_is_good.nd (sgs_cons 4 S_is_good.nd (sgs_cons 5 S_is_good.nd (sgs_cons 6 S_is_good.nd (sgs_cons 7 S_is_good.nd sgs_nil)))))))
  (ss_cons (ss_if (st_tru (se_ix (se_var 1) se_int)) (ss_one (ss_ret se_bl)) ss_nil)
  (ss_cons (ss_if (st_cmp (op_tEq hr.units) (se_var 2) se_int (nomark _)) (ss_one (ss_ret se_bl)) ss_nil)
  (ss_cons (ss_if (st_w (sw_or (st_cmp op_tGt (se_var 2) (se_var 3) (nomark _)) (sw_or1 (st_w (sw_and (st_tru (se_var 5)) (sw_and1 (st_cmp op_tGt (se_var 2) (se_ix (se_var 1) se_int) (nomark _)))))))) (ss_one (ss_ret se_bl)) ss_nil)
  (ss_cons (ss_if (st_w (sw_and (st_notN (se_var 6)) (sw_and1 (st_cmp op_tGt (se_ix (se_ix (se_var 1) se_int) (se_bin op_tSub (se_var 2) se_int)) (se_var 6) (nomark _))))) (ss_one (ss_ret se_bl)) ss_nil)
  (ss_one (ss_ret (se_or (se_isN (se_var 7)) (se_and1 (se_cmp op_tGt (se_ix (se_var 1) se_int) se_int (nomark _)))))))))))
theorem ok_with_token (B : Blt mg) {f : Addr} {fd : FuncData} (F : Fun K "with_token" "with_token" st_with_token f fd) (hm : mg "with_token" = some (.ref f)) : Has P w (TT.KW.mk K w mg) mg base "with_token" 1 (spI (TT.KW.mk K w mg) 5 (bodyI 5 5 s_with_token)) :=
  has_def (K := (TT.KW.mk K w mg)) F hm S_with_token (by decide) (fun _ _ _ _ _ _ us hl => match us, hl with | [_, _, _, _, _], _ => rfl) fun cdv A outer s H E hr => (ss_one (ss_ret (se_tup (sa_cons se_bl (sa_cons (se_if (st_tru (se_ix (se_var 0) se_int)) (se_callB (call_tMin rfl) (by rfl) B.b_min bb_min (sa_cons (se_callTy call_tInt (by rfl) B.b_int bb_int (sa_cons (se_bin op_tAdd (se_var 1) se_int) sa_nil)) (sa_cons (se_callTy call_tInt (by rfl) B.b_int bb_int (sa_cons (se_bin op_tAdd (se_ix (se_var 0) se_int) se_int) sa_nil)) sa_nil))) se_int) (sa_cons (se_slH (se_bin op_tAdd (se_tup (sa_cons se_int sa_nil) (al_cons al_nil)) (se_var 2)) (se_callB call_tLen (by rfl) B.b_len bb_len (sa_cons (se_var 2) sa_nil))) (sa_cons (se_var 3) (sa_cons (se_var 4) sa_nil))))) (al_cons (al_cons (al_cons (al_cons (al_cons al_nil))))))))
theorem ok_ticked (B : Blt mg) {f : Addr} {fd : FuncData} (F : Fun K "ticked" "ticked" st_ticked f fd) (hm : mg "ticked" = some (.ref f)) : Has P w (TT.KW.mk K w mg) mg base "ticked" 1 (spI (TT.KW.mk K w mg) 2 (bodyI 4 2 s_ticked)) :=
  has_def (K := (TT.KW.mk K w mg)) F hm S_ticked (by decide) (fun _ _ _ _ _ _ us hl => match us, hl with | [_, _], _ => rfl) fun cdv A outer s H E hr => (ss_cons (ss_set 2 S_ticked.nd (se_ix (se_var 0) se_int))
  (ss_cons (ss_if (st_w (sw_or (st_isN (se_var 2)) (sw_or1 (st_tru (se_ix (se_var 1) se_int))))) (ss_one (ss_ret (se_var 1))) ss_nil)
  (ss_one (ss_ret (se_tup (sa_cons se_bl (sa_cons (se_ix (se_var 1) se_int) (sa_cons (se_callTy call_tTuple (by rfl) B.b_tuple bb_tuple (sa_cons (se_lc 3 rfl S_ticked.nd (si_tup (se_ix (se_var 1) se_int)) (blkOk_by (own := [("age", 3)]) (N := n_ticked) (sc := defScope st_ticked) (by decide +kernel)) (fun _ _ _ _ _ => pg_name (i := 3) S_ticked.nd rfl (Or.inl rfl)) (fun _ _ _ _ _ => sts_nil) (fun _ _ _ _ _ => (se_callB (call_tMin rfl) (by rfl) B.b_min bb_min (sa_cons (se_callTy call_tInt (by rfl) B.b_int bb_int (sa_cons (se_bin op_tAdd (se_var 3) se_int) sa_nil)) (sa_cons (se_callTy call_tInt (by rfl) B.b_int bb_int (sa_cons (se_bin op_tAdd (se_var 2) se_int) sa_nil)) sa_nil))))) sa_nil)) (sa_cons (se_ix (se_var 1) se_int) (sa_cons (se_ix (se_var 1) se_int) sa_nil))))) (al_cons (al_cons (al_cons (al_cons (al_cons al_nil))))))))))
theorem ok_older (B : Blt mg) {f : Addr} {fd : FuncData} (F : Fun K "older" "older" st_older f fd) (hm : mg "older" = some (.ref f)) : Has P w (TT.KW.mk K w mg) mg base "older" 1 (spI (TT.KW.mk K w mg) 3 (bodyI 3 3 s_older)) :=
  has_def (K := (TT.KW.mk K w mg)) F hm S_older (by decide) (fun _ _ _ _ _ _ us hl => match us, hl with | [_, _, _], _ => rfl) fun cdv A outer s H E hr => (ss_cons (ss_if (st_w (sw_or (st_isN (se_var 1)) (sw_or1 (st_cmp (op_tNe hr.units) (se_var 2) (se_str [109, 97, 100, 101]) (nomark _))))) (ss_one (ss_ret (se_var 1))) ss_nil)
  (ss_one (ss_ret (se_callB (call_tMin rfl) (by rfl) B.b_min bb_min (sa_cons (se_callTy call_tInt (by rfl) B.b_int bb_int (sa_cons (se_bin op_tAdd (se_var 1) se_int) sa_nil)) (sa_cons (se_callTy call_tInt (by rfl) B.b_int bb_int (sa_cons (se_bin op_tAdd (se_ix (se_var 0) se_int) se_int) sa_nil)) sa_nil))))))
theorem ok__law_bag (B : Blt mg) {f : Addr} {fd : FuncData} (F : Fun K "_law_bag" "_law_bag" st__law_bag f fd) (hm : mg "_law_bag" = some (.ref f)) : Has P w (TT.KW.mk K w mg) mg base "_law_bag" 1 (spI (TT.KW.mk K w mg) 2 (bodyI 5 2 s_law_bag)) :=
  has_def (K := (TT.KW.mk K w mg)) F hm S__law_bag (by decide) (fun _ _ _ _ _ _ us hl => match us, hl with | [_, _], _ => rfl) fun cdv A outer s H E hr => (ss_cons (ss_set 2 S__law_bag.nd se_int)
  (ss_cons (ss_if (st_cmp op_tLt (se_var 1) (se_callB call_tLen (by rfl) B.b_len bb_len (sa_cons (se_var 0) sa_nil)) (nomark _)) (ss_one (ss_set 2 S__law_bag.nd (se_bin op_tMod (se_callTy call_tInt (by rfl) B.b_int bb_int (sa_cons (se_ix (se_var 0) (se_var 1)) sa_nil)) (se_bin op_tPow se_int se_int)))) ss_nil)
  (ss_cons (ss_set 3 S__law_bag.nd (se_bin op_tAdd (se_bin op_tMul (se_bin op_tMod (se_callTy call_tInt (by rfl) B.b_int bb_int (sa_cons (se_var 2) sa_nil)) se_int) se_int) (se_bin op_tMul (se_bin op_tMul se_int (se_var 1)) (se_var 1))))
  (ss_cons (ss_set 4 S__law_bag.nd (se_bin op_tAdd se_int (se_bin op_tMod (se_callTy call_tInt (by rfl) B.b_int bb_int (sa_cons (se_bin op_tAdd (se_bin op_tAdd (se_var 3) (se_bin op_tMul se_int (se_var 1))) se_int) sa_nil)) se_int)))
  (ss_cons (ss_if (st_cmp op_tLt (se_var 2) (se_bin op_tPow se_int se_int) (nomark _)) (ss_one (ss_ret (se_lstM (sa_cons se_int (sa_cons (se_var 4) sa_nil)) (al_cons (al_cons al_nil))))) ss_nil)
  (ss_one (ss_ret (se_lstM (sa_cons (se_var 2) (sa_cons (se_var 4) sa_nil)) (al_cons (al_cons al_nil))))))))))
theorem ok__law_take (B : Blt mg) {f : Addr} {fd : FuncData} (F : Fun K "_law_take" "_law_take" st__law_take f fd) (hm : mg "_law_take" = some (.ref f)) : Has P w (TT.KW.mk K w mg) mg base "_law_take" 1 (spI (TT.KW.mk K w mg) 2 (bodyI 4 2 s_law_take)) :=
  has_def (K := (TT.KW.mk K w mg)) F hm S__law_take (by decide) (fun _ _ _ _ _ _ us hl => match us, hl with | [_, _], _ => rfl) fun cdv A outer s H E hr => (ss_cons (ss_if (st_cmp op_tGt (se_ix (se_var 0) se_int) se_int (nomark _)) (ss_cons (ss_set 2 S__law_take.nd (se_bin op_tMod (se_callTy call_tInt (by rfl) B.b_int bb_int (sa_cons (se_ix (se_var 0) se_int) sa_nil)) (se_var 1)))
  (ss_cons (ss_asg (se_bin op_tFDiv (se_callTy call_tInt (by rfl) B.b_int bb_int (sa_cons (se_ix (se_var 0) se_int) sa_nil)) (se_var 1)) (sg_sub (se_var 0) se_int))
  (ss_one (ss_ret (se_var 2))))) ss_nil)
  (ss_cons (ss_asg (se_bin op_tMod (se_callTy call_tInt (by rfl) B.b_int bb_int (sa_cons (se_bin op_tMul (se_ix (se_var 0) se_int) se_int) sa_nil)) se_int) (sg_sub (se_var 0) se_int))
  (ss_cons (ss_set 3 S__law_take.nd (se_bin op_tMul (se_bin op_tFDiv (se_callTy call_tInt (by rfl) B.b_int bb_int (sa_cons (se_ix (se_var 0) se_int) sa_nil)) se_int) (se_bin op_tAdd (se_bin op_tMod (se_callTy call_tInt (by rfl) B.b_int bb_int (sa_cons (se_ix (se_var 0) se_int) sa_nil)) se_int) se_int)))
  (ss_one (ss_ret (se_bin op_tMod (se_callTy call_tInt (by rfl) B.b_int bb_int (sa_cons (se_bin op_tFDiv (se_bin op_tMod (se_callTy call_tInt (by rfl) B.b_int bb_int (sa_cons (se_var 3) sa_nil)) se_int) se_int) sa_nil)) (se_var 1)))))))
theorem told__law_error (B : Blt mg) (E_T : HasE (TT.KW.mk K w mg) mg "TurnError") (hd_T : ∀ C, mg "TurnError" = some (.ref C) → PySem.W.hasDictIn K C = true) (X_InvalidRule : ∀ D, mg "InvalidRule" = some (.ref D) → ExcC K D) (sb_InvalidRule : ∀ D C, mg "InvalidRule" = some (.ref D) → mg "TurnError" = some (.ref C) → PySem.W.subIn K (.ref D) (.ref C) = some true) (X_InvalidPart : ∀ D, mg "InvalidPart" = some (.ref D) → ExcC K D) (sb_InvalidPart : ∀ D C, mg "InvalidPart" = some (.ref D) → mg "TurnError" = some (.ref C) → PySem.W.subIn K (.ref D) (.ref C) = some true) (X_InvalidNumber : ∀ D, mg "InvalidNumber" = some (.ref D) → ExcC K D) (sb_InvalidNumber : ∀ D C, mg "InvalidNumber" = some (.ref D) → mg "TurnError" = some (.ref C) → PySem.W.subIn K (.ref D) (.ref C) = some true) (G_InvalidRule : ∃ C, mg "InvalidRule" = some (.ref C)) (S_InvalidRule_InvalidRule : HasSub (TT.KW.mk K w mg) mg "InvalidRule" "InvalidRule" (isSub 1 1)) (S_InvalidPart_InvalidRule : HasSub (TT.KW.mk K w mg) mg "InvalidPart" "InvalidRule" (isSub 6 1)) (S_InvalidNumber_InvalidRule : HasSub (TT.KW.mk K w mg) mg "InvalidNumber" "InvalidRule" (isSub 3 1)) (G_InvalidPart : ∃ C, mg "InvalidPart" = some (.ref C)) (S_InvalidRule_InvalidPart : HasSub (TT.KW.mk K w mg) mg "InvalidRule" "InvalidPart" (isSub 1 6)) (S_InvalidPart_InvalidPart : HasSub (TT.KW.mk K w mg) mg "InvalidPart" "InvalidPart" (isSub 6 6)) (S_InvalidNumber_InvalidPart : HasSub (TT.KW.mk K w mg) mg "InvalidNumber" "InvalidPart" (isSub 3 6)) (G_InvalidNumber : ∃ C, mg "InvalidNumber" = some (.ref C)) (S_InvalidRule_InvalidNumber : HasSub (TT.KW.mk K w mg) mg "InvalidRule" "InvalidNumber" (isSub 1 3)) (S_InvalidPart_InvalidNumber : HasSub (TT.KW.mk K w mg) mg "InvalidPart" "InvalidNumber" (isSub 6 3)) (S_InvalidNumber_InvalidNumber : HasSub (TT.KW.mk K w mg) mg "InvalidNumber" "InvalidNumber" (isSub 3 3)) {f : Addr} {fd : FuncData} (F : Fun K "_law_error" "_law_error" st__law_error f fd) (hm : mg "_law_error" = some (.ref f)) : ToldAt (TT.KW.mk K w mg) mg "_law_error" t__law_error [110, 111, 110, 101] [1, 6, 3] := by
  have hb := F.binds (ps := ["_law_call"]) (fun _ _ _ _ _ _ us hl => match us, hl with | [_], _ => rfl)
  obtain ⟨⟨oc, od, kV, doc, pm, an, cdv, ct, osl, rfl, lk, hcd⟩, kp⟩ := F
  obtain ⟨CT, hT⟩ := E_T
  obtain ⟨C_InvalidRule, hG_InvalidRule⟩ := G_InvalidRule
  obtain ⟨C_InvalidPart, hG_InvalidPart⟩ := G_InvalidPart
  obtain ⟨C_InvalidNumber, hG_InvalidNumber⟩ := G_InvalidNumber
  refine ⟨f, n__law_error, "_law_call", defScope st__law_error, defArgs st__law_error, defBody st__law_error, .none, kV, doc, pm, cdv, ct, oc, an, od, osl, hm, kp, lk, hcd, hb, S__law_error, rfl, .inl rfl, by decide, by decide, fun X q hK hM => ?_⟩
  have hK : X.K = K := hK
  subst hK hM
  refine told_gives (i := 1) S__law_error.nd rfl rfl rfl hT.g (by decide) (fun _ => rfl) rfl (fun c hc D hD => ?_) (fun Y hYK hYm hYN hYs c hc D hD a oe pn hz hf => ?_)
  · rcases (by simpa using hc : c = 1 ∨ c = 6 ∨ c = 3) with rfl | rfl | rfl
    · exact PySem.W.exm_ref hT.b (hd_T _ hT.g) hT.t (sb_InvalidRule D CT hD hT.g)
    · exact PySem.W.exm_ref hT.b (hd_T _ hT.g) hT.t (sb_InvalidPart D CT hD hT.g)
    · exact PySem.W.exm_ref hT.b (hd_T _ hT.g) hT.t (sb_InvalidNumber D CT hD hT.g)
  · have hg : ∀ {x : Str} C, X.mg x = some (.ref C) → Y.mg x = some (.ref C) := fun C h => by rw [hYm]; exact h
    have hk : ∀ {D C : Addr} {b : Bool}, Unit → PySem.W.kitOne X.K (.ref D) (.ref C) = some b → PySem.W.kitOne Y.K (.ref D) (.ref C) = some b := fun {D C b} _ h => by rw [hYK]; exact h
    have hx : ∀ {D : Addr}, Unit → ExcC X.K D → ExcC Y.K D := fun {D} _ h => by rw [hYK]; exact h
    have gsu : ∀ {x : Str}, (defScope st__law_error).names.lookup x = some .globalImplicit → Gl (Y.suite a ((a, oe) :: pn)) x := fun {x} h => by show Y.env.scope.names.lookup x = _; rw [hYs]; exact h
    have hot : L2H.HotC (Y.suite a ((a, oe) :: pn)) := suite_hot hz hf
    have hnd : (Y.suite a ((a, oe) :: pn)).N.Nodup := by show Y.N.Nodup; rw [hYN]; exact S__law_error.nd
    have hYN2 : (Y.suite a ((a, oe) :: pn)).N = n__law_error := hYN
    have hYs2 : (Y.suite a ((a, oe) :: pn)).env.scope = defScope st__law_error := hYs
    have hl : (n__law_error).length = Y.N.length := by rw [hYN]
    rw [hl]
    rcases (by simpa using hc : c = 1 ∨ c = 6 ∨ c = 3) with rfl | rfl | rfl
    · exact (told_loop (jn := 2) (jt := 3) hot PassesOwn.never hnd (by rw [hYN2]; rfl) (by rw [hYN2]; rfl) (by rw [hYs2]; rfl) (by rw [hYs2]; rfl) (by decide) (by decide) (by decide) (by decide) (by decide) (by decide) (by decide) (told_isE (cn := "InvalidRule") (hk () (S_InvalidRule_InvalidRule D _ hD hG_InvalidRule)) (hg _ hG_InvalidRule) (hx () (X_InvalidRule D hD)) hz hf (by rw [hYN]; rfl) (by rw [hYm]; exact B.b_isinstance) (gsu rfl) (gsu rfl) (by rw [hYs]; exact .inl rfl) (by decide) (by decide) (by decide) rfl rfl rfl) (told_isE (cn := "InvalidPart") (hk () (S_InvalidRule_InvalidPart D _ hD hG_InvalidPart)) (hg _ hG_InvalidPart) (hx () (X_InvalidRule D hD)) hz hf (by rw [hYN]; rfl) (by rw [hYm]; exact B.b_isinstance) (gsu rfl) (gsu rfl) (by rw [hYs]; exact .inl rfl) (by decide) (by decide) (by decide) rfl rfl rfl) rfl rfl (told_ret (told_ite (told_is (cn := "InvalidNumber") (hk () (S_InvalidRule_InvalidNumber D _ hD hG_InvalidNumber)) (hg _ hG_InvalidNumber) (hx () (X_InvalidRule D hD)) hz.zc hf (by rw [hYN]; rfl) (by rw [hYm]; exact B.b_isinstance) (gsu rfl) (gsu rfl) (by rw [hYs]; exact .inl rfl) (by decide) (by decide) (by decide) rfl rfl rfl) told_str told_str)))
    · exact (told_loop (jn := 2) (jt := 3) hot PassesOwn.never hnd (by rw [hYN2]; rfl) (by rw [hYN2]; rfl) (by rw [hYs2]; rfl) (by rw [hYs2]; rfl) (by decide) (by decide) (by decide) (by decide) (by decide) (by decide) (by decide) (told_isE (cn := "InvalidRule") (hk () (S_InvalidPart_InvalidRule D _ hD hG_InvalidRule)) (hg _ hG_InvalidRule) (hx () (X_InvalidPart D hD)) hz hf (by rw [hYN]; rfl) (by rw [hYm]; exact B.b_isinstance) (gsu rfl) (gsu rfl) (by rw [hYs]; exact .inl rfl) (by decide) (by decide) (by decide) rfl rfl rfl) (told_isE (cn := "InvalidPart") (hk () (S_InvalidPart_InvalidPart D _ hD hG_InvalidPart)) (hg _ hG_InvalidPart) (hx () (X_InvalidPart D hD)) hz hf (by rw [hYN]; rfl) (by rw [hYm]; exact B.b_isinstance) (gsu rfl) (gsu rfl) (by rw [hYs]; exact .inl rfl) (by decide) (by decide) (by decide) rfl rfl rfl) rfl rfl (told_ret (told_ite (told_is (cn := "InvalidNumber") (hk () (S_InvalidPart_InvalidNumber D _ hD hG_InvalidNumber)) (hg _ hG_InvalidNumber) (hx () (X_InvalidPart D hD)) hz.zc hf (by rw [hYN]; rfl) (by rw [hYm]; exact B.b_isinstance) (gsu rfl) (gsu rfl) (by rw [hYs]; exact .inl rfl) (by decide) (by decide) (by decide) rfl rfl rfl) told_str told_str)))
    · exact (told_loop (jn := 2) (jt := 3) hot PassesOwn.never hnd (by rw [hYN2]; rfl) (by rw [hYN2]; rfl) (by rw [hYs2]; rfl) (by rw [hYs2]; rfl) (by decide) (by decide) (by decide) (by decide) (by decide) (by decide) (by decide) (told_isE (cn := "InvalidRule") (hk () (S_InvalidNumber_InvalidRule D _ hD hG_InvalidRule)) (hg _ hG_InvalidRule) (hx () (X_InvalidNumber D hD)) hz hf (by rw [hYN]; rfl) (by rw [hYm]; exact B.b_isinstance) (gsu rfl) (gsu rfl) (by rw [hYs]; exact .inl rfl) (by decide) (by decide) (by decide) rfl rfl rfl) (told_isE (cn := "InvalidPart") (hk () (S_InvalidNumber_InvalidPart D _ hD hG_InvalidPart)) (hg _ hG_InvalidPart) (hx () (X_InvalidNumber D hD)) hz hf (by rw [hYN]; rfl) (by rw [hYm]; exact B.b_isinstance) (gsu rfl) (gsu rfl) (by rw [hYs]; exact .inl rfl) (by decide) (by decide) (by decide) rfl rfl rfl) rfl rfl (told_ret (told_ite (told_is (cn := "InvalidNumber") (hk () (S_InvalidNumber_InvalidNumber D _ hD hG_InvalidNumber)) (hg _ hG_InvalidNumber) (hx () (X_InvalidNumber D hD)) hz.zc hf (by rw [hYN]; rfl) (by rw [hYm]; exact B.b_isinstance) (gsu rfl) (gsu rfl) (by rw [hYs]; exact .inl rfl) (by decide) (by decide) (by decide) rfl rfl rfl) told_str told_str)))
theorem ok_is_rule (B : Blt mg) (H_is_choice : Has P w (TT.KW.mk K w mg) mg base "is_choice" 1 (spP (TT.KW.mk K w mg) 2 f_is_choice)) (C_CHOICES : HasC (TT.KW.mk K w mg) mg "CHOICES" c_CHOICES) (C_PARTS : HasC (TT.KW.mk K w mg) mg "PARTS" c_PARTS) {f : Addr} {fd : FuncData} (F : Fun K "is_rule" "is_rule" st_is_rule f fd) (hm : mg "is_rule" = some (.ref f)) : Has P w (TT.KW.mk K w mg) mg base "is_rule" 2 (spI (TT.KW.mk K w mg) 1 (bodyI 3 1 s_is_rule)) :=
  has_def (K := (TT.KW.mk K w mg)) F hm S_is_rule (by decide) (fun _ _ _ _ _ _ us hl => match us, hl with | [_], _ => rfl) fun cdv A outer s H E hr => (ss_cons (ss_if (st_w (sw_or (st_not (st_tru (se_isA .tTup (by rfl) B.b_isinstance bb_isinstance (se_var 0) (by rfl) B.b_tuple bb_tuple))) (sw_or1 (st_cmp (op_tNe hr.units) (se_callB call_tLen (by rfl) B.b_len bb_len (sa_cons (se_var 0) sa_nil)) (se_callB call_tLen (by rfl) B.b_len bb_len (sa_cons (sh_glob C_PARTS) sa_nil)) (nomark _))))) (ss_one (ss_ret se_bl)) ss_nil)
  (ss_one (ss_ret (se_callB (call_tAll rfl) (by rfl) B.b_all bb_all (sa_cons (se_lcT [1, 2] rfl S_is_rule.nd (si_zip (by rfl) B.b_zip (se_var 0) (sh_glob C_CHOICES)) (blkOk_by (own := [("part", 1), ("choices", 2)]) (N := n_is_rule) (sc := defScope st_is_rule) (by decide +kernel)) (fun _ _ _ _ _ => pg_tup rfl (sgt_cons 1 S_is_rule.nd (sgt_cons 2 S_is_rule.nd sgt_nil))) (fun _ _ _ _ _ => sts_nil) (fun _ _ _ _ _ => (sh_callP H_is_choice (hr.mono (by decide)) (sa_cons (se_var 1) (sa_cons (se_var 2) sa_nil)) (al_cons (al_cons al_nil))))) sa_nil)))))
theorem ok_need_number (B : Blt mg) (H_is_integer : Has P w (TT.KW.mk K w mg) mg base "is_integer" 1 (spP (TT.KW.mk K w mg) 3 f_is_integer)) (E_InvalidNumber : HasE (TT.KW.mk K w mg) mg "InvalidNumber") {f : Addr} {fd : FuncData} (F : Fun K "need_number" "need_number" st_need_number f fd) (hm : mg "need_number" = some (.ref f)) : HasX P w (TT.KW.mk K w mg) mg base "need_number" 2 (spXI (TT.KW.mk K w mg) mg 3 (bodyI 3 3 s_need_number)) :=
  has_defX (K := (TT.KW.mk K w mg)) F hm S_need_number (by decide) (fun _ _ _ _ _ _ us hl => match us, hl with | [_, _, _], _ => rfl) fun cdv A outer s H E hr => (ss_one (ss_if (st_not (st_tru (sh_callP H_is_integer (hr.mono (by decide)) (sa_cons (se_var 0) (sa_cons (se_var 1) (sa_cons (se_var 2) sa_nil))) (al_cons (al_cons (al_cons al_nil)))))) (ss_one (ss_raise 3 E_InvalidNumber rfl rfl (L2N.takes_of rfl rfl rfl rfl))) ss_nil))
theorem ok_requested (B : Blt mg) (H_with_token : Has P w (TT.KW.mk K w mg) mg base "with_token" 1 (spP (TT.KW.mk K w mg) 5 f_with_token)) (H_is_good : Has P w (TT.KW.mk K w mg) mg base "is_good" 1 (spP (TT.KW.mk K w mg) 3 f_is_good)) {f : Addr} {fd : FuncData} (F : Fun K "requested" "requested" st_requested f fd) (hm : mg "requested" = some (.ref f)) : Has P w (TT.KW.mk K w mg) mg base "requested" 2 (spI (TT.KW.mk K w mg) 3 (bodyI 10 3 s_requested)) :=
  has_def (K := (TT.KW.mk K w mg)) F hm S_requested (by decide) (fun _ _ _ _ _ _ us hl => match us, hl with | [_, _, _], _ => rfl) fun cdv A outer s H E hr => (ss_cons (ss_if (st_not (st_tru (sh_callP H_is_good (hr.mono (by decide)) (sa_cons (se_var 0) (sa_cons (se_var 1) (sa_cons (se_var 2) sa_nil))) (al_cons (al_cons (al_cons al_nil)))))) (ss_one (ss_ret (se_tup (sa_cons (se_bin op_tAdd (se_tup (sa_cons (se_or (se_ix (se_var 1) se_int) (se_and1 (se_cmp (op_tEq hr.units) (se_ix (se_var 0) se_int) (se_str [101, 110, 100]) (nomark _)))) sa_nil) (al_cons al_nil)) (se_slL (se_var 1) se_int)) (sa_cons (se_str [114, 101, 102, 117, 115, 101, 100]) sa_nil)) (al_cons (al_cons al_nil))))) ss_nil)
  (ss_cons (ss_asg (se_var 1) (sg_tup 5 rfl (sgs_cons 3 S_requested.nd (sgs_cons 4 S_requested.nd (sgs_cons 5 S_requested.nd (sgs_cons 6 S_requested.nd (sgs_cons 7 S_requested.nd sgs_nil)))))))
  (ss_cons (ss_par2 8 9 rfl S_requested.nd (sa_cons (se_ix (se_var 0) se_int) (sa_cons (se_ix (se_var 0) se_int) sa_nil)))
  (ss_cons (ss_if (st_cmp (op_tEq hr.units) (se_var 2) se_int (nomark _)) (ss_cons (ss_if (st_notN (se_var 8)) (ss_cons (ss_set 7 S_requested.nd (se_bin op_tMod (se_bin op_tAdd (se_var 7) se_int) (se_var 9)))
  (ss_one (ss_set 6 S_requested.nd (se_callB (call_tMin rfl) (by rfl) B.b_min bb_min (sa_cons (se_callTy call_tInt (by rfl) B.b_int bb_int (sa_cons (se_var 8) sa_nil)) (sa_cons (se_callTy call_tInt (by rfl) B.b_int bb_int (sa_cons (se_bin op_tAdd (se_var 6) (se_callTy call_tInt (by rfl) B.b_int bb_int (sa_cons (se_cmp (op_tEq hr.units) (se_var 7) se_int (nomark _)) sa_nil))) sa_nil)) sa_nil)))))) ss_nil)
  (ss_one (ss_ret (se_tup (sa_cons (sh_callP H_with_token (hr.mono (by decide)) (sa_cons (se_var 0) (sa_cons se_int (sa_cons (se_var 5) (sa_cons (se_var 6) (sa_cons (se_var 7) sa_nil))))) (al_cons (al_cons (al_cons (al_cons (al_cons al_nil)))))) (sa_cons (se_str [109, 97, 100, 101]) sa_nil)) (al_cons (al_cons al_nil)))))) ss_nil)
  (ss_cons (ss_set 4 S_requested.nd (se_callB (call_tMin rfl) (by rfl) B.b_min bb_min (sa_cons (se_callTy call_tInt (by rfl) B.b_int bb_int (sa_cons (se_var 4) sa_nil)) (sa_cons (se_callTy call_tInt (by rfl) B.b_int bb_int (sa_cons (se_var 2) sa_nil)) sa_nil))))
  (ss_cons (ss_set 6 S_requested.nd (se_if (st_isN (se_var 8)) se_int (se_bin op_tSub (se_var 6) se_int)))
  (ss_cons (ss_if (st_cmp (op_tEq hr.units) (se_ix (se_var 0) se_int) (se_str [115, 97, 109, 101]) (nomark _)) (ss_one (ss_ret (se_tup (sa_cons (se_tup (sa_cons se_bl (sa_cons (se_var 4) (sa_cons (se_var 5) (sa_cons (se_var 6) (sa_cons (se_var 7) sa_nil))))) (al_cons (al_cons (al_cons (al_cons (al_cons al_nil)))))) (sa_cons (se_str [110, 101, 119, 101, 115, 116]) sa_nil)) (al_cons (al_cons al_nil))))) ss_nil)
  (ss_one (ss_ret (se_tup (sa_cons (sh_callP H_with_token (hr.mono (by decide)) (sa_cons (se_var 0) (sa_cons (se_var 4) (sa_cons (se_var 5) (sa_cons (se_var 6) (sa_cons (se_var 7) sa_nil))))) (al_cons (al_cons (al_cons (al_cons (al_cons al_nil)))))) (sa_cons (se_str [109, 97, 100, 101]) sa_nil)) (al_cons (al_cons al_nil))))))))))))
theorem ok_first_node (B : Blt mg) (H_first_stand : Has P w (TT.KW.mk K w mg) mg base "first_stand" 1 (spP (TT.KW.mk K w mg) 1 f_first_stand)) {f : Addr} {fd : FuncData} (F : Fun K "first_node" "first_node" st_first_node f fd) (hm : mg "first_node" = some (.ref f)) : Has P w (TT.KW.mk K w mg) mg base "first_node" 2 (spI (TT.KW.mk K w mg) 1 (bodyI 1 1 s_first_node)) :=
  has_def (K := (TT.KW.mk K w mg)) F hm S_first_node (by decide) (fun _ _ _ _ _ _ us hl => match us, hl with | [_], _ => rfl) fun cdv A outer s H E hr => (ss_one (ss_ret (se_tup (sa_cons (sh_callP H_first_stand (hr.mono (by decide)) (sa_cons (se_var 0) sa_nil) (al_cons al_nil)) (sa_cons se_int (sa_cons se_non sa_nil))) (al_cons (al_cons (al_cons al_nil))))))
theorem ok__law_of (B : Blt mg) (H__law_take : Has P w (TT.KW.mk K w mg) mg base "_law_take" 1 (spI (TT.KW.mk K w mg) 2 i_law_take)) {f : Addr} {fd : FuncData} (F : Fun K "_law_of" "_law_of" st__law_of f fd) (hm : mg "_law_of" = some (.ref f)) : Has P w (TT.KW.mk K w mg) mg base "_law_of" 2 (spI (TT.KW.mk K w mg) 2 (bodyI 2 2 s_law_of)) :=
  has_def (K := (TT.KW.mk K w mg)) F hm S__law_of (by decide) (fun _ _ _ _ _ _ us hl => match us, hl with | [_, _], _ => rfl) fun cdv A outer s H E hr => (ss_one (ss_ret (se_ix (se_var 1) (sh_callI H__law_take (hr.mono (by decide)) (sa_cons (se_var 0) (sa_cons (se_callB call_tLen (by rfl) B.b_len bb_len (sa_cons (se_var 1) sa_nil)) sa_nil)) (al_cons (al_cons al_nil))))))
theorem ok_need_rule (B : Blt mg) (H_is_rule : Has P w (TT.KW.mk K w mg) mg base "is_rule" 2 (spP (TT.KW.mk K w mg) 1 f_is_rule)) (E_InvalidRule : HasE (TT.KW.mk K w mg) mg "InvalidRule") {f : Addr} {fd : FuncData} (F : Fun K "need_rule" "need_rule" st_need_rule f fd) (hm : mg "need_rule" = some (.ref f)) : HasX P w (TT.KW.mk K w mg) mg base "need_rule" 3 (spXI (TT.KW.mk K w mg) mg 1 (bodyI 1 1 s_need_rule)) :=
  has_defX (K := (TT.KW.mk K w mg)) F hm S_need_rule (by decide) (fun _ _ _ _ _ _ us hl => match us, hl with | [_], _ => rfl) fun cdv A outer s H E hr => (ss_one (ss_if (st_not (st_tru (sh_callP H_is_rule (hr.mono (by decide)) (sa_cons (se_var 0) sa_nil) (al_cons al_nil)))) (ss_one (ss_raise 1 E_InvalidRule rfl rfl (L2N.takes_of rfl rfl rfl rfl))) ss_nil))
theorem ok_alone (B : Blt mg) (H_older : Has P w (TT.KW.mk K w mg) mg base "older" 1 (spP (TT.KW.mk K w mg) 3 f_older)) (H_requested : Has P w (TT.KW.mk K w mg) mg base "requested" 2 (spP (TT.KW.mk K w mg) 3 f_requested)) (H_ticked : Has P w (TT.KW.mk K w mg) mg base "ticked" 1 (spP (TT.KW.mk K w mg) 2 f_ticked)) {f : Addr} {fd : FuncData} (F : Fun K "alone" "alone" st_alone f fd) (hm : mg "alone" = some (.ref f)) : Has P w (TT.KW.mk K w mg) mg base "alone" 3 (spI (TT.KW.mk K w mg) 3 (bodyI 9 3 s_alone)) :=
  has_def (K := (TT.KW.mk K w mg)) F hm S_alone (by decide) (fun _ _ _ _ _ _ us hl => match us, hl with | [_, _, _], _ => rfl) fun cdv A outer s H E hr => (ss_cons (ss_asg (se_var 1) (sg_tup 3 rfl (sgs_cons 3 S_alone.nd (sgs_cons 4 S_alone.nd (sgs_cons 5 S_alone.nd sgs_nil)))))
  (ss_cons (ss_if (st_cmp (op_tEq hr.units) (se_var 2) (se_str [46, 46]) (nomark _)) (ss_one (ss_ret (se_tup (sa_cons se_bl (sa_cons (se_tup (sa_cons (sh_callP H_ticked (hr.mono (by decide)) (sa_cons (se_var 0) (sa_cons (se_var 3) sa_nil)) (al_cons (al_cons al_nil))) (sa_cons (se_var 4) (sa_cons (se_var 5) sa_nil))) (al_cons (al_cons (al_cons al_nil)))) sa_nil)) (al_cons (al_cons al_nil))))) ss_nil)
  (ss_cons (ss_if (st_cmp (op_tEq hr.units) (se_var 2) (se_str [43]) (nomark _)) (ss_one (ss_ret (se_tup (sa_cons se_bl (sa_cons (se_tup (sa_cons (se_var 3) (sa_cons (se_if (st_isN (se_var 5)) (se_var 4) (se_var 5)) (sa_cons se_non sa_nil))) (al_cons (al_cons (al_cons al_nil)))) sa_nil)) (al_cons (al_cons al_nil))))) ss_nil)
  (ss_cons (ss_asg (sh_callP H_requested (hr.mono (by decide)) (sa_cons (se_var 0) (sa_cons (se_var 3) (sa_cons (se_var 4) sa_nil))) (al_cons (al_cons (al_cons al_nil)))) (sg_tup 2 rfl (sgs_cons 6 S_alone.nd (sgs_cons 7 S_alone.nd sgs_nil))))
  (ss_cons (ss_if (st_cmp (op_tEq hr.units) (se_var 7) (se_str [114, 101, 102, 117, 115, 101, 100]) (nomark _)) (ss_one (ss_ret (se_tup (sa_cons se_bl (sa_cons (se_tup (sa_cons (se_var 6) (sa_cons (se_var 4) (sa_cons (se_var 5) sa_nil))) (al_cons (al_cons (al_cons al_nil)))) sa_nil)) (al_cons (al_cons al_nil))))) ss_nil)
  (ss_cons (ss_if (st_cmp (op_tEq hr.units) (se_var 2) (se_str [33]) (nomark _)) (ss_one (ss_ret (se_tup (sa_cons se_bl (sa_cons (se_tup (sa_cons (se_var 6) (sa_cons se_int (sa_cons (sh_callP H_older (hr.mono (by decide)) (sa_cons (se_var 0) (sa_cons (se_var 5) (sa_cons (se_var 7) sa_nil))) (al_cons (al_cons (al_cons al_nil)))) sa_nil))) (al_cons (al_cons (al_cons al_nil)))) sa_nil)) (al_cons (al_cons al_nil))))) ss_nil)
  (ss_cons (ss_set 8 S_alone.nd (se_if (st_cmp (op_tEq hr.units) (se_var 2) (se_str [126]) (nomark _)) se_int (sh_callP H_older (hr.mono (by decide)) (sa_cons (se_var 0) (sa_cons (se_var 5) (sa_cons (se_var 7) sa_nil))) (al_cons (al_cons (al_cons al_nil))))))
  (ss_one (ss_ret (se_tup (sa_cons se_bl (sa_cons (se_tup (sa_cons (se_var 6) (sa_cons (sh_callP H_older (hr.mono (by decide)) (sa_cons (se_var 0) (sa_cons (se_var 4) (sa_cons (se_var 7) sa_nil))) (al_cons (al_cons (al_cons al_nil)))) (sa_cons (se_var 8) sa_nil))) (al_cons (al_cons (al_cons al_nil)))) sa_nil)) (al_cons (al_cons al_nil))))))))))))
theorem ok__law_rule (B : Blt mg) (H__law_of : Has P w (TT.KW.mk K w mg) mg base "_law_of" 2 (spI (TT.KW.mk K w mg) 2 i_law_of)) (H__law_take : Has P w (TT.KW.mk K w mg) mg base "_law_take" 1 (spI (TT.KW.mk K w mg) 2 i_law_take)) {f : Addr} {fd : FuncData} (F : Fun K "_law_rule" "_law_rule" st__law_rule f fd) (hm : mg "_law_rule" = some (.ref f)) : Has P w (TT.KW.mk K w mg) mg base "_law_rule" 3 (spI (TT.KW.mk K w mg) 1 (bodyI 3 1 s_law_rule)) :=
  has_def (K := (TT.KW.mk K w mg)) F hm S__law_rule (by decide) (fun _ _ _ _ _ _ us hl => match us, hl with | [_], _ => rfl) fun cdv A outer s H E hr => (ss_cons (ss_set 1 S__law_rule.nd (se_tup (sa_cons (sh_callI H__law_take (hr.mono (by decide)) (sa_cons (se_var 0) (sa_cons se_int sa_nil)) (al_cons (al_cons al_nil))) (sa_cons (sh_callI H__law_of (hr.mono (by decide)) (sa_cons (se_var 0) (sa_cons (se_lst (sa_cons (se_str [115, 97, 109, 101]) (sa_cons (se_str [110, 101, 119]) sa_nil)) (al_cons (al_cons al_nil))) sa_nil)) (al_cons (al_cons al_nil))) (sa_cons (se_cmp (op_tEq hr.units) (sh_callI H__law_take (hr.mono (by decide)) (sa_cons (se_var 0) (sa_cons se_int sa_nil)) (al_cons (al_cons al_nil))) se_int (nomark _)) sa_nil))) (al_cons (al_cons (al_cons al_nil)))))
  (ss_cons (ss_set 2 S__law_rule.nd (se_tup (sa_cons (sh_callI H__law_of (hr.mono (by decide)) (sa_cons (se_var 0) (sa_cons (se_lst (sa_cons se_non (sa_cons se_non (sa_cons se_int (sa_cons se_int (sa_cons se_int sa_nil))))) (al_cons (al_cons (al_cons (al_cons (al_cons al_nil)))))) sa_nil)) (al_cons (al_cons al_nil))) (sa_cons (sh_callI H__law_of (hr.mono (by decide)) (sa_cons (se_var 0) (sa_cons (se_lst (sa_cons se_non (sa_cons se_non (sa_cons se_int (sa_cons se_int (sa_cons se_int sa_nil))))) (al_cons (al_cons (al_cons (al_cons (al_cons al_nil)))))) sa_nil)) (al_cons (al_cons al_nil))) sa_nil)) (al_cons (al_cons al_nil))))
  (ss_one (ss_ret (se_bin op_tAdd (se_bin op_tAdd (se_var 1) (se_var 2)) (se_tup (sa_cons (se_bin op_tAdd se_int (sh_callI H__law_take (hr.mono (by decide)) (sa_cons (se_var 0) (sa_cons se_int sa_nil)) (al_cons (al_cons al_nil)))) (sa_cons (sh_callI H__law_of (hr.mono (by decide)) (sa_cons (se_var 0) (sa_cons (se_lst (sa_cons (se_str [114, 101, 102, 117, 115, 101]) (sa_cons (se_str [101, 110, 100]) sa_nil)) (al_cons (al_cons al_nil))) sa_nil)) (al_cons (al_cons al_nil))) sa_nil)) (al_cons (al_cons al_nil))))))))
theorem ok_moved (B : Blt mg) (H_alone : Has P w (TT.KW.mk K w mg) mg base "alone" 3 (spP (TT.KW.mk K w mg) 3 f_alone)) {f : Addr} {fd : FuncData} (F : Fun K "moved" "moved" st_moved f fd) (hm : mg "moved" = some (.ref f)) : Has P w (TT.KW.mk K w mg) mg base "moved" 4 (spI (TT.KW.mk K w mg) 4 (bodyI 5 4 s_moved)) :=
  has_def (K := (TT.KW.mk K w mg)) F hm S_moved (by decide) (fun _ _ _ _ _ _ us hl => match us, hl with | [_, _, _, _], _ => rfl) fun cdv A outer s H E hr => (ss_cons (ss_set 4 S_moved.nd (se_ix (sh_callP H_alone (hr.mono (by decide)) (sa_cons (se_var 0) (sa_cons (se_var 1) (sa_cons (se_var 2) sa_nil))) (al_cons (al_cons (al_cons al_nil)))) se_int))
  (ss_one (ss_ret (se_if (st_w (sw_and (st_tru (se_var 3)) (sw_and1 (st_cmp (op_tEq hr.units) (se_var 2) (se_str [33]) (nomark _))))) (se_bin op_tAdd (se_slH (se_var 4) se_int) (se_tup (sa_cons se_non sa_nil) (al_cons al_nil))) (se_var 4)))))
theorem ok__law_easy (B : Blt mg) (H__law_of : Has P w (TT.KW.mk K w mg) mg base "_law_of" 2 (spI (TT.KW.mk K w mg) 2 i_law_of)) (H__law_rule : Has P w (TT.KW.mk K w mg) mg base "_law_rule" 3 (spI (TT.KW.mk K w mg) 1 i_law_rule)) {f : Addr} {fd : FuncData} (F : Fun K "_law_easy" "_law_easy" st__law_easy f fd) (hm : mg "_law_easy" = some (.ref f)) : Has P w (TT.KW.mk K w mg) mg base "_law_easy" 4 (spI (TT.KW.mk K w mg) 1 (bodyI 2 1 s_law_easy)) :=
  has_def (K := (TT.KW.mk K w mg)) F hm S__law_easy (by decide) (fun _ _ _ _ _ _ us hl => match us, hl with | [_], _ => rfl) fun cdv A outer s H E hr => (ss_cons (ss_set 1 S__law_easy.nd (sh_callI H__law_rule (hr.mono (by decide)) (sa_cons (se_var 0) sa_nil) (al_cons al_nil)))
  (ss_cons (ss_if (st_w (sw_or (st_isN (se_ix (se_var 1) se_int)) (sw_or1 (st_isN (se_ix (se_var 1) se_int))))) (ss_one (ss_ret (se_var 1))) ss_nil)
  (ss_one (ss_ret (se_bin op_tAdd (se_bin op_tAdd (se_slH (se_var 1) se_int) (sh_callI H__law_of (hr.mono (by decide)) (sa_cons (se_var 0) (sa_cons (se_lst (sa_cons (se_tup (sa_cons se_non (sa_cons (se_ix (se_var 1) se_int) sa_nil)) (al_cons (al_cons al_nil))) (sa_cons (se_tup (sa_cons (se_ix (se_var 1) se_int) (sa_cons se_non sa_nil)) (al_cons (al_cons al_nil))) sa_nil)) (al_cons (al_cons al_nil))) sa_nil)) (al_cons (al_cons al_nil)))) (se_slL (se_var 1) se_int))))))
theorem ok_spread (B : Blt mg) (H_moved : Has P w (TT.KW.mk K w mg) mg base "moved" 4 (spP (TT.KW.mk K w mg) 4 f_moved)) (H_alone : Has P w (TT.KW.mk K w mg) mg base "alone" 3 (spP (TT.KW.mk K w mg) 3 f_alone)) (C_SAFE : HasC (TT.KW.mk K w mg) mg "SAFE" c_SAFE) {f : Addr} {fd : FuncData} (F : Fun K "spread" "spread" st_spread f fd) (hm : mg "spread" = some (.ref f)) : Has P w (TT.KW.mk K w mg) mg base "spread" 5 (spI (TT.KW.mk K w mg) 4 (bodyI 9 4 s_spread)) :=
  has_def (K := (TT.KW.mk K w mg)) F hm S_spread (by decide) (fun _ _ _ _ _ _ us hl => match us, hl with | [_, _, _, _], _ => rfl) fun cdv A outer s H E hr => (ss_cons (ss_set 4 S_spread.nd (se_lstM sa_nil al_nil))
  (ss_cons (ss_set 5 S_spread.nd se_knew)
  (ss_cons (ss_set 6 S_spread.nd se_int)
  (ss_cons (ss_for PassesOwn.never rfl (si_list (se_var 3)) (sg_name 7 S_spread.nd) (ss_one (ss_expr (se_meth (t := .list) PySem.F.plainAttrs_list PySem.F.slot_list_append PySem.F.type_list_append mt_tAppend (se_var 4) (sa_cons (se_var 7) sa_nil)))))
  (ss_cons (ss_while PassesOwn.never (st_cmp op_tLt (se_var 6) (se_callB call_tLen (by rfl) B.b_len bb_len (sa_cons (se_var 4) sa_nil)) (nomark _)) (ss_cons (ss_set 7 S_spread.nd (se_ix (se_var 4) (se_var 6)))
  (ss_cons (ss_set 6 S_spread.nd (se_bin op_tAdd (se_var 6) se_int))
  (ss_cons (ss_if (st_w (sw_or (st_cmp (op_kin hr.units) (se_var 7) (se_var 2) rfl) (sw_or1 (st_cmp (op_kin hr.units) (se_var 7) (se_var 5) rfl)))) (ss_one ss_cont) ss_nil)
  (ss_cons (ss_asg se_bl (sg_ksub hr.units (se_var 5) (se_var 7)))
  (ss_cons (ss_if (st_tru (se_ix (sh_callP H_alone (hr.mono (by decide)) (sa_cons (se_var 0) (sa_cons (se_var 7) (sa_cons (se_str [33]) sa_nil))) (al_cons (al_cons (al_cons al_nil)))) se_int)) (ss_one (ss_ret (se_tup (sa_cons (se_var 5) (sa_cons se_bl sa_nil)) (al_cons (al_cons al_nil))))) ss_nil)
  (ss_one (ss_for PassesOwn.never rfl (si_tup (sh_glob C_SAFE)) (sg_name 8 S_spread.nd) (ss_one (ss_expr (se_meth (t := .list) PySem.F.plainAttrs_list PySem.F.slot_list_append PySem.F.type_list_append mt_tAppend (se_var 4) (sa_cons (sh_callP H_moved (hr.mono (by decide)) (sa_cons (se_var 0) (sa_cons (se_var 7) (sa_cons (se_var 8) (sa_cons (se_var 1) sa_nil)))) (al_cons (al_cons (al_cons (al_cons al_nil))))) sa_nil))))))))))))
  (ss_one (ss_ret (se_tup (sa_cons (se_var 5) (sa_cons se_bl sa_nil)) (al_cons (al_cons al_nil))))))))))
theorem ok_fewest (B : Blt mg) (H_moved : Has P w (TT.KW.mk K w mg) mg base "moved" 4 (spP (TT.KW.mk K w mg) 4 f_moved)) (H_spread : Has P w (TT.KW.mk K w mg) mg base "spread" 5 (spI (TT.KW.mk K w mg) 4 i_spread)) (H_first_node : Has P w (TT.KW.mk K w mg) mg base "first_node" 2 (spP (TT.KW.mk K w mg) 1 f_first_node)) (C_FAULTS : HasC (TT.KW.mk K w mg) mg "FAULTS" c_FAULTS) {f : Addr} {fd : FuncData} (F : Fun K "fewest" "fewest" st_fewest f fd) (hm : mg "fewest" = some (.ref f)) : Has P w (TT.KW.mk K w mg) mg base "fewest" 6 (spI (TT.KW.mk K w mg) 2 (bodyI 9 2 s_fewest)) :=
  has_def (K := (TT.KW.mk K w mg)) F hm S_fewest (by decide) (fun _ _ _ _ _ _ us hl => match us, hl with | [_, _], _ => rfl) fun cdv A outer s H E hr => (ss_cons (ss_set 2 S_fewest.nd se_knew)
  (ss_cons (ss_par2 3 4 rfl S_fewest.nd (sa_cons (se_lst (sa_cons (sh_callP H_first_node (hr.mono (by decide)) (sa_cons (se_var 0) sa_nil) (al_cons al_nil)) sa_nil) (al_cons al_nil)) (sa_cons se_int sa_nil)))
  (ss_cons (ss_while PassesOwn.never (st_cmp (op_tNe hr.units) (se_var 3) (se_lst sa_nil al_nil) (nomark _)) (ss_cons (ss_asg (sh_callI H_spread (hr.mono (by decide)) (sa_cons (se_var 0) (sa_cons (se_var 1) (sa_cons (se_var 2) (sa_cons (se_var 3) sa_nil)))) (al_cons (al_cons (al_cons (al_cons al_nil))))) (sg_tup 2 rfl (sgs_cons 5 S_fewest.nd (sgs_cons 6 S_fewest.nd sgs_nil))))
  (ss_cons (ss_if (st_tru (se_var 6)) (ss_one (ss_ret (se_var 4))) ss_nil)
  (ss_lock 5 (ss_cons (ss_setLc2 3 7 8 rfl S_fewest.nd (si_kl (se_var 5)) (blkOk_by (own := [("node", 7), ("event", 8)]) (N := n_fewest) (sc := defScope st_fewest) (by decide +kernel)) (fun _ _ _ _ _ => pg_name (i := 7) S_fewest.nd rfl (Or.inl rfl)) (fun _ _ _ _ _ => sts_nil) (fun _ _ _ _ _ => (sh_glob C_FAULTS)) (fun _ _ _ _ _ => pg_name (i := 8) S_fewest.nd rfl (Or.inl rfl)) (fun _ _ _ _ _ => sts_nil) (fun _ _ _ _ _ => (sh_callP H_moved (hr.mono (by decide)) (sa_cons (se_var 0) (sa_cons (se_var 7) (sa_cons (se_var 8) (sa_cons (se_var 1) sa_nil)))) (al_cons (al_cons (al_cons (al_cons al_nil)))))) (sw_true rfl rfl rfl (by decide +kernel)))
  (ss_cons (ss_for PassesOwn.never rfl (si_kl (se_var 5)) (sg_name 7 S_fewest.nd) (ss_one (ss_asg se_bl (sg_ksub hr.units (se_var 2) (se_var 7)))))
  (ss_one (ss_set 4 S_fewest.nd (se_bin op_tAdd (se_var 4) se_int)))))))))
  (ss_one (ss_ret se_non)))))
theorem fn_fewest_faults (B : Blt mg) (H_fewest : Has P w (TT.KW.mk K w mg) mg base "fewest" 6 (spP (TT.KW.mk K w mg) 2 f_fewest)) (H_need_rule : HasX P w (TT.KW.mk K w mg) mg base "need_rule" 3 (spX (TT.KW.mk K w mg) mg 1 f_need_rule)) {f : Addr} {fd : FuncData} (F : Fun K "fewest_faults" "fewest_faults" st_fewest_faults f fd) : FnOk P w K mg base CX0 7 f fd ["rule", "careful"] (spI (TT.KW.mk K w mg) 2 (bodyI 2 2 s_fewest_faults)) :=
  defI (K := (TT.KW.mk K w mg)) F S_fewest_faults (by decide) fun cdv A outer s H E hr => (ss_cons (ss_expr (sh_callXP H_need_rule (hr.mono (by decide)) (sa_cons (se_var 0) sa_nil) (al_cons al_nil)))
  (ss_one (ss_ret (sh_callP H_fewest (hr.mono (by decide)) (sa_cons (se_var 0) (sa_cons (se_var 1) sa_nil)) (al_cons (al_cons al_nil))))))
theorem ok_fewest_faults {f : Addr} {fd : FuncData} (a : FnOk P w K mg base CX0 7 f fd ["rule", "careful"] (spI (TT.KW.mk K w mg) 2 (bodyI 2 2 s_fewest_faults))) (F : Fun K "fewest_faults" "fewest_faults" st_fewest_faults f fd) (hm : mg "fewest_faults" = some (.ref f)) : HasK P w (TT.KW.mk K w mg) mg base "fewest_faults" 7 1 ["careful"] (spI (TT.KW.mk K w mg) 2 (bodyI 2 2 s_fewest_faults)) :=
  hasK_fn 1 ["careful"] a F hm (fun _ _ _ _ _ _ us ws hl hl2 => match us, hl, ws, hl2 with | [_], _, [_], _ => rfl)
theorem okD_fewest_faults {f : Addr} {fd : FuncData} (a : FnOk P w K mg base CX0 7 f fd ["rule", "careful"] (spI (TT.KW.mk K w mg) 2 (bodyI 2 2 s_fewest_faults))) (hm : mg "fewest_faults" = some (.ref f)) (F : FunD K "fewest_faults" "fewest_faults" (defArgs st_fewest_faults) (defBody st_fewest_faults) (defScope st_fewest_faults) [] [("careful", .bl false)] f fd) : HasD P w (TT.KW.mk K w mg) mg base "fewest_faults" 7 [(.bl false)] (spI (TT.KW.mk K w mg) 2 (bodyI 2 2 s_fewest_faults)) :=
  hasD_fn (st := st_fewest_faults) 1 a hm F (by decide) rfl (fun D doc pm an cdv ct us ks hl hl2 => match us, hl, ks, hl2 with | [_], _, [_], _ => ⟨_, _, _, _, _, _, rfl, rfl, rfl⟩) (fun g H => .cons (.bl _) (.nil))
theorem fn_values_bearing (B : Blt mg) (H_fewest : Has P w (TT.KW.mk K w mg) mg base "fewest" 6 (spP (TT.KW.mk K w mg) 2 f_fewest)) (H_need_number : HasX P w (TT.KW.mk K w mg) mg base "need_number" 2 (spX (TT.KW.mk K w mg) mg 3 f_need_number)) (H_need_rule : HasX P w (TT.KW.mk K w mg) mg base "need_rule" 3 (spX (TT.KW.mk K w mg) mg 1 f_need_rule)) (C_CHOICES : HasC (TT.KW.mk K w mg) mg "CHOICES" c_CHOICES) (C_PARTS : HasC (TT.KW.mk K w mg) mg "PARTS" c_PARTS) (CT_PARTS : HasCT (TT.KW.mk K w mg) mg "PARTS" (tupItems c_PARTS)) (E_InvalidPart : HasE (TT.KW.mk K w mg) mg "InvalidPart") {f : Addr} {fd : FuncData} (F : Fun K "values_bearing" "values_bearing" st_values_bearing f fd) : FnOk P w K mg base (L2N.CX P w) 7 f fd ["rule", "part", "faults", "careful"] (spXI (TT.KW.mk K w mg) mg 4 (bodyI 8 4 s_values_bearing)) :=
  defX (K := (TT.KW.mk K w mg)) F S_values_bearing (by decide) fun cdv A outer s H E hr => (ss_cons (ss_expr (sh_callX H_need_rule (hr.mono (by decide)) (L2N.takes_of rfl rfl rfl rfl) (sa_cons (se_var 0) sa_nil) (al_cons al_nil)))
  (ss_cons (ss_if (st_w (sw_or (st_not (st_tru (se_isA .tStr (by rfl) B.b_isinstance bb_isinstance (se_var 1) (by rfl) B.b_str bb_str))) (sw_or1 (st_cmp (op_tNotIn hr.units) (se_var 1) (sh_glob C_PARTS) rfl)))) (ss_one (ss_raise 6 E_InvalidPart rfl rfl (L2N.takes_of rfl rfl rfl rfl))) ss_nil)
  (ss_cons (ss_expr (sh_callX H_need_number (hr.mono (by decide)) (L2N.takes_of rfl rfl rfl rfl) (sa_cons (se_var 2) (sa_cons se_int (sa_cons se_int sa_nil))) (al_cons (al_cons (al_cons al_nil)))))
  (ss_cons (ss_par2 4 5 rfl S_values_bearing.nd (sa_cons (se_methT CT_PARTS PySem.F.plainAttrs_tuple PySem.F.slot_tuple_index PySem.F.type_tuple_index (mt_tIndexT hr.units) (sa_cons (se_var 1) sa_nil)) (sa_cons (se_lstM sa_nil al_nil) sa_nil)))
  (ss_cons (ss_for (passes_of rfl) rfl (si_tup (se_ix (sh_glob C_CHOICES) (se_var 4))) (sg_name 6 S_values_bearing.nd) (ss_cons (ss_set 7 S_values_bearing.nd (sh_callP H_fewest (hr.mono (by decide)) (sa_cons (se_bin op_tAdd (se_bin op_tAdd (se_slH (se_var 0) (se_var 4)) (se_tup (sa_cons (se_var 6) sa_nil) (al_cons al_nil))) (se_slL (se_var 0) (se_bin op_tAdd (se_var 4) se_int))) (sa_cons (se_var 3) sa_nil)) (al_cons (al_cons al_nil))))
  (ss_one (ss_if (st_w (sw_or (st_isN (se_var 7)) (sw_or1 (st_cmp op_tGt (se_var 7) (se_var 2) (nomark _))))) (ss_one (ss_expr (se_meth (t := .list) PySem.F.plainAttrs_list PySem.F.slot_list_append PySem.F.type_list_append mt_tAppend (se_var 5) (sa_cons (se_var 6) sa_nil)))) ss_nil))))
  (ss_one (ss_ret (se_var 5))))))))
theorem okK_values_bearing {f : Addr} {fd : FuncData} (a : FnOk P w K mg base CX0 7 f fd ["rule", "part", "faults", "careful"] (spP (TT.KW.mk K w mg) 4 f_values_bearing)) (F : Fun K "values_bearing" "values_bearing" st_values_bearing f fd) (hm : mg "values_bearing" = some (.ref f)) : HasK P w (TT.KW.mk K w mg) mg base "values_bearing" 7 3 ["careful"] (spP (TT.KW.mk K w mg) 4 f_values_bearing) :=
  hasK_fn 3 ["careful"] a F hm (fun _ _ _ _ _ _ us ws hl hl2 => match us, hl, ws, hl2 with | [_, _, _], _, [_], _ => rfl)
theorem okD_values_bearing {f : Addr} {fd : FuncData} (a : FnOk P w K mg base CX0 7 f fd ["rule", "part", "faults", "careful"] (spP (TT.KW.mk K w mg) 4 f_values_bearing)) (hm : mg "values_bearing" = some (.ref f)) (F : FunD K "values_bearing" "values_bearing" (defArgs st_values_bearing) (defBody st_values_bearing) (defScope st_values_bearing) [] [("careful", .bl false)] f fd) : HasD P w (TT.KW.mk K w mg) mg base "values_bearing" 7 [(.bl false)] (spP (TT.KW.mk K w mg) 4 f_values_bearing) :=
  hasD_fn (st := st_values_bearing) 3 a hm F (by decide) rfl (fun D doc pm an cdv ct us ks hl hl2 => match us, hl, ks, hl2 with | [_, _, _], _, [_], _ => ⟨_, _, _, _, _, _, rfl, rfl, rfl⟩) (fun g H => .cons (.bl _) (.nil))
theorem okV_values_bearing {f : Addr} {fd : FuncData} (a : FnOk P w K mg base (L2N.CX P w) 7 f fd ["rule", "part", "faults", "careful"] (spXI (TT.KW.mk K w mg) mg 4 (bodyI 8 4 s_values_bearing))) (hm : mg "values_bearing" = some (.ref f)) (F : FunD K "values_bearing" "values_bearing" (defArgs st_values_bearing) (defBody st_values_bearing) (defScope st_values_bearing) [] [("careful", .bl false)] f fd) : CalV P w (TT.KW.mk K w mg) mg base "values_bearing" f 7 [(.bl false)] (spXI (TT.KW.mk K w mg) mg 4 (bodyI 8 4 s_values_bearing)) :=
  cal_defD (st := st_values_bearing) 3 a hm F (by decide) rfl (fun D doc pm an cdv ct us ks hl hl2 => match us, hl, ks, hl2 with | [_, _, _], _, [_], _ => ⟨_, _, _, _, _, _, rfl, rfl, rfl⟩) (fun g H => .cons (.bl _) (.nil))
theorem ok__law_right (B : Blt mg) (H_values_bearing : HasK P w (TT.KW.mk K w mg) mg base "values_bearing" 7 3 ["careful"] (spP (TT.KW.mk K w mg) 4 f_values_bearing)) (H_fewest_faults : HasK P w (TT.KW.mk K w mg) mg base "fewest_faults" 7 1 ["careful"] (spP (TT.KW.mk K w mg) 2 f_fewest_faults)) {f : Addr} {fd : FuncData} (F : Fun K "_law_right" "_law_right" st__law_right f fd) (hm : mg "_law_right" = some (.ref f)) : HasG P w (TT.KW.mk K w mg) mg base "_law_right" 8 (spI (TT.KW.mk K w mg) 4 (bodyI 9 4 s_law_right)) :=
  has_defG (K := (TT.KW.mk K w mg)) F hm S__law_right (by decide) (fun _ _ _ _ _ _ us hl => match us, hl with | [_, _, _, _], _ => rfl) fun cdv A outer s H E hg hr => (ss_cons (ss_set 4 S__law_right.nd (se_lst (sa_cons (se_str [107, 101, 101, 112]) (sa_cons (se_str [114, 101, 112, 108, 121]) (sa_cons (se_str [115, 116, 114, 105, 99, 116]) (sa_cons (se_str [108, 101, 101, 119, 97, 121]) (sa_cons (se_str [115, 112, 97, 114, 101]) (sa_cons (se_str [101, 118, 101, 114, 121]) (sa_cons (se_str [111, 108, 100]) sa_nil))))))) (al_cons (al_cons (al_cons (al_cons (al_cons (al_cons (al_cons al_nil)))))))))
  (ss_cons (ss_set 5 S__law_right.nd (se_lst (sa_cons (se_lst (sa_cons se_int (sa_cons se_int (sa_cons se_int sa_nil))) (al_cons (al_cons (al_cons al_nil)))) (sa_cons (se_lst (sa_cons (se_str [110, 101, 119]) (sa_cons (se_str [115, 97, 109, 101]) sa_nil)) (al_cons (al_cons al_nil))) (sa_cons (se_lst (sa_cons se_bl (sa_cons se_bl sa_nil)) (al_cons (al_cons al_nil))) (sa_cons (se_lst (sa_cons se_non (sa_cons se_int (sa_cons se_int (sa_cons se_int sa_nil)))) (al_cons (al_cons (al_cons (al_cons al_nil))))) (sa_cons (se_lst (sa_cons se_non (sa_cons se_int (sa_cons se_int (sa_cons se_int sa_nil)))) (al_cons (al_cons (al_cons (al_cons al_nil))))) (sa_cons (se_lst (sa_cons se_int (sa_cons se_int (sa_cons se_int sa_nil))) (al_cons (al_cons (al_cons al_nil)))) (sa_cons (se_lst (sa_cons (se_str [101, 110, 100]) (sa_cons (se_str [114, 101, 102, 117, 115, 101]) sa_nil)) (al_cons (al_cons al_nil))) sa_nil))))))) (al_cons (al_cons (al_cons (al_cons (al_cons (al_cons (al_cons al_nil)))))))))
  (ss_cons (ss_set 6 S__law_right.nd (se_lstM sa_nil al_nil))
  (ss_cons (ss_for PassesOwn.never rfl (si_list (se_ix (se_var 5) (se_var 1))) (sg_name 7 S__law_right.nd) (ss_cons (ss_set 8 S__law_right.nd (sh_callK 2 H_fewest_faults (hr.mono (by decide)) (sa_cons (se_bin op_tAdd (se_bin op_tAdd (se_slH (se_var 0) (se_var 1)) (se_tup (sa_cons (se_var 7) sa_nil) (al_cons al_nil))) (se_slL (se_var 0) (se_bin op_tAdd (se_var 1) se_int))) sa_nil) (al_cons al_nil) (sk_cons (se_var 3) sk_nil) (al_kcons al_knil)))
  (ss_one (ss_if (st_w (sw_or (st_isN (se_var 8)) (sw_or1 (st_cmp op_tGt (se_var 8) (se_var 2) (nomark _))))) (ss_one (ss_expr (se_meth (t := .list) PySem.F.plainAttrs_list PySem.F.slot_list_append PySem.F.type_list_append mt_tAppend (se_var 6) (sa_cons (se_var 7) sa_nil)))) ss_nil))))
  (ss_one (ss_ret (se_cmp (op_tEq hr.units) (se_callB (call_tReprL hg hr) (by rfl) B.b_repr bb_repr (sa_cons (sh_callK 4 H_values_bearing (hr.mono (by decide)) (sa_cons (se_var 0) (sa_cons (se_ix (se_var 4) (se_var 1)) (sa_cons (se_var 2) sa_nil))) (al_cons (al_cons (al_cons al_nil))) (sk_cons (se_var 3) sk_nil) (al_kcons al_knil)) sa_nil)) (se_callB (call_tReprL hg hr) (by rfl) B.b_repr bb_repr (sa_cons (se_var 6) sa_nil)) (nomark _))))))))
theorem ok_law (B : Blt mg) (HD_values_bearing : HasD P w (TT.KW.mk K w mg) mg base "values_bearing" 7 [(.bl false)] (spP (TT.KW.mk K w mg) 4 f_values_bearing)) (HXD_values_bearing : HasXD P w (TT.KW.mk K w mg) mg base "values_bearing" 7 [(.bl false)] (spX (TT.KW.mk K w mg) mg 4 f_values_bearing)) (H__law_right : HasG P w (TT.KW.mk K w mg) mg base "_law_right" 8 (spI (TT.KW.mk K w mg) 4 i_law_right)) (H__law_of : Has P w (TT.KW.mk K w mg) mg base "_law_of" 2 (spI (TT.KW.mk K w mg) 2 i_law_of)) (H__law_take : Has P w (TT.KW.mk K w mg) mg base "_law_take" 1 (spI (TT.KW.mk K w mg) 2 i_law_take)) (H__law_easy : Has P w (TT.KW.mk K w mg) mg base "_law_easy" 4 (spI (TT.KW.mk K w mg) 1 i_law_easy)) (H__law_bag : Has P w (TT.KW.mk K w mg) mg base "_law_bag" 1 (spI (TT.KW.mk K w mg) 2 i_law_bag)) (T__law_error : ToldAt (TT.KW.mk K w mg) mg "_law_error" t__law_error [110, 111, 110, 101] [1, 6, 3]) {f c Pt : Addr} {oc kV doc pm ct : Value} {od an : Option Addr} {osl : Array (Option Value)} (lk : K.lookup f = some ⟨oc, od, .func (PySem.W.fnOf "law" "law" (defArgs st_law) (defBody st_law) (defScope st_law) .none kV doc pm an (.ref c) ct), osl⟩) (hcd : PySem.W.codeIn K (.ref c) "law" = true) (TB : LamX.TabB base mg c Pt) (hlaw : ∀ ns : List Int, ns.length ≤ 63 → ∃ m, bodyI 6 1 (s_law Pt) [.fz (ns.map PV.int)] [.tab Pt q_lam] = .ok (.bl true, m)) : FnOkG P w K mg base 10 f (PySem.W.fnOf "law" "law" (defArgs st_law) (defBody st_law) (defScope st_law) .none kV doc pm an (.ref c) ct) ["_law_script"] (spLawT (TT.KW.mk K w mg) Pt) :=
  law_fnTG (K := (TT.KW.mk K w mg)) lk hcd S_law (by decide) (fun A outer s H E hg hr => by have hcode : (Value.ref c) = .ref c := rfl; exact (ss_cons (ss_for PassesOwn.never rfl (si_rng1 (by rfl) B.b_range (se_bin op_tAdd (se_callB (call_tMin rfl) (by rfl) B.b_min bb_min (sa_cons (se_callB call_tLen (by rfl) B.b_len bb_len (sa_cons (se_var 0) sa_nil)) (sa_cons se_int sa_nil))) se_int)) (sg_name 1 S_law.nd) (ss_cons (ss_set 2 S_law.nd (sh_callI H__law_bag (hr.mono (by decide)) (sa_cons (se_var 0) (sa_cons (se_var 1) sa_nil)) (al_cons (al_cons al_nil))))
  (ss_cons (ss_set 3 S_law.nd (sh_callI H__law_easy (hr.mono (by decide)) (sa_cons (se_var 2) sa_nil) (al_cons al_nil)))
  (ss_cons (ss_for PassesOwn.never rfl (si_rng1 (by rfl) B.b_range se_int) (sg_name 4 S_law.nd) (ss_one (ss_if (st_not (st_tru (sh_callG H__law_right hg (hr.mono (by decide)) (sa_cons (se_var 3) (sa_cons (sh_callI H__law_take (hr.mono (by decide)) (sa_cons (se_var 2) (sa_cons se_int sa_nil)) (al_cons (al_cons al_nil))) (sa_cons (sh_callI H__law_of (hr.mono (by decide)) (sa_cons (se_var 2) (sa_cons (se_lst (sa_cons se_int (sa_cons se_int (sa_cons se_int (sa_cons se_int (sa_cons (sh_callI H__law_take (hr.mono (by decide)) (sa_cons (se_var 2) (sa_cons se_int sa_nil)) (al_cons (al_cons al_nil))) sa_nil))))) (al_cons (al_cons (al_cons (al_cons (al_cons al_nil)))))) sa_nil)) (al_cons (al_cons al_nil))) (sa_cons (se_cmp (op_tEq hr.units) (se_var 4) se_int (nomark _)) sa_nil)))) (al_cons (al_cons (al_cons (al_cons al_nil))))))) (ss_one (ss_ret se_bl)) ss_nil)))
  (ss_cons (ss_for PassesOwn.never rfl (si_list (se_lst (sa_cons se_non (sa_cons (se_str [107, 101, 112, 116]) (sa_cons (se_str []) (sa_cons se_int (sa_cons se_bl (sa_cons (se_lst (sa_cons (se_str [107, 101, 101, 112]) sa_nil) (al_cons al_nil)) (sa_cons (se_tup (sa_cons (se_str [107, 101, 101, 112]) sa_nil) (al_cons al_nil)) sa_nil))))))) (al_cons (al_cons (al_cons (al_cons (al_cons (al_cons (al_cons al_nil))))))))) (sg_name 5 S_law.nd) (ss_one (ss_if (st_cmp (op_tNe hr.units) (se_told (k := 7) T__law_error TB hcode (hr.mono (by decide)) (fun A outer s H E f c' hr => (sh_callXD 4 HXD_values_bearing (hr.mono (by decide)) (L2N.takes_of rfl rfl rfl rfl) (sa_cons (se_var 3) (sa_cons (se_var 5) (sa_cons se_non sa_nil))) (al_cons (al_cons (al_cons al_nil)))))) (se_str [112, 97, 114, 116]) (nomark _)) (ss_one (ss_ret se_bl)) ss_nil)))
  (ss_cons (ss_for PassesOwn.never rfl (si_list (se_lst (sa_cons se_non (sa_cons (se_neg se_int) (sa_cons se_int (sa_cons se_bl (sa_cons (se_str [49]) (sa_cons (se_tup (sa_cons se_int sa_nil) (al_cons al_nil)) sa_nil)))))) (al_cons (al_cons (al_cons (al_cons (al_cons (al_cons al_nil)))))))) (sg_name 5 S_law.nd) (ss_one (ss_if (st_cmp (op_tNe hr.units) (se_told (k := 7) T__law_error TB hcode (hr.mono (by decide)) (fun A outer s H E f c' hr => (sh_callXD 4 HXD_values_bearing (hr.mono (by decide)) (L2N.takes_of rfl rfl rfl rfl) (sa_cons (se_var 3) (sa_cons (se_str [111, 108, 100]) (sa_cons (se_var 5) sa_nil))) (al_cons (al_cons (al_cons al_nil)))))) (se_str [110, 117, 109, 98, 101, 114]) (nomark _)) (ss_one (ss_ret se_bl)) ss_nil)))
  (ss_one (ss_if (st_cmp (op_tNe hr.units) (se_told (k := 7) T__law_error TB hcode (hr.mono (by decide)) (fun A outer s H E f c' hr => (sh_callXD 4 HXD_values_bearing (hr.mono (by decide)) (L2N.takes_of rfl rfl rfl rfl) (sa_cons (se_slH (se_var 3) se_int) (sa_cons (se_str [107, 101, 112, 116]) (sa_cons se_non sa_nil))) (al_cons (al_cons (al_cons al_nil)))))) (se_str [114, 117, 108, 101]) (nomark _)) (ss_one (ss_ret se_bl)) ss_nil))))))))
  (ss_one (ss_ret (se_cmp (op_tEq hr.units) (sh_callD 4 HD_values_bearing (hr.mono (by decide)) (sa_cons (se_tup (sa_cons se_int (sa_cons (se_str [115, 97, 109, 101]) (sa_cons se_bl (sa_cons se_non (sa_cons se_non (sa_cons se_int (sa_cons (se_str [101, 110, 100]) sa_nil))))))) (al_cons (al_cons (al_cons (al_cons (al_cons (al_cons (al_cons al_nil)))))))) (sa_cons (se_str [107, 101, 101, 112]) (sa_cons se_int sa_nil))) (al_cons (al_cons (al_cons al_nil)))) (se_lst (sa_cons se_int (sa_cons se_int (sa_cons se_int sa_nil))) (al_cons (al_cons (al_cons al_nil)))) (nomark _)))))) hlaw
end
end TT
end

section
set_option Elab.async false
set_option linter.all false
set_option autoImplicit false
set_option maxRecDepth 100000
set_option maxHeartbeats 4000000
namespace TT
open PySem PySem.Spec PyProof.Rows L2
theorem all_mk {l : PySem.W.OpenLaw} {w : World} {K : PySem.W.Frag} {h : Heap} {mg : Str → Option Value} {fa : Addr} (X : K.In h) (G : h.Ns mainGlobals mg) (hfa : mg "law" = some (.ref fa)) (own : LamX.OwnTab K fa h)
    {f1 : Addr} {od1 an1 : Option Addr} {sl1 : Array (Option Value)} {oc1 kV1 dc1 pm1 cd1 ct1 : Value} (a1 : PySem.W.nsIn K mainGlobals "is_integer" = some (some (.ref f1))) (l1 : K.lookup f1 = some ⟨oc1, od1, .func (PySem.W.fnOf "is_integer" "is_integer" (defArgs st_is_integer) (defBody st_is_integer) (defScope st_is_integer) .none kV1 dc1 pm1 an1 cd1 ct1), sl1⟩) (e1 : PySem.W.codeIn K cd1 "is_integer" = true) (k1 : PySem.W.keepIn K (.ref f1) = true)
    {f2 : Addr} {od2 an2 : Option Addr} {sl2 : Array (Option Value)} {oc2 kV2 dc2 pm2 cd2 ct2 : Value} (a2 : PySem.W.nsIn K mainGlobals "is_choice" = some (some (.ref f2))) (l2 : K.lookup f2 = some ⟨oc2, od2, .func (PySem.W.fnOf "is_choice" "is_choice" (defArgs st_is_choice) (defBody st_is_choice) (defScope st_is_choice) .none kV2 dc2 pm2 an2 cd2 ct2), sl2⟩) (e2 : PySem.W.codeIn K cd2 "is_choice" = true) (k2 : PySem.W.keepIn K (.ref f2) = true)
    {f3 : Addr} {od3 an3 : Option Addr} {sl3 : Array (Option Value)} {oc3 kV3 dc3 pm3 cd3 ct3 : Value} (a3 : PySem.W.nsIn K mainGlobals "first_stand" = some (some (.ref f3))) (l3 : K.lookup f3 = some ⟨oc3, od3, .func (PySem.W.fnOf "first_stand" "first_stand" (defArgs st_first_stand) (defBody st_first_stand) (defScope st_first_stand) .none kV3 dc3 pm3 an3 cd3 ct3), sl3⟩) (e3 : PySem.W.codeIn K cd3 "first_stand" = true) (k3 : PySem.W.keepIn K (.ref f3) = true)
    {f4 : Addr} {od4 an4 : Option Addr} {sl4 : Array (Option Value)} {oc4 kV4 dc4 pm4 cd4 ct4 : Value} (a4 : PySem.W.nsIn K mainGlobals "is_good" = some (some (.ref f4))) (l4 : K.lookup f4 = some ⟨oc4, od4, .func (PySem.W.fnOf "is_good" "is_good" (defArgs st_is_good) (defBody st_is_good) (defScope st_is_good) .none kV4 dc4 pm4 an4 cd4 ct4), sl4⟩) (e4 : PySem.W.codeIn K cd4 "is_good" = true) (k4 : PySem.W.keepIn K (.ref f4) = true)
    {f5 : Addr} {od5 an5 : Option Addr} {sl5 : Array (Option Value)} {oc5 kV5 dc5 pm5 cd5 ct5 : Value} (a5 : PySem.W.nsIn K mainGlobals "with_token" = some (some (.ref f5))) (l5 : K.lookup f5 = some ⟨oc5, od5, .func (PySem.W.fnOf "with_token" "with_token" (defArgs st_with_token) (defBody st_with_token) (defScope st_with_token) .none kV5 dc5 pm5 an5 cd5 ct5), sl5⟩) (e5 : PySem.W.codeIn K cd5 "with_token" = true) (k5 : PySem.W.keepIn K (.ref f5) = true)
    {f6 : Addr} {od6 an6 : Option Addr} {sl6 : Array (Option Value)} {oc6 kV6 dc6 pm6 cd6 ct6 : Value} (a6 : PySem.W.nsIn K mainGlobals "ticked" = some (some (.ref f6))) (l6 : K.lookup f6 = some ⟨oc6, od6, .func (PySem.W.fnOf "ticked" "ticked" (defArgs st_ticked) (defBody st_ticked) (defScope st_ticked) .none kV6 dc6 pm6 an6 cd6 ct6), sl6⟩) (e6 : PySem.W.codeIn K cd6 "ticked" = true) (k6 : PySem.W.keepIn K (.ref f6) = true)
    {f7 : Addr} {od7 an7 : Option Addr} {sl7 : Array (Option Value)} {oc7 kV7 dc7 pm7 cd7 ct7 : Value} (a7 : PySem.W.nsIn K mainGlobals "older" = some (some (.ref f7))) (l7 : K.lookup f7 = some ⟨oc7, od7, .func (PySem.W.fnOf "older" "older" (defArgs st_older) (defBody st_older) (defScope st_older) .none kV7 dc7 pm7 an7 cd7 ct7), sl7⟩) (e7 : PySem.W.codeIn K cd7 "older" = true) (k7 : PySem.W.keepIn K (.ref f7) = true)
    {f8 : Addr} {od8 an8 : Option Addr} {sl8 : Array (Option Value)} {oc8 kV8 dc8 pm8 cd8 ct8 : Value} (a8 : PySem.W.nsIn K mainGlobals "_law_bag" = some (some (.ref f8))) (l8 : K.lookup f8 = some ⟨oc8, od8, .func (PySem.W.fnOf "_law_bag" "_law_bag" (defArgs st__law_bag) (defBody st__law_bag) (defScope st__law_bag) .none kV8 dc8 pm8 an8 cd8 ct8), sl8⟩) (e8 : PySem.W.codeIn K cd8 "_law_bag" = true) (k8 : PySem.W.keepIn K (.ref f8) = true)
    {f9 : Addr} {od9 an9 : Option Addr} {sl9 : Array (Option Value)} {oc9 kV9 dc9 pm9 cd9 ct9 : Value} (a9 : PySem.W.nsIn K mainGlobals "_law_take" = some (some (.ref f9))) (l9 : K.lookup f9 = some ⟨oc9, od9, .func (PySem.W.fnOf "_law_take" "_law_take" (defArgs st__law_take) (defBody st__law_take) (defScope st__law_take) .none kV9 dc9 pm9 an9 cd9 ct9), sl9⟩) (e9 : PySem.W.codeIn K cd9 "_law_take" = true) (k9 : PySem.W.keepIn K (.ref f9) = true)
    {f10 : Addr} {od10 an10 : Option Addr} {sl10 : Array (Option Value)} {oc10 kV10 dc10 pm10 cd10 ct10 : Value} (a10 : PySem.W.nsIn K mainGlobals "_law_error" = some (some (.ref f10))) (l10 : K.lookup f10 = some ⟨oc10, od10, .func (PySem.W.fnOf "_law_error" "_law_error" (defArgs st__law_error) (defBody st__law_error) (defScope st__law_error) .none kV10 dc10 pm10 an10 cd10 ct10), sl10⟩) (e10 : PySem.W.codeIn K cd10 "_law_error" = true) (k10 : PySem.W.keepIn K (.ref f10) = true)
    {f11 : Addr} {od11 an11 : Option Addr} {sl11 : Array (Option Value)} {oc11 kV11 dc11 pm11 cd11 ct11 : Value} (a11 : PySem.W.nsIn K mainGlobals "is_rule" = some (some (.ref f11))) (l11 : K.lookup f11 = some ⟨oc11, od11, .func (PySem.W.fnOf "is_rule" "is_rule" (defArgs st_is_rule) (defBody st_is_rule) (defScope st_is_rule) .none kV11 dc11 pm11 an11 cd11 ct11), sl11⟩) (e11 : PySem.W.codeIn K cd11 "is_rule" = true) (k11 : PySem.W.keepIn K (.ref f11) = true)
    {f12 : Addr} {od12 an12 : Option Addr} {sl12 : Array (Option Value)} {oc12 kV12 dc12 pm12 cd12 ct12 : Value} (a12 : PySem.W.nsIn K mainGlobals "need_number" = some (some (.ref f12))) (l12 : K.lookup f12 = some ⟨oc12, od12, .func (PySem.W.fnOf "need_number" "need_number" (defArgs st_need_number) (defBody st_need_number) (defScope st_need_number) .none kV12 dc12 pm12 an12 cd12 ct12), sl12⟩) (e12 : PySem.W.codeIn K cd12 "need_number" = true) (k12 : PySem.W.keepIn K (.ref f12) = true)
    {f13 : Addr} {od13 an13 : Option Addr} {sl13 : Array (Option Value)} {oc13 kV13 dc13 pm13 cd13 ct13 : Value} (a13 : PySem.W.nsIn K mainGlobals "requested" = some (some (.ref f13))) (l13 : K.lookup f13 = some ⟨oc13, od13, .func (PySem.W.fnOf "requested" "requested" (defArgs st_requested) (defBody st_requested) (defScope st_requested) .none kV13 dc13 pm13 an13 cd13 ct13), sl13⟩) (e13 : PySem.W.codeIn K cd13 "requested" = true) (k13 : PySem.W.keepIn K (.ref f13) = true)
    {f14 : Addr} {od14 an14 : Option Addr} {sl14 : Array (Option Value)} {oc14 kV14 dc14 pm14 cd14 ct14 : Value} (a14 : PySem.W.nsIn K mainGlobals "first_node" = some (some (.ref f14))) (l14 : K.lookup f14 = some ⟨oc14, od14, .func (PySem.W.fnOf "first_node" "first_node" (defArgs st_first_node) (defBody st_first_node) (defScope st_first_node) .none kV14 dc14 pm14 an14 cd14 ct14), sl14⟩) (e14 : PySem.W.codeIn K cd14 "first_node" = true) (k14 : PySem.W.keepIn K (.ref f14) = true)
    {f15 : Addr} {od15 an15 : Option Addr} {sl15 : Array (Option Value)} {oc15 kV15 dc15 pm15 cd15 ct15 : Value} (a15 : PySem.W.nsIn K mainGlobals "_law_of" = some (some (.ref f15))) (l15 : K.lookup f15 = some ⟨oc15, od15, .func (PySem.W.fnOf "_law_of" "_law_of" (defArgs st__law_of) (defBody st__law_of) (defScope st__law_of) .none kV15 dc15 pm15 an15 cd15 ct15), sl15⟩) (e15 : PySem.W.codeIn K cd15 "_law_of" = true) (k15 : PySem.W.keepIn K (.ref f15) = true)
    {f16 : Addr} {od16 an16 : Option Addr} {sl16 : Array (Option Value)} {oc16 kV16 dc16 pm16 cd16 ct16 : Value} (a16 : PySem.W.nsIn K mainGlobals "need_rule" = some (some (.ref f16))) (l16 : K.lookup f16 = some ⟨oc16, od16, .func (PySem.W.fnOf "need_rule" "need_rule" (defArgs st_need_rule) (defBody st_need_rule) (defScope st_need_rule) .none kV16 dc16 pm16 an16 cd16 ct16), sl16⟩) (e16 : PySem.W.codeIn K cd16 "need_rule" = true) (k16 : PySem.W.keepIn K (.ref f16) = true)
    {f17 : Addr} {od17 an17 : Option Addr} {sl17 : Array (Option Value)} {oc17 kV17 dc17 pm17 cd17 ct17 : Value} (a17 : PySem.W.nsIn K mainGlobals "alone" = some (some (.ref f17))) (l17 : K.lookup f17 = some ⟨oc17, od17, .func (PySem.W.fnOf "alone" "alone" (defArgs st_alone) (defBody st_alone) (defScope st_alone) .none kV17 dc17 pm17 an17 cd17 ct17), sl17⟩) (e17 : PySem.W.codeIn K cd17 "alone" = true) (k17 : PySem.W.keepIn K (.ref f17) = true)
    {f18 : Addr} {od18 an18 : Option Addr} {sl18 : Array (Option Value)} {oc18 kV18 dc18 pm18 cd18 ct18 : Value} (a18 : PySem.W.nsIn K mainGlobals "_law_rule" = some (some (.ref f18))) (l18 : K.lookup f18 = some ⟨oc18, od18, .func (PySem.W.fnOf "_law_rule" "_law_rule" (defArgs st__law_rule) (defBody st__law_rule) (defScope st__law_rule) .none kV18 dc18 pm18 an18 cd18 ct18), sl18⟩) (e18 : PySem.W.codeIn K cd18 "_law_rule" = true) (k18 : PySem.W.keepIn K (.ref f18) = true)
    {f19 : Addr} {od19 an19 : Option Addr} {sl19 : Array (Option Value)} {oc19 kV19 dc19 pm19 cd19 ct19 : Value} (a19 : PySem.W.nsIn K mainGlobals "moved" = some (some (.ref f19))) (l19 : K.lookup f19 = some ⟨oc19, od19, .func (PySem.W.fnOf "moved" "moved" (defArgs st_moved) (defBody st_moved) (defScope st_moved) .none kV19 dc19 pm19 an19 cd19 ct19), sl19⟩) (e19 : PySem.W.codeIn K cd19 "moved" = true) (k19 : PySem.W.keepIn K (.ref f19) = true)
    {f20 : Addr} {od20 an20 : Option Addr} {sl20 : Array (Option Value)} {oc20 kV20 dc20 pm20 cd20 ct20 : Value} (a20 : PySem.W.nsIn K mainGlobals "_law_easy" = some (some (.ref f20))) (l20 : K.lookup f20 = some ⟨oc20, od20, .func (PySem.W.fnOf "_law_easy" "_law_easy" (defArgs st__law_easy) (defBody st__law_easy) (defScope st__law_easy) .none kV20 dc20 pm20 an20 cd20 ct20), sl20⟩) (e20 : PySem.W.codeIn K cd20 "_law_easy" = true) (k20 : PySem.W.keepIn K (.ref f20) = true)
    {f21 : Addr} {od21 an21 : Option Addr} {sl21 : Array (Option Value)} {oc21 kV21 dc21 pm21 cd21 ct21 : Value} (a21 : PySem.W.nsIn K mainGlobals "spread" = some (some (.ref f21))) (l21 : K.lookup f21 = some ⟨oc21, od21, .func (PySem.W.fnOf "spread" "spread" (defArgs st_spread) (defBody st_spread) (defScope st_spread) .none kV21 dc21 pm21 an21 cd21 ct21), sl21⟩) (e21 : PySem.W.codeIn K cd21 "spread" = true) (k21 : PySem.W.keepIn K (.ref f21) = true)
    {f22 : Addr} {od22 an22 : Option Addr} {sl22 : Array (Option Value)} {oc22 kV22 dc22 pm22 cd22 ct22 : Value} (a22 : PySem.W.nsIn K mainGlobals "fewest" = some (some (.ref f22))) (l22 : K.lookup f22 = some ⟨oc22, od22, .func (PySem.W.fnOf "fewest" "fewest" (defArgs st_fewest) (defBody st_fewest) (defScope st_fewest) .none kV22 dc22 pm22 an22 cd22 ct22), sl22⟩) (e22 : PySem.W.codeIn K cd22 "fewest" = true) (k22 : PySem.W.keepIn K (.ref f22) = true)
    {f23 D23 : Addr} {od23 an23 : Option Addr} {sl23 : Array (Option Value)} {oc23 dc23 pm23 cd23 ct23 : Value} (a23 : PySem.W.nsIn K mainGlobals "fewest_faults" = some (some (.ref f23))) (l23 : K.lookup f23 = some ⟨oc23, od23, .func (PySem.W.fnOf "fewest_faults" "fewest_faults" (defArgs st_fewest_faults) (defBody st_fewest_faults) (defScope st_fewest_faults) .none (.ref D23) dc23 pm23 an23 cd23 ct23), sl23⟩) (e23 : PySem.W.codeIn K cd23 "fewest_faults" = true) (k23 : PySem.W.keepIn K (.ref f23) = true)
    (d23_careful : PySem.W.nsIn K D23 "careful" = some (some (.bool false)))
    {f24 D24 : Addr} {od24 an24 : Option Addr} {sl24 : Array (Option Value)} {oc24 dc24 pm24 cd24 ct24 : Value} (a24 : PySem.W.nsIn K mainGlobals "values_bearing" = some (some (.ref f24))) (l24 : K.lookup f24 = some ⟨oc24, od24, .func (PySem.W.fnOf "values_bearing" "values_bearing" (defArgs st_values_bearing) (defBody st_values_bearing) (defScope st_values_bearing) .none (.ref D24) dc24 pm24 an24 cd24 ct24), sl24⟩) (e24 : PySem.W.codeIn K cd24 "values_bearing" = true) (k24 : PySem.W.keepIn K (.ref f24) = true)
    (d24_careful : PySem.W.nsIn K D24 "careful" = some (some (.bool false)))
    {f25 : Addr} {od25 an25 : Option Addr} {sl25 : Array (Option Value)} {oc25 kV25 dc25 pm25 cd25 ct25 : Value} (a25 : PySem.W.nsIn K mainGlobals "_law_right" = some (some (.ref f25))) (l25 : K.lookup f25 = some ⟨oc25, od25, .func (PySem.W.fnOf "_law_right" "_law_right" (defArgs st__law_right) (defBody st__law_right) (defScope st__law_right) .none kV25 dc25 pm25 an25 cd25 ct25), sl25⟩) (e25 : PySem.W.codeIn K cd25 "_law_right" = true) (k25 : PySem.W.keepIn K (.ref f25) = true)
    {f26 : Addr} {od26 an26 : Option Addr} {sl26 : Array (Option Value)} {oc26 kV26 dc26 pm26 ct26 : Value} {c_law P_law : Addr} (a26 : PySem.W.nsIn K mainGlobals "law" = some (some (.ref f26))) (l26 : K.lookup f26 = some ⟨oc26, od26, .func (PySem.W.fnOf "law" "law" (defArgs st_law) (defBody st_law) (defScope st_law) .none kV26 dc26 pm26 an26 (.ref c_law) ct26), sl26⟩) (e26 : PySem.W.codeIn K (.ref c_law) "law" = true) (k26 : PySem.W.keepIn K (.ref f26) = true)
    (z_all : PySem.W.nsIn K mainGlobals "all" = some none)
    (z_bool : PySem.W.nsIn K mainGlobals "bool" = some none)
    (z_int : PySem.W.nsIn K mainGlobals "int" = some none)
    (z_isinstance : PySem.W.nsIn K mainGlobals "isinstance" = some none)
    (z_len : PySem.W.nsIn K mainGlobals "len" = some none)
    (z_min : PySem.W.nsIn K mainGlobals "min" = some none)
    (z_range : PySem.W.nsIn K mainGlobals "range" = some none)
    (z_repr : PySem.W.nsIn K mainGlobals "repr" = some none)
    (z_str : PySem.W.nsIn K mainGlobals "str" = some none)
    (z_tuple : PySem.W.nsIn K mainGlobals "tuple" = some none)
    (z_zip : PySem.W.nsIn K mainGlobals "zip" = some none)
    {a_CHOICES : Addr} {a_CHOICES0 : Addr} {tk_CHOICES0_0 : Tok} {tk_CHOICES0_1 : Tok} {tk_CHOICES0_2 : Tok} {a_CHOICES1 : Addr} {tk_CHOICES1_0 : Tok} {tk_CHOICES1_1 : Tok} {a_CHOICES2 : Addr} {a_CHOICES3 : Addr} {tk_CHOICES3_1 : Tok} {tk_CHOICES3_2 : Tok} {tk_CHOICES3_3 : Tok} {a_CHOICES4 : Addr} {tk_CHOICES4_1 : Tok} {tk_CHOICES4_2 : Tok} {tk_CHOICES4_3 : Tok} {a_CHOICES5 : Addr} {tk_CHOICES5_0 : Tok} {tk_CHOICES5_1 : Tok} {tk_CHOICES5_2 : Tok} {a_CHOICES6 : Addr} {tk_CHOICES6_0 : Tok} {tk_CHOICES6_1 : Tok} (g_CHOICES : PySem.W.nsIn K mainGlobals "CHOICES" = some (some (.ref a_CHOICES))) {od_CHOICES : Option Addr} {n_CHOICES : Nat} {sl_CHOICES : Array (Option Value)} (l_CHOICES : K.lookup a_CHOICES = some ⟨.type "tuple", od_CHOICES, .seq #[.ref a_CHOICES0, .ref a_CHOICES1, .ref a_CHOICES2, .ref a_CHOICES3, .ref a_CHOICES4, .ref a_CHOICES5, .ref a_CHOICES6] n_CHOICES, sl_CHOICES⟩) {od_CHOICES0 : Option Addr} {n_CHOICES0 : Nat} {sl_CHOICES0 : Array (Option Value)} (l_CHOICES0 : K.lookup a_CHOICES0 = some ⟨.type "tuple", od_CHOICES0, .seq #[.int 0 tk_CHOICES0_0, .int 1 tk_CHOICES0_1, .int 2 tk_CHOICES0_2] n_CHOICES0, sl_CHOICES0⟩) {od_CHOICES1 : Option Addr} {n_CHOICES1 : Nat} {sl_CHOICES1 : Array (Option Value)} (l_CHOICES1 : K.lookup a_CHOICES1 = some ⟨.type "tuple", od_CHOICES1, .seq #[.str ⟨#[110, 101, 119]⟩ tk_CHOICES1_0, .str ⟨#[115, 97, 109, 101]⟩ tk_CHOICES1_1] n_CHOICES1, sl_CHOICES1⟩) {od_CHOICES2 : Option Addr} {n_CHOICES2 : Nat} {sl_CHOICES2 : Array (Option Value)} (l_CHOICES2 : K.lookup a_CHOICES2 = some ⟨.type "tuple", od_CHOICES2, .seq #[.bool false, .bool true] n_CHOICES2, sl_CHOICES2⟩) {od_CHOICES3 : Option Addr} {n_CHOICES3 : Nat} {sl_CHOICES3 : Array (Option Value)} (l_CHOICES3 : K.lookup a_CHOICES3 = some ⟨.type "tuple", od_CHOICES3, .seq #[.none, .int 0 tk_CHOICES3_1, .int 1 tk_CHOICES3_2, .int 2 tk_CHOICES3_3] n_CHOICES3, sl_CHOICES3⟩) {od_CHOICES4 : Option Addr} {n_CHOICES4 : Nat} {sl_CHOICES4 : Array (Option Value)} (l_CHOICES4 : K.lookup a_CHOICES4 = some ⟨.type "tuple", od_CHOICES4, .seq #[.none, .int 0 tk_CHOICES4_1, .int 1 tk_CHOICES4_2, .int 2 tk_CHOICES4_3] n_CHOICES4, sl_CHOICES4⟩) {od_CHOICES5 : Option Addr} {n_CHOICES5 : Nat} {sl_CHOICES5 : Array (Option Value)} (l_CHOICES5 : K.lookup a_CHOICES5 = some ⟨.type "tuple", od_CHOICES5, .seq #[.int 1 tk_CHOICES5_0, .int 2 tk_CHOICES5_1, .int 3 tk_CHOICES5_2] n_CHOICES5, sl_CHOICES5⟩) {od_CHOICES6 : Option Addr} {n_CHOICES6 : Nat} {sl_CHOICES6 : Array (Option Value)} (l_CHOICES6 : K.lookup a_CHOICES6 = some ⟨.type "tuple", od_CHOICES6, .seq #[.str ⟨#[101, 110, 100]⟩ tk_CHOICES6_0, .str ⟨#[114, 101, 102, 117, 115, 101]⟩ tk_CHOICES6_1] n_CHOICES6, sl_CHOICES6⟩)
    {a_FAULTS : Addr} {tk_FAULTS_0 : Tok} {tk_FAULTS_1 : Tok} (g_FAULTS : PySem.W.nsIn K mainGlobals "FAULTS" = some (some (.ref a_FAULTS))) {od_FAULTS : Option Addr} {n_FAULTS : Nat} {sl_FAULTS : Array (Option Value)} (l_FAULTS : K.lookup a_FAULTS = some ⟨.type "tuple", od_FAULTS, .seq #[.str ⟨#[45]⟩ tk_FAULTS_0, .str ⟨#[126]⟩ tk_FAULTS_1] n_FAULTS, sl_FAULTS⟩)
    {a_PARTS : Addr} {tk_PARTS_0 : Tok} {tk_PARTS_1 : Tok} {tk_PARTS_2 : Tok} {tk_PARTS_3 : Tok} {tk_PARTS_4 : Tok} {tk_PARTS_5 : Tok} {tk_PARTS_6 : Tok} (g_PARTS : PySem.W.nsIn K mainGlobals "PARTS" = some (some (.ref a_PARTS))) {n_PARTS : Nat} {sl_PARTS : Array (Option Value)} (l_PARTS : K.lookup a_PARTS = some ⟨.type "tuple", none, .seq #[.str ⟨#[107, 101, 101, 112]⟩ tk_PARTS_0, .str ⟨#[114, 101, 112, 108, 121]⟩ tk_PARTS_1, .str ⟨#[115, 116, 114, 105, 99, 116]⟩ tk_PARTS_2, .str ⟨#[108, 101, 101, 119, 97, 121]⟩ tk_PARTS_3, .str ⟨#[115, 112, 97, 114, 101]⟩ tk_PARTS_4, .str ⟨#[101, 118, 101, 114, 121]⟩ tk_PARTS_5, .str ⟨#[111, 108, 100]⟩ tk_PARTS_6] n_PARTS, sl_PARTS⟩)
    {a_SAFE : Addr} {tk_SAFE_0 : Tok} {tk_SAFE_1 : Tok} {tk_SAFE_2 : Tok} (g_SAFE : PySem.W.nsIn K mainGlobals "SAFE" = some (some (.ref a_SAFE))) {od_SAFE : Option Addr} {n_SAFE : Nat} {sl_SAFE : Array (Option Value)} (l_SAFE : K.lookup a_SAFE = some ⟨.type "tuple", od_SAFE, .seq #[.str ⟨#[33]⟩ tk_SAFE_0, .str ⟨#[43]⟩ tk_SAFE_1, .str ⟨#[46, 46]⟩ tk_SAFE_2] n_SAFE, sl_SAFE⟩)
    {C_InvalidNumber : Addr} (ga_InvalidNumber : PySem.W.nsIn K mainGlobals "InvalidNumber" = some (some (.ref C_InvalidNumber)))
    {C_InvalidPart : Addr} (ga_InvalidPart : PySem.W.nsIn K mainGlobals "InvalidPart" = some (some (.ref C_InvalidPart)))
    {C_InvalidRule : Addr} (ga_InvalidRule : PySem.W.nsIn K mainGlobals "InvalidRule" = some (some (.ref C_InvalidRule)))
    {C_TurnError : Addr} (ga_TurnError : PySem.W.nsIn K mainGlobals "TurnError" = some (some (.ref C_TurnError)))
    (ex_InvalidNumber : PySem.W.excIn K C_InvalidNumber [.type "ValueError", .type "Exception", .type "BaseException", .type "object"] "ValueError.__new__" = true) (ek_InvalidNumber : PySem.W.keepIn K (.ref C_InvalidNumber) = true) (eb_InvalidNumber : PySem.W.subIn K (.ref C_InvalidNumber) (.type "BaseException") = some true) (et_InvalidNumber : PySem.W.typeIn K (.ref C_InvalidNumber) = some (.type "type"))
    (ex_InvalidPart : PySem.W.excIn K C_InvalidPart [.type "ValueError", .type "Exception", .type "BaseException", .type "object"] "ValueError.__new__" = true) (ek_InvalidPart : PySem.W.keepIn K (.ref C_InvalidPart) = true) (eb_InvalidPart : PySem.W.subIn K (.ref C_InvalidPart) (.type "BaseException") = some true) (et_InvalidPart : PySem.W.typeIn K (.ref C_InvalidPart) = some (.type "type"))
    (ex_InvalidRule : PySem.W.excIn K C_InvalidRule [.type "ValueError", .type "Exception", .type "BaseException", .type "object"] "ValueError.__new__" = true) (ek_InvalidRule : PySem.W.keepIn K (.ref C_InvalidRule) = true) (eb_InvalidRule : PySem.W.subIn K (.ref C_InvalidRule) (.type "BaseException") = some true) (et_InvalidRule : PySem.W.typeIn K (.ref C_InvalidRule) = some (.type "type"))
    (ex_TurnError : PySem.W.excIn K C_TurnError [.type "ValueError", .type "Exception", .type "BaseException", .type "object"] "ValueError.__new__" = true) (ek_TurnError : PySem.W.keepIn K (.ref C_TurnError) = true) (eb_TurnError : PySem.W.subIn K (.ref C_TurnError) (.type "BaseException") = some true) (et_TurnError : PySem.W.typeIn K (.ref C_TurnError) = some (.type "type"))
    (xn : PySem.W.specialIn K (.builtin "object.__class__") "__get__" = some (some (.builtin "getset_descriptor.__get__"))) (xt : PySem.W.takesIn K (.builtin "object.__class__") = some true)
    (xg_InvalidNumber : PySem.W.findIn K (.ref C_InvalidNumber) "__getattribute__" = some (some (.builtin "BaseException.__getattribute__"))) (xk_InvalidNumber : PySem.W.findIn K (.ref C_InvalidNumber) "__getattr__" = some none) (xs_InvalidNumber : PySem.W.subIn K (.ref C_InvalidNumber) (.type "BaseException") = some true) (xd_InvalidNumber : PySem.W.hasDictIn K C_InvalidNumber = true) (xa_InvalidNumber : PySem.W.findIn K (.ref C_InvalidNumber) "__class__" = some (some (.builtin "object.__class__"))) (xm_InvalidNumber : PySem.W.mroIn K C_InvalidNumber (.type "object") = some true)
    (sb_InvalidNumber_TurnError : PySem.W.subIn K (.ref C_InvalidNumber) (.ref C_TurnError) = some true)
    (ki_InvalidNumber_InvalidNumber : PySem.W.kitOne K (.ref C_InvalidNumber) (.ref C_InvalidNumber) = some (isSub 3 3))
    (ki_InvalidNumber_InvalidPart : PySem.W.kitOne K (.ref C_InvalidNumber) (.ref C_InvalidPart) = some (isSub 3 6))
    (ki_InvalidNumber_InvalidRule : PySem.W.kitOne K (.ref C_InvalidNumber) (.ref C_InvalidRule) = some (isSub 3 1))
    (xg_InvalidPart : PySem.W.findIn K (.ref C_InvalidPart) "__getattribute__" = some (some (.builtin "BaseException.__getattribute__"))) (xk_InvalidPart : PySem.W.findIn K (.ref C_InvalidPart) "__getattr__" = some none) (xs_InvalidPart : PySem.W.subIn K (.ref C_InvalidPart) (.type "BaseException") = some true) (xd_InvalidPart : PySem.W.hasDictIn K C_InvalidPart = true) (xa_InvalidPart : PySem.W.findIn K (.ref C_InvalidPart) "__class__" = some (some (.builtin "object.__class__"))) (xm_InvalidPart : PySem.W.mroIn K C_InvalidPart (.type "object") = some true)
    (sb_InvalidPart_TurnError : PySem.W.subIn K (.ref C_InvalidPart) (.ref C_TurnError) = some true)
    (ki_InvalidPart_InvalidNumber : PySem.W.kitOne K (.ref C_InvalidPart) (.ref C_InvalidNumber) = some (isSub 6 3))
    (ki_InvalidPart_InvalidPart : PySem.W.kitOne K (.ref C_InvalidPart) (.ref C_InvalidPart) = some (isSub 6 6))
    (ki_InvalidPart_InvalidRule : PySem.W.kitOne K (.ref C_InvalidPart) (.ref C_InvalidRule) = some (isSub 6 1))
    (xg_InvalidRule : PySem.W.findIn K (.ref C_InvalidRule) "__getattribute__" = some (some (.builtin "BaseException.__getattribute__"))) (xk_InvalidRule : PySem.W.findIn K (.ref C_InvalidRule) "__getattr__" = some none) (xs_InvalidRule : PySem.W.subIn K (.ref C_InvalidRule) (.type "BaseException") = some true) (xd_InvalidRule : PySem.W.hasDictIn K C_InvalidRule = true) (xa_InvalidRule : PySem.W.findIn K (.ref C_InvalidRule) "__class__" = some (some (.builtin "object.__class__"))) (xm_InvalidRule : PySem.W.mroIn K C_InvalidRule (.type "object") = some true)
    (sb_InvalidRule_TurnError : PySem.W.subIn K (.ref C_InvalidRule) (.ref C_TurnError) = some true)
    (ki_InvalidRule_InvalidNumber : PySem.W.kitOne K (.ref C_InvalidRule) (.ref C_InvalidNumber) = some (isSub 1 3))
    (ki_InvalidRule_InvalidPart : PySem.W.kitOne K (.ref C_InvalidRule) (.ref C_InvalidPart) = some (isSub 1 6))
    (ki_InvalidRule_InvalidRule : PySem.W.kitOne K (.ref C_InvalidRule) (.ref C_InvalidRule) = some (isSub 1 1))
    (hb_TurnError : PySem.W.hasDictIn K C_TurnError = true)
    {ecl : Value} {dcl : Option Addr} {vcl : Array Value} {scl : Array (Option Value)} (lc : K.lookup c_law = some ⟨ecl, dcl, .fields vcl, scl⟩) (tc : vcl[11]? = some (.ref P_law)) (nT : K.lookup P_law = none) (chd : PySem.W.codeHdIn K c_law P_law = true) :
    LawG l w K 10 63 "_law_script" mg fa h := by
  have e := hfa.symm.trans (PySem.W.mg_of X G a26)
  cases e
  have B : Blt mg := ⟨PySem.W.mg_none_of X G z_all, PySem.W.mg_none_of X G z_bool, PySem.W.mg_none_of X G z_int, PySem.W.mg_none_of X G z_isinstance, PySem.W.mg_none_of X G z_len, PySem.W.mg_none_of X G z_min, PySem.W.mg_none_of X G z_range, PySem.W.mg_none_of X G z_repr, PySem.W.mg_none_of X G z_str, PySem.W.mg_none_of X G z_tuple, PySem.W.mg_none_of X G z_zip⟩
  have C_CHOICES : HasC (TT.KW.mk K w mg) mg "CHOICES" c_CHOICES := HasC.tup2 (PySem.W.mg_of X G g_CHOICES) ⟨_, _, [.ref a_CHOICES0, .ref a_CHOICES1, .ref a_CHOICES2, .ref a_CHOICES3, .ref a_CHOICES4, .ref a_CHOICES5, .ref a_CHOICES6], _, _, rfl, l_CHOICES, Nat.le_of_ble_eq_true rfl, .cons (.inr ⟨_, a_CHOICES0, rfl, rfl, ⟨_, _, [.int 0 tk_CHOICES0_0, .int 1 tk_CHOICES0_1, .int 2 tk_CHOICES0_2], _, _, rfl, l_CHOICES0, Nat.le_of_ble_eq_true rfl, .cons (.int _ _) (.cons (.int _ _) (.cons (.int _ _) (.nil)))⟩⟩) (.cons (.inr ⟨_, a_CHOICES1, rfl, rfl, ⟨_, _, [.str ⟨#[110, 101, 119]⟩ tk_CHOICES1_0, .str ⟨#[115, 97, 109, 101]⟩ tk_CHOICES1_1], _, _, rfl, l_CHOICES1, Nat.le_of_ble_eq_true rfl, .cons (.str [110, 101, 119] _) (.cons (.str [115, 97, 109, 101] _) (.nil))⟩⟩) (.cons (.inr ⟨_, a_CHOICES2, rfl, rfl, ⟨_, _, [.bool false, .bool true], _, _, rfl, l_CHOICES2, Nat.le_of_ble_eq_true rfl, .cons (.bl _) (.cons (.bl _) (.nil))⟩⟩) (.cons (.inr ⟨_, a_CHOICES3, rfl, rfl, ⟨_, _, [.none, .int 0 tk_CHOICES3_1, .int 1 tk_CHOICES3_2, .int 2 tk_CHOICES3_3], _, _, rfl, l_CHOICES3, Nat.le_of_ble_eq_true rfl, .cons .non (.cons (.int _ _) (.cons (.int _ _) (.cons (.int _ _) (.nil))))⟩⟩) (.cons (.inr ⟨_, a_CHOICES4, rfl, rfl, ⟨_, _, [.none, .int 0 tk_CHOICES4_1, .int 1 tk_CHOICES4_2, .int 2 tk_CHOICES4_3], _, _, rfl, l_CHOICES4, Nat.le_of_ble_eq_true rfl, .cons .non (.cons (.int _ _) (.cons (.int _ _) (.cons (.int _ _) (.nil))))⟩⟩) (.cons (.inr ⟨_, a_CHOICES5, rfl, rfl, ⟨_, _, [.int 1 tk_CHOICES5_0, .int 2 tk_CHOICES5_1, .int 3 tk_CHOICES5_2], _, _, rfl, l_CHOICES5, Nat.le_of_ble_eq_true rfl, .cons (.int _ _) (.cons (.int _ _) (.cons (.int _ _) (.nil)))⟩⟩) (.cons (.inr ⟨_, a_CHOICES6, rfl, rfl, ⟨_, _, [.str ⟨#[101, 110, 100]⟩ tk_CHOICES6_0, .str ⟨#[114, 101, 102, 117, 115, 101]⟩ tk_CHOICES6_1], _, _, rfl, l_CHOICES6, Nat.le_of_ble_eq_true rfl, .cons (.str [101, 110, 100] _) (.cons (.str [114, 101, 102, 117, 115, 101] _) (.nil))⟩⟩) (.nil)))))))⟩
  have C_FAULTS : HasC (TT.KW.mk K w mg) mg "FAULTS" c_FAULTS := HasC.tup (PySem.W.mg_of X G g_FAULTS) ⟨_, _, [.str ⟨#[45]⟩ tk_FAULTS_0, .str ⟨#[126]⟩ tk_FAULTS_1], _, _, rfl, l_FAULTS, Nat.le_of_ble_eq_true rfl, .cons (.str [45] _) (.cons (.str [126] _) (.nil))⟩
  have C_PARTS : HasC (TT.KW.mk K w mg) mg "PARTS" c_PARTS := HasC.tup (PySem.W.mg_of X G g_PARTS) ⟨_, _, [.str ⟨#[107, 101, 101, 112]⟩ tk_PARTS_0, .str ⟨#[114, 101, 112, 108, 121]⟩ tk_PARTS_1, .str ⟨#[115, 116, 114, 105, 99, 116]⟩ tk_PARTS_2, .str ⟨#[108, 101, 101, 119, 97, 121]⟩ tk_PARTS_3, .str ⟨#[115, 112, 97, 114, 101]⟩ tk_PARTS_4, .str ⟨#[101, 118, 101, 114, 121]⟩ tk_PARTS_5, .str ⟨#[111, 108, 100]⟩ tk_PARTS_6], _, _, rfl, l_PARTS, Nat.le_of_ble_eq_true rfl, .cons (.str [107, 101, 101, 112] _) (.cons (.str [114, 101, 112, 108, 121] _) (.cons (.str [115, 116, 114, 105, 99, 116] _) (.cons (.str [108, 101, 101, 119, 97, 121] _) (.cons (.str [115, 112, 97, 114, 101] _) (.cons (.str [101, 118, 101, 114, 121] _) (.cons (.str [111, 108, 100] _) (.nil)))))))⟩
  have C_SAFE : HasC (TT.KW.mk K w mg) mg "SAFE" c_SAFE := HasC.tup (PySem.W.mg_of X G g_SAFE) ⟨_, _, [.str ⟨#[33]⟩ tk_SAFE_0, .str ⟨#[43]⟩ tk_SAFE_1, .str ⟨#[46, 46]⟩ tk_SAFE_2], _, _, rfl, l_SAFE, Nat.le_of_ble_eq_true rfl, .cons (.str [33] _) (.cons (.str [43] _) (.cons (.str [46, 46] _) (.nil)))⟩
  have CT_PARTS : HasCT (TT.KW.mk K w mg) mg "PARTS" (tupItems c_PARTS) := HasCT.mk1 (us := [.str ⟨#[107, 101, 101, 112]⟩ tk_PARTS_0, .str ⟨#[114, 101, 112, 108, 121]⟩ tk_PARTS_1, .str ⟨#[115, 116, 114, 105, 99, 116]⟩ tk_PARTS_2, .str ⟨#[108, 101, 101, 119, 97, 121]⟩ tk_PARTS_3, .str ⟨#[115, 112, 97, 114, 101]⟩ tk_PARTS_4, .str ⟨#[101, 118, 101, 114, 121]⟩ tk_PARTS_5, .str ⟨#[111, 108, 100]⟩ tk_PARTS_6]) (PySem.W.mg_of X G g_PARTS) l_PARTS (Nat.le_of_ble_eq_true rfl) (.cons (.str [107, 101, 101, 112] _) (.cons (.str [114, 101, 112, 108, 121] _) (.cons (.str [115, 116, 114, 105, 99, 116] _) (.cons (.str [108, 101, 101, 119, 97, 121] _) (.cons (.str [115, 112, 97, 114, 101] _) (.cons (.str [101, 118, 101, 114, 121] _) (.cons (.str [111, 108, 100] _) (.nil))))))))
  refine ⟨PySem.W.fnOf "law" "law" (defArgs st_law) (defBody st_law) (defScope st_law) .none kV26 dc26 pm26 an26 (.ref c_law) ct26, c_law, P_law, spLawT (TT.KW.mk K w mg) P_law, own _ _ _ _ _ _ _ _ l26 rfl rfl lc tc, nT, PySem.W.codeHd_of_K X chd, fun s v => .of_eq rfl, fun H a ns hl hT hS => ⟨a, ns, rfl, hS, hl, hT, fun _ => rfl⟩, fun base _ _ TB => ?_⟩
  have E_InvalidNumber : HasE (TT.KW.mk K w mg) mg "InvalidNumber" := ⟨C_InvalidNumber, PySem.W.mg_of X G ga_InvalidNumber, ex_InvalidNumber, ek_InvalidNumber, eb_InvalidNumber, et_InvalidNumber⟩
  have E_InvalidPart : HasE (TT.KW.mk K w mg) mg "InvalidPart" := ⟨C_InvalidPart, PySem.W.mg_of X G ga_InvalidPart, ex_InvalidPart, ek_InvalidPart, eb_InvalidPart, et_InvalidPart⟩
  have E_InvalidRule : HasE (TT.KW.mk K w mg) mg "InvalidRule" := ⟨C_InvalidRule, PySem.W.mg_of X G ga_InvalidRule, ex_InvalidRule, ek_InvalidRule, eb_InvalidRule, et_InvalidRule⟩
  have E_TurnError : HasE (TT.KW.mk K w mg) mg "TurnError" := ⟨C_TurnError, PySem.W.mg_of X G ga_TurnError, ex_TurnError, ek_TurnError, eb_TurnError, et_TurnError⟩
  have H_is_integer := (ok_is_integer (P := l.prog) (w := w) (base := base) B (fun_mk (st := st_is_integer) l1 e1 k1) (PySem.W.mg_of X G a1)).toP
  have H_is_choice := (ok_is_choice (P := l.prog) (w := w) (base := base) B (fun_mk (st := st_is_choice) l2 e2 k2) (PySem.W.mg_of X G a2)).toP
  have H_first_stand := (ok_first_stand (P := l.prog) (w := w) (base := base) B (fun_mk (st := st_first_stand) l3 e3 k3) (PySem.W.mg_of X G a3)).toP
  have H_is_good := (ok_is_good (P := l.prog) (w := w) (base := base) B (fun_mk (st := st_is_good) l4 e4 k4) (PySem.W.mg_of X G a4)).toP
  have H_with_token := (ok_with_token (P := l.prog) (w := w) (base := base) B (fun_mk (st := st_with_token) l5 e5 k5) (PySem.W.mg_of X G a5)).toP
  have H_ticked := (ok_ticked (P := l.prog) (w := w) (base := base) B (fun_mk (st := st_ticked) l6 e6 k6) (PySem.W.mg_of X G a6)).toP
  have H_older := (ok_older (P := l.prog) (w := w) (base := base) B (fun_mk (st := st_older) l7 e7 k7) (PySem.W.mg_of X G a7)).toP
  have H__law_bag := (ok__law_bag (P := l.prog) (w := w) (base := base) B (fun_mk (st := st__law_bag) l8 e8 k8) (PySem.W.mg_of X G a8))
  have H__law_take := (ok__law_take (P := l.prog) (w := w) (base := base) B (fun_mk (st := st__law_take) l9 e9 k9) (PySem.W.mg_of X G a9))
  have T__law_error := told__law_error B E_TurnError (fun C hC => by rw [PySem.W.mg_of X G ga_TurnError] at hC; cases hC; exact hb_TurnError) (fun D hD => by rw [PySem.W.mg_of X G ga_InvalidRule] at hD; cases hD; exact ⟨xg_InvalidRule, xk_InvalidRule, xs_InvalidRule, xd_InvalidRule, xa_InvalidRule, xn, xt, xm_InvalidRule⟩) (fun D C hD hC => by rw [PySem.W.mg_of X G ga_InvalidRule] at hD; rw [PySem.W.mg_of X G ga_TurnError] at hC; cases hD; cases hC; exact sb_InvalidRule_TurnError) (fun D hD => by rw [PySem.W.mg_of X G ga_InvalidPart] at hD; cases hD; exact ⟨xg_InvalidPart, xk_InvalidPart, xs_InvalidPart, xd_InvalidPart, xa_InvalidPart, xn, xt, xm_InvalidPart⟩) (fun D C hD hC => by rw [PySem.W.mg_of X G ga_InvalidPart] at hD; rw [PySem.W.mg_of X G ga_TurnError] at hC; cases hD; cases hC; exact sb_InvalidPart_TurnError) (fun D hD => by rw [PySem.W.mg_of X G ga_InvalidNumber] at hD; cases hD; exact ⟨xg_InvalidNumber, xk_InvalidNumber, xs_InvalidNumber, xd_InvalidNumber, xa_InvalidNumber, xn, xt, xm_InvalidNumber⟩) (fun D C hD hC => by rw [PySem.W.mg_of X G ga_InvalidNumber] at hD; rw [PySem.W.mg_of X G ga_TurnError] at hC; cases hD; cases hC; exact sb_InvalidNumber_TurnError) ⟨_, PySem.W.mg_of X G ga_InvalidRule⟩ (fun D C hD hC => by rw [PySem.W.mg_of X G ga_InvalidRule] at hD; rw [PySem.W.mg_of X G ga_InvalidRule] at hC; cases hD; cases hC; exact ki_InvalidRule_InvalidRule) (fun D C hD hC => by rw [PySem.W.mg_of X G ga_InvalidPart] at hD; rw [PySem.W.mg_of X G ga_InvalidRule] at hC; cases hD; cases hC; exact ki_InvalidPart_InvalidRule) (fun D C hD hC => by rw [PySem.W.mg_of X G ga_InvalidNumber] at hD; rw [PySem.W.mg_of X G ga_InvalidRule] at hC; cases hD; cases hC; exact ki_InvalidNumber_InvalidRule) ⟨_, PySem.W.mg_of X G ga_InvalidPart⟩ (fun D C hD hC => by rw [PySem.W.mg_of X G ga_InvalidRule] at hD; rw [PySem.W.mg_of X G ga_InvalidPart] at hC; cases hD; cases hC; exact ki_InvalidRule_InvalidPart) (fun D C hD hC => by rw [PySem.W.mg_of X G ga_InvalidPart] at hD; rw [PySem.W.mg_of X G ga_InvalidPart] at hC; cases hD; cases hC; exact ki_InvalidPart_InvalidPart) (fun D C hD hC => by rw [PySem.W.mg_of X G ga_InvalidNumber] at hD; rw [PySem.W.mg_of X G ga_InvalidPart] at hC; cases hD; cases hC; exact ki_InvalidNumber_InvalidPart) ⟨_, PySem.W.mg_of X G ga_InvalidNumber⟩ (fun D C hD hC => by rw [PySem.W.mg_of X G ga_InvalidRule] at hD; rw [PySem.W.mg_of X G ga_InvalidNumber] at hC; cases hD; cases hC; exact ki_InvalidRule_InvalidNumber) (fun D C hD hC => by rw [PySem.W.mg_of X G ga_InvalidPart] at hD; rw [PySem.W.mg_of X G ga_InvalidNumber] at hC; cases hD; cases hC; exact ki_InvalidPart_InvalidNumber) (fun D C hD hC => by rw [PySem.W.mg_of X G ga_InvalidNumber] at hD; rw [PySem.W.mg_of X G ga_InvalidNumber] at hC; cases hD; cases hC; exact ki_InvalidNumber_InvalidNumber) (fun_mk (st := st__law_error) l10 e10 k10) (PySem.W.mg_of X G a10)
  have H_is_rule := (ok_is_rule (P := l.prog) (w := w) (base := base) B H_is_choice C_CHOICES C_PARTS (fun_mk (st := st_is_rule) l11 e11 k11) (PySem.W.mg_of X G a11)).toP
  have H_need_number := (ok_need_number (P := l.prog) (w := w) (base := base) B H_is_integer E_InvalidNumber (fun_mk (st := st_need_number) l12 e12 k12) (PySem.W.mg_of X G a12)).toX
  have H_requested := (ok_requested (P := l.prog) (w := w) (base := base) B H_with_token H_is_good (fun_mk (st := st_requested) l13 e13 k13) (PySem.W.mg_of X G a13)).toP
  have H_first_node := (ok_first_node (P := l.prog) (w := w) (base := base) B H_first_stand (fun_mk (st := st_first_node) l14 e14 k14) (PySem.W.mg_of X G a14)).toP
  have H__law_of := (ok__law_of (P := l.prog) (w := w) (base := base) B H__law_take (fun_mk (st := st__law_of) l15 e15 k15) (PySem.W.mg_of X G a15))
  have H_need_rule := (ok_need_rule (P := l.prog) (w := w) (base := base) B H_is_rule E_InvalidRule (fun_mk (st := st_need_rule) l16 e16 k16) (PySem.W.mg_of X G a16)).toX
  have H_alone := (ok_alone (P := l.prog) (w := w) (base := base) B H_older H_requested H_ticked (fun_mk (st := st_alone) l17 e17 k17) (PySem.W.mg_of X G a17)).toP
  have H__law_rule := (ok__law_rule (P := l.prog) (w := w) (base := base) B H__law_of H__law_take (fun_mk (st := st__law_rule) l18 e18 k18) (PySem.W.mg_of X G a18))
  have H_moved := (ok_moved (P := l.prog) (w := w) (base := base) B H_alone (fun_mk (st := st_moved) l19 e19 k19) (PySem.W.mg_of X G a19)).toP
  have H__law_easy := (ok__law_easy (P := l.prog) (w := w) (base := base) B H__law_of H__law_rule (fun_mk (st := st__law_easy) l20 e20 k20) (PySem.W.mg_of X G a20))
  have H_spread := (ok_spread (P := l.prog) (w := w) (base := base) B H_moved H_alone C_SAFE (fun_mk (st := st_spread) l21 e21 k21) (PySem.W.mg_of X G a21))
  have H_fewest := (ok_fewest (P := l.prog) (w := w) (base := base) B H_moved H_spread H_first_node C_FAULTS (fun_mk (st := st_fewest) l22 e22 k22) (PySem.W.mg_of X G a22)).toP
  have X_fewest_faults := fn_fewest_faults (P := l.prog) (w := w) (mg := mg) (base := base) B H_fewest H_need_rule (fun_mk (st := st_fewest_faults) l23 e23 k23)
  have H_fewest_faults := (ok_fewest_faults X_fewest_faults (fun_mk (st := st_fewest_faults) l23 e23 k23) (PySem.W.mg_of X G a23)).toP
  have X_values_bearing := fn_values_bearing (P := l.prog) (w := w) (mg := mg) (base := base) B H_fewest H_need_number H_need_rule C_CHOICES C_PARTS CT_PARTS E_InvalidPart (fun_mk (st := st_values_bearing) l24 e24 k24)
  have V_values_bearing := (okV_values_bearing X_values_bearing (PySem.W.mg_of X G a24) (funD_mk (K := (TT.KW.mk K w mg)) (kws := [("careful", .bl false)]) (st := st_values_bearing) l24 e24 k24 fun q hq => by cases List.mem_singleton.mp hq; exact ⟨_, d24_careful, by first | exact rfl | exact ⟨_, rfl⟩⟩)).toX
  have HXD_values_bearing := (⟨_, V_values_bearing⟩ : HasXD l.prog w (TT.KW.mk K w mg) mg base _ _ _ _)
  have XP_values_bearing := fn_xToP (K := (TT.KW.mk K w mg)) (X_values_bearing.imp fun _ _ _ _ => spX_of) rfl
  have H_values_bearing := okK_values_bearing XP_values_bearing (fun_mk (st := st_values_bearing) l24 e24 k24) (PySem.W.mg_of X G a24)
  have HD_values_bearing := okD_values_bearing XP_values_bearing (PySem.W.mg_of X G a24) (funD_mk (K := (TT.KW.mk K w mg)) (kws := [("careful", .bl false)]) (st := st_values_bearing) l24 e24 k24 fun q hq => by cases List.mem_singleton.mp hq; exact ⟨_, d24_careful, by first | exact rfl | exact ⟨_, rfl⟩⟩)
  have H__law_right := (ok__law_right (P := l.prog) (w := w) (base := base) B H_values_bearing H_fewest_faults (fun_mk (st := st__law_right) l25 e25 k25) (PySem.W.mg_of X G a25))
  exact ok_law B HD_values_bearing HXD_values_bearing H__law_right H__law_of H__law_take H__law_easy H__law_bag T__law_error l26 e26 TB (law_holds P_law)
end TT
open PySem PySem.W PyProof.Rows
set_option maxHeartbeats 0 in
theorem PySem.Challenge.cw_tokenturns_k07_values_that_bear_faults_holds : PySem.Challenge.rw_tokenturns_k07_values_that_bear_faults.Holds := by
  w_on; o_law; k_head; (case hw => w_witness2)
  k_fill
  refine TT.walkG (l := PySem.Challenge.rw_tokenturns_k07_values_that_bear_faults) (n := 63) (k := 10) (x := "_law_script") rfl (by decide) rfl ⟨rfl, by decide, by decide⟩ (by decide +kernel) (fun w h Y => PySem.W.km_in_of Y) ?F
  case F =>
    intro w mg fa h _ KX G hmg own
    refine' TT.all_mk KX G hmg own ?a1 ?l1 ?e1 ?k1 ?a2 ?l2 ?e2 ?k2 ?a3 ?l3 ?e3 ?k3 ?a4 ?l4 ?e4 ?k4 ?a5 ?l5 ?e5 ?k5 ?a6 ?l6 ?e6 ?k6 ?a7 ?l7 ?e7 ?k7 ?a8 ?l8 ?e8 ?k8 ?a9 ?l9 ?e9 ?k9 ?a10 ?l10 ?e10 ?k10 ?a11 ?l11 ?e11 ?k11 ?a12 ?l12 ?e12 ?k12 ?a13 ?l13 ?e13 ?k13 ?a14 ?l14 ?e14 ?k14 ?a15 ?l15 ?e15 ?k15 ?a16 ?l16 ?e16 ?k16 ?a17 ?l17 ?e17 ?k17 ?a18 ?l18 ?e18 ?k18 ?a19 ?l19 ?e19 ?k19 ?a20 ?l20 ?e20 ?k20 ?a21 ?l21 ?e21 ?k21 ?a22 ?l22 ?e22 ?k22 ?a23 ?l23 ?e23 ?k23 ?d23_careful ?a24 ?l24 ?e24 ?k24 ?d24_careful ?a25 ?l25 ?e25 ?k25 ?a26 ?l26 ?e26 ?k26 ?z_all ?z_bool ?z_int ?z_isinstance ?z_len ?z_min ?z_range ?z_repr ?z_str ?z_tuple ?z_zip ?g_CHOICES ?l_CHOICES ?l_CHOICES0 ?l_CHOICES1 ?l_CHOICES2 ?l_CHOICES3 ?l_CHOICES4 ?l_CHOICES5 ?l_CHOICES6 ?g_FAULTS ?l_FAULTS ?g_PARTS ?l_PARTS ?g_SAFE ?l_SAFE ?ga_InvalidNumber ?ga_InvalidPart ?ga_InvalidRule ?ga_TurnError ?ex_InvalidNumber ?ek_InvalidNumber ?eb_InvalidNumber ?et_InvalidNumber ?ex_InvalidPart ?ek_InvalidPart ?eb_InvalidPart ?et_InvalidPart ?ex_InvalidRule ?ek_InvalidRule ?eb_InvalidRule ?et_InvalidRule ?ex_TurnError ?ek_TurnError ?eb_TurnError ?et_TurnError ?xn ?xt ?xg_InvalidNumber ?xk_InvalidNumber ?xs_InvalidNumber ?xd_InvalidNumber ?xa_InvalidNumber ?xm_InvalidNumber ?sb_InvalidNumber_TurnError ?ki_InvalidNumber_InvalidNumber ?ki_InvalidNumber_InvalidPart ?ki_InvalidNumber_InvalidRule ?xg_InvalidPart ?xk_InvalidPart ?xs_InvalidPart ?xd_InvalidPart ?xa_InvalidPart ?xm_InvalidPart ?sb_InvalidPart_TurnError ?ki_InvalidPart_InvalidNumber ?ki_InvalidPart_InvalidPart ?ki_InvalidPart_InvalidRule ?xg_InvalidRule ?xk_InvalidRule ?xs_InvalidRule ?xd_InvalidRule ?xa_InvalidRule ?xm_InvalidRule ?sb_InvalidRule_TurnError ?ki_InvalidRule_InvalidNumber ?ki_InvalidRule_InvalidPart ?ki_InvalidRule_InvalidRule ?hb_TurnError ?lc ?tc ?nT ?chd
    (case a1 => k_is); (case l1 => k_is); (case e1 => k_is); (case k1 => k_is); (case a2 => k_is); (case l2 => k_is); (case e2 => k_is); (case k2 => k_is); (case a3 => k_is); (case l3 => k_is); (case e3 => k_is); (case k3 => k_is); (case a4 => k_is); (case l4 => k_is); (case e4 => k_is); (case k4 => k_is); (case a5 => k_is); (case l5 => k_is); (case e5 => k_is); (case k5 => k_is); (case a6 => k_is); (case l6 => k_is); (case e6 => k_is); (case k6 => k_is); (case a7 => k_is); (case l7 => k_is); (case e7 => k_is); (case k7 => k_is); (case a8 => k_is); (case l8 => k_is); (case e8 => k_is); (case k8 => k_is); (case a9 => k_is); (case l9 => k_is); (case e9 => k_is); (case k9 => k_is); (case a10 => k_is); (case l10 => k_is); (case e10 => k_is); (case k10 => k_is); (case a11 => k_is); (case l11 => k_is); (case e11 => k_is); (case k11 => k_is); (case a12 => k_is); (case l12 => k_is); (case e12 => k_is); (case k12 => k_is); (case a13 => k_is); (case l13 => k_is); (case e13 => k_is); (case k13 => k_is); (case a14 => k_is); (case l14 => k_is); (case e14 => k_is); (case k14 => k_is); (case a15 => k_is); (case l15 => k_is); (case e15 => k_is); (case k15 => k_is); (case a16 => k_is); (case l16 => k_is); (case e16 => k_is); (case k16 => k_is); (case a17 => k_is); (case l17 => k_is); (case e17 => k_is); (case k17 => k_is); (case a18 => k_is); (case l18 => k_is); (case e18 => k_is); (case k18 => k_is); (case a19 => k_is); (case l19 => k_is); (case e19 => k_is); (case k19 => k_is); (case a20 => k_is); (case l20 => k_is); (case e20 => k_is); (case k20 => k_is); (case a21 => k_is); (case l21 => k_is); (case e21 => k_is); (case k21 => k_is); (case a22 => k_is); (case l22 => k_is); (case e22 => k_is); (case k22 => k_is); (case a23 => k_is); (case l23 => k_is); (case e23 => k_is); (case k23 => k_is); (case d23_careful => k_is); (case a24 => k_is); (case l24 => k_is); (case e24 => k_is); (case k24 => k_is); (case d24_careful => k_is); (case a25 => k_is); (case l25 => k_is); (case e25 => k_is); (case k25 => k_is); (case a26 => k_is); (case l26 => k_is); (case e26 => k_is); (case k26 => k_is); (case z_all => k_is); (case z_bool => k_is); (case z_int => k_is); (case z_isinstance => k_is); (case z_len => k_is); (case z_min => k_is); (case z_range => k_is); (case z_repr => k_is); (case z_str => k_is); (case z_tuple => k_is); (case z_zip => k_is); (case g_CHOICES => k_is); (case l_CHOICES => k_is); (case l_CHOICES0 => k_is); (case l_CHOICES1 => k_is); (case l_CHOICES2 => k_is); (case l_CHOICES3 => k_is); (case l_CHOICES4 => k_is); (case l_CHOICES5 => k_is); (case l_CHOICES6 => k_is); (case g_FAULTS => k_is); (case l_FAULTS => k_is); (case g_PARTS => k_is); (case l_PARTS => k_is); (case g_SAFE => k_is); (case l_SAFE => k_is); (case ga_InvalidNumber => k_is); (case ga_InvalidPart => k_is); (case ga_InvalidRule => k_is); (case ga_TurnError => k_is); (case ex_InvalidNumber => first | k_is | k_exc); (case ek_InvalidNumber => k_is); (case eb_InvalidNumber => k_is); (case et_InvalidNumber => k_is); (case ex_InvalidPart => first | k_is | k_exc); (case ek_InvalidPart => k_is); (case eb_InvalidPart => k_is); (case et_InvalidPart => k_is); (case ex_InvalidRule => first | k_is | k_exc); (case ek_InvalidRule => k_is); (case eb_InvalidRule => k_is); (case et_InvalidRule => k_is); (case ex_TurnError => first | k_is | k_exc); (case ek_TurnError => k_is); (case eb_TurnError => k_is); (case et_TurnError => k_is); (case xn => k_is); (case xt => k_is); (case xg_InvalidNumber => k_is); (case xk_InvalidNumber => k_is); (case xs_InvalidNumber => k_is); (case xd_InvalidNumber => k_is); (case xa_InvalidNumber => k_is); (case xm_InvalidNumber => k_is); (case sb_InvalidNumber_TurnError => k_is); (case ki_InvalidNumber_InvalidNumber => first | kit_is | k_is); (case ki_InvalidNumber_InvalidPart => first | kit_is | k_is); (case ki_InvalidNumber_InvalidRule => first | kit_is | k_is); (case xg_InvalidPart => k_is); (case xk_InvalidPart => k_is); (case xs_InvalidPart => k_is); (case xd_InvalidPart => k_is); (case xa_InvalidPart => k_is); (case xm_InvalidPart => k_is); (case sb_InvalidPart_TurnError => k_is); (case ki_InvalidPart_InvalidNumber => first | kit_is | k_is); (case ki_InvalidPart_InvalidPart => first | kit_is | k_is); (case ki_InvalidPart_InvalidRule => first | kit_is | k_is); (case xg_InvalidRule => k_is); (case xk_InvalidRule => k_is); (case xs_InvalidRule => k_is); (case xd_InvalidRule => k_is); (case xa_InvalidRule => k_is); (case xm_InvalidRule => k_is); (case sb_InvalidRule_TurnError => k_is); (case ki_InvalidRule_InvalidNumber => first | kit_is | k_is); (case ki_InvalidRule_InvalidPart => first | kit_is | k_is); (case ki_InvalidRule_InvalidRule => first | kit_is | k_is); (case hb_TurnError => k_is); (case lc => k_is); (case tc => first | rfl | k_is); (case nT => first | rfl | kernel_rfl); (case chd => first | rfl | kernel_rfl)
end
