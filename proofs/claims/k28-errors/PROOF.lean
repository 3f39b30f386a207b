import PyProof.Rows.All
import Wide.All
import OpenK.AllK
import Wide.FinOn
import HandS.ForMost
import HandS.IsInst
import HandS.TupAny
import HandS.TupMul
import HandS.Style
import HandS.Lambda
import KE.DataEq
import HandS.Zip
import KE.KRevSl
import HandS.Defaults
import HandS.NoneIn
import HandS.Replace
import HandS.StrMore
import HandS.Dict
import HandS.ExcOwn
import HandS.WordsExc
import HandS.TryOnly
import HandS.ExcIs
import PySem.Challenge.RW_tokenturns_k28_errors_of_functions_in_or
import HandS.EndOwn
import KE.KNestM
import KE.RegKIsAll
section
set_option autoImplicit false
set_option linter.all false
/-! TT, the pure half: values, memory, results, and a Lean function for each construct of Python that the texts use. -/
namespace TT

/-- values: lists and dicts that are never changed again are values (vl, vd); what is changed stands in the memory (ref) -/
inductive PV where
  | non
  | bl (b : Bool)
  | int (i : Int)
  | str (s : List Nat)
  | tup (xs : List PV)
  | vl (xs : List PV)
  | fz (xs : List PV)
  | vd (kvs : List (PV × PV))
  | ref (n : Nat)
  | fn (a : Nat)
  deriving Inhabited

/-- what stands in the memory -/
inductive Ob where
  | lst (xs : List PV)
  | dict (kvs : List (PV × PV))
  | dead
  | tab (P : Nat) (q : List Nat)
  deriving Inhabited

abbrev Mm := List Ob
abbrev Sl := List (Option PV)

/-- an exception: its class by number, its fields -/
inductive Exn where
  | mk (c : Nat) (fs : List PV)
  deriving Inhabited

inductive Rs (α : Type) where
  | ok (a : α)
  | ex (e : Exn) (m : Mm)
  | no

namespace Rs
def bind {α β : Type} : Rs α → (α → Rs β) → Rs β
  | ok a, f => f a
  | ex e m, _ => ex e m
  | no, _ => no
@[simp] theorem bind_ok {α β : Type} (a : α) (f : α → Rs β) : (ok a).bind f = f a := rfl
@[simp] theorem bind_ex {α β : Type} (e : Exn) (m : Mm) (f : α → Rs β) : (ex e m : Rs α).bind f = ex e m := rfl
@[simp] theorem bind_no {α β : Type} (f : α → Rs β) : (no : Rs α).bind f = no := rfl
theorem bind_eq_ok {α β : Type} {r : Rs α} {f : α → Rs β} {b : β} (h : r.bind f = ok b) : ∃ a, r = ok a ∧ f a = ok b := by
  cases r with
  | ok a => exact ⟨a, rfl, h⟩
  | ex e m => cases h
  | no => cases h
/-- nothing is raised -/
def nx {α : Type} : Rs α → Rs α
  | ok a => ok a
  | ex _ _ => no
  | no => no
@[simp] theorem nx_ok {α : Type} (a : α) : (ok a).nx = ok a := rfl
@[simp] theorem nx_ex {α : Type} (e : Exn) (m : Mm) : (ex e m : Rs α).nx = no := rfl
@[simp] theorem nx_no {α : Type} : (no : Rs α).nx = no := rfl
def ofO {α : Type} : Option α → Rs α
  | some a => ok a
  | none => no
@[simp] theorem ofO_some {α : Type} (a : α) : ofO (some a) = ok a := rfl
@[simp] theorem ofO_none {α : Type} : ofO (none : Option α) = no := rfl
end Rs

abbrev SE := Sl → Mm → Rs (PV × Mm)
abbrev SA := Sl → Mm → Rs (List PV × Mm)
abbrev ST := Sl → Mm → Rs (Bool × Mm)
inductive Fl where
  | nx | bk | ct
  | rt (v : PV)
abbrev SS := Sl → Mm → Rs (Fl × Sl × Mm)
/-- by values -/
abbrev O1 := PV → Mm → Rs (PV × Mm)
abbrev O2 := PV → PV → Mm → Rs (PV × Mm)
abbrev ON := List PV → Mm → Rs (PV × Mm)

/-! ### plain data: shallow, no refs, no dicts -/
def b2i (b : Bool) : Int := if b then 1 else 0
namespace PV
/-- data without refs and dicts, at most n deep -/
def sh : Nat → PV → Bool
  | _, .non => true
  | _, .bl _ => true
  | _, .int _ => true
  | _, .str _ => true
  | n + 1, .tup xs => xs.all (sh n)
  | n + 1, .vl xs => xs.all (sh n)
  | _, _ => false
mutual
def eqv : PV → PV → Bool
  | .non, .non => true
  | .bl a, .bl b => a == b
  | .bl a, .int j => b2i a == j
  | .int i, .bl b => i == b2i b
  | .int i, .int j => i == j
  | .str x, .str y => x == y
  | .tup xs, .tup ys => eqvs xs ys
  | .vl xs, .vl ys => eqvs xs ys
  | _, _ => false
def eqvs : List PV → List PV → Bool
  | [], [] => true
  | x :: xs, y :: ys => eqv x y && eqvs xs ys
  | _, _ => false
end
end PV
/-- a list in the memory, as a value -/
def look1 (m : Mm) : PV → PV
  | .ref n => match m[n]? with
    | some (.lst xs) => .vl xs
    | _ => .ref n
  | v => v

/-! ### operators by values -/
def DEP : Nat := 12
def oEq : O2 := fun a b m => if (look1 m a).sh DEP && (look1 m b).sh DEP then .ok (.bl (PV.eqv (look1 m a) (look1 m b)), m) else .no
def oNe : O2 := fun a b m => if (look1 m a).sh DEP && (look1 m b).sh DEP then .ok (.bl (!PV.eqv (look1 m a) (look1 m b)), m) else .no
/-- is None, is True ..: the right side a constant -/
def oIs (neg : Bool) (c : PV) : O1 := fun a m => match c, a with
  | .non, .non => .ok (.bl (!neg), m)
  | .non, _ => .ok (.bl neg, m)
  | .bl b, .bl a => .ok (.bl (if a == b then !neg else neg), m)
  | _, _ => .no
def LINE : Nat := 16000000
def oAdd : O2 := fun a b m => match look1 m a, look1 m b with
  | .int i, .int j => .ok (.int (i + j), m)
  | .vl x, .vl y => if x.length + y.length ≤ LINE then .ok (.vl (x ++ y), m) else .no
  | .str x, .str y => if x.length + y.length ≤ LINE then .ok (.str (x ++ y), m) else .no
  | .tup x, .tup y => if x.length + y.length ≤ LINE then .ok (.tup (x ++ y), m) else .no
  | _, _ => .no
def oSub : O2 := fun a b m => match a, b with
  | .int i, .int j => .ok (.int (i - j), m)
  | _, _ => .no
def within64 (i : Int) : Bool := decide (-(2 ^ 64) < i) && decide (i < 2 ^ 64)
def rep {α : Type} (xs : List α) (k : Int) : List α := (List.replicate k.toNat xs).flatten
/-- list * int, tuple * int: a new value -/
def oMul : O2 := fun a b m => match look1 m a, b with
  | .int i, .int j => if within64 i || within64 j then .ok (.int (i * j), m) else .no
  | .vl x, .int k => if decide (k ≤ 1000) && decide (-1000 ≤ k) && decide (x.length ≤ 1000) then .ok (.vl (rep x k), m) else .no
  | .tup x, .int k => if decide (k ≤ 1000) && decide (-1000 ≤ k) && decide (x.length ≤ 1000) then .ok (.tup (rep x k), m) else .no
  | _, _ => .no
def oFDiv : O2 := fun a b m => match a, b with
  | .int i, .int j => if decide (0 < j) && decide (j < 1073741824) then .ok (.int (i / j), m) else .no
  | _, _ => .no
def oMod : O2 := fun a b m => match a, b with
  | .int i, .int j => if decide (0 < j) then .ok (.int (i % j), m) else .no
  | _, _ => .no
def oPow : O2 := fun a b m => match a, b with
  | .int i, .int j => if decide (0 ≤ j) && decide (j ≤ 1000) && decide (i.natAbs < 2 ^ 64) then .ok (.int (i ^ j.toNat), m) else .no
  | _, _ => .no
def oNeg : O1 := fun a m => match a with
  | .int i => .ok (.int (-i), m)
  | _ => .no
def oCmp (p : Int → Int → Bool) : O2 := fun a b m => match a, b with
  | .int i, .int j => .ok (.bl (p i j), m)
  | _, _ => .no
def oLt : O2 := oCmp fun i j => decide (i < j)
def oLe : O2 := oCmp fun i j => decide (i ≤ j)
def oGt : O2 := oCmp fun i j => decide (j < i)
def oGe : O2 := oCmp fun i j => decide (j ≤ i)
/-- x in c: a list, a tuple; one sign in a text -/
def oIn (neg : Bool) : O2 := fun a c m => match look1 m c with
  | .vl xs => if xs.all (PV.sh DEP) && a.sh DEP then .ok (.bl (if neg then !(xs.any fun y => PV.eqv y a) else xs.any fun y => PV.eqv y a), m) else .no
  | .tup xs => if xs.all (PV.sh DEP) && a.sh DEP then .ok (.bl (if neg then !(xs.any fun y => PV.eqv y a) else xs.any fun y => PV.eqv y a), m) else .no
  | .str z => match a with
    | .str [c] => .ok (.bl (if neg then !(decide (c ∈ z)) else decide (c ∈ z)), m)
    | _ => .no
  | _ => .no

/-! ### subscripts -/
def ixN (n : Nat) (i : Int) : Option Nat := if 0 ≤ i then (if i < n then some i.toNat else none) else if -(n : Int) ≤ i then some (i + n).toNat else none
def atI {α : Type} (xs : List α) (i : Int) : Option α := (ixN xs.length i).bind fun j => xs[j]?
def oIx : O2 := fun a i m => match look1 m a, i with
  | .vl xs, .int k => match atI xs k with
    | some v => .ok (v, m)
    | none => .no
  | .fz xs, .int k => match atI xs k with
    | some v => .ok (v, m)
    | none => .no
  | .tup xs, .int k => match atI xs k with
    | some v => .ok (v, m)
    | none => .no
  | .str z, .int k => if z.length ≤ LINE then (match atI z k with
    | some c => .ok (.str [c], m)
    | none => .no) else .no
  | _, _ => .no
def sIx (n d : Nat) : Option Int → Nat
  | none => d
  | some v => if v < 0 then (v + n).toNat else min v.toNat n
def cutL {α : Type} (xs : List α) (lo hi : Option Int) : List α := (xs.drop (sIx xs.length 0 lo)).take (sIx xs.length xs.length hi - sIx xs.length 0 lo)
def oSlice (lo hi : Option Int) : O1 := fun a m => match look1 m a with
  | .vl xs => .ok (.vl (cutL xs lo hi), m)
  | .tup xs => .ok (.tup (cutL xs lo hi), m)
  | .str z => if z.length ≤ LINE then .ok (.str (cutL z lo hi), m) else .no
  | _ => .no
/-- x[::-1] -/
def oRevL : O1 := fun a m => match look1 m a with
  | .vl xs => .ok (.vl xs.reverse, m)
  | _ => .no
def oRevT : O1 := fun a m => match a with
  | .tup xs => .ok (.tup xs.reverse, m)
  | _ => .no
/-- o[i] = v of a list in the memory -/
def oSet (o i v : PV) (m : Mm) : Rs Mm := match o, i with
  | .ref n, .int k => match m[n]? with
    | some (.lst xs) => match ixN xs.length k with
      | some j => .ok (m.set n (.lst (xs.set j v)))
      | none => .no
    | _ => .no
  | _, _ => .no

/-! ### built-in functions -/
def fLen : ON := fun xs m => match xs with
  | [a] => match look1 m a with
    | .vl ys => .ok (.int ys.length, m)
    | .fz ys => .ok (.int ys.length, m)
    | .tup ys => .ok (.int ys.length, m)
    | .str z => if z.length ≤ LINE then .ok (.int z.length, m) else .no
    | _ => .no
  | _ => .no
def fInt : ON := fun xs m => match xs with
  | [.int i] => .ok (.int i, m)
  | [.bl b] => .ok (.int (b2i b), m)
  | _ => .no
def fMax : ON := fun xs m => match xs with
  | [.int i, .int j] => .ok (.int (if j > i then j else i), m)
  | _ => .no
def fMin : ON := fun xs m => match xs with
  | [.int i, .int j] => .ok (.int (if j < i then j else i), m)
  | _ => .no
/-- list(x): a new value -/
def fList : ON := fun xs m => match xs with
  | [a] => match look1 m a with
    | .vl ys => .ok (.vl ys, m)
    | .tup ys => .ok (.vl ys, m)
    | _ => .no
  | _ => .no
def fTuple : ON := fun xs m => match xs with
  | [a] => match look1 m a with
    | .vl ys => .ok (.tup ys, m)
    | .tup ys => .ok (.tup ys, m)
    | _ => .no
  | _ => .no
def bools : List PV → Option (List Bool)
  | [] => some []
  | .bl b :: r => (bools r).map (b :: ·)
  | _ :: _ => none
def fAll : ON := fun xs m => match xs with
  | [a] => match look1 m a with
    | .vl ys => match bools ys with
      | some bs => .ok (.bl (bs.all id), m)
      | none => .no
    | _ => .no
  | _ => .no
/-- isinstance(x, T) -/
inductive Ty where
  | tInt | tStr | tBool | tTup | tList
def isA : Ty → PV → Option Bool
  | _, .non => some false
  | .tInt, .bl _ => some true
  | .tBool, .bl _ => some true
  | _, .bl _ => some false
  | .tInt, .int _ => some true
  | _, .int _ => some false
  | .tStr, .str _ => some true
  | _, .str _ => some false
  | .tTup, .tup _ => some true
  | _, .tup _ => some false
  | .tList, .vl _ => some true
  | _, .vl _ => some false
  | .tList, .fz _ => some true
  | _, .fz _ => some false
  | _, _ => none
def oIsA (t : Ty) : O1 := fun a m => match isA t (look1 m a) with
  | some b => .ok (.bl b, m)
  | none => .no
/-- repr of None, a bool -/
def fReprB : ON := fun xs m => match xs with
  | [.bl true] => .ok (.str [84, 114, 117, 101], m)
  | [.bl false] => .ok (.str [70, 97, 108, 115, 101], m)
  | _ => .no

/-! ### methods -/
def mAppend (o : PV) (xs : List PV) (m : Mm) : Rs (PV × Mm) := match o, xs with
  | .ref n, [v] => match m[n]? with
    | some (.lst ys) => if ys.length < LINE then .ok (.non, m.set n (.lst (ys ++ [v]))) else .no
    | _ => .no
  | _, _ => .no
def idx (p : PV → Bool) : List PV → Nat → Option Nat
  | [], _ => none
  | x :: r, i => if p x then some i else idx p r (i + 1)
/-- xs.index(y) of flat items -/
def flat : PV → Bool
  | .non => true
  | .bl _ => true
  | .int _ => true
  | .str _ => true
  | _ => false
def mIndex (o : PV) (xs : List PV) (m : Mm) : Rs (PV × Mm) := match look1 m o, xs with
  | .vl ys, [v] => if ys.all flat && flat v then (match idx (fun y => PV.eqv y v) ys 0 with
    | some i => .ok (.int i, m)
    | none => .no) else .no
  | .tup ys, [v] => if ys.all flat && flat v then (match idx (fun y => PV.eqv y v) ys 0 with
    | some i => .ok (.int i, m)
    | none => .no) else .no
  | _, _ => .no
def idxN (c : Nat) : List Nat → Nat → Option Nat
  | [], _ => none
  | x :: r, i => if x == c then some i else idxN c r (i + 1)
/-- text.index(one sign), a text of two signs, where it is there -/
def mIndexS (o : PV) (xs : List PV) (m : Mm) : Rs (PV × Mm) := match o, xs with
  | .str [p, q], [.str [c]] => if c = p then .ok (.int 0, m) else if c = q then .ok (.int 1, m) else .no
  | _, _ => .no
/-- text.find(one sign), a text of two signs -/
def mFindS (o : PV) (xs : List PV) (m : Mm) : Rs (PV × Mm) := match o, xs with
  | .str [p, q], [.str [c]] => .ok (.int (if c = p then 0 else if c = q then 1 else -1), m)
  | _, _ => .no

/-! ### expressions -/
def eVar (i : Nat) : SE := fun s m => match s[i]? with
  | some (some v) => .ok (v, m)
  | _ => .no
def eC (v : PV) : SE := fun _ m => .ok (v, m)
def e1 (f : O1) (a : SE) : SE := fun s m => (a s m).bind fun (x, m1) => f x m1
def e2 (f : O2) (a b : SE) : SE := fun s m => (a s m).bind fun (x, m1) => (b s m1).bind fun (y, m2) => f x y m2
def aNil : SA := fun _ m => .ok ([], m)
def aCons (a : SE) (r : SA) : SA := fun s m => (a s m).bind fun (x, m1) => (r s m1).bind fun (xs, m2) => .ok (x :: xs, m2)
def eN (f : ON) (a : SA) : SE := fun s m => (a s m).bind fun (xs, m1) => f xs m1
def eTup (a : SA) : SE := fun s m => (a s m).bind fun (xs, m1) => .ok (.tup xs, m1)
/-- a list display that is never changed -/
def eLst (a : SA) : SE := fun s m => (a s m).bind fun (xs, m1) => .ok (.vl xs, m1)
/-- a list display that will be changed -/
def eLstM (a : SA) : SE := fun s m => (a s m).bind fun (xs, m1) => .ok (.ref m1.length, m1 ++ [.lst xs])
def eIf (t : ST) (a b : SE) : SE := fun s m => (t s m).bind fun (c, m1) => if c then a s m1 else b s m1
/-- method of a value: o.m(args), o of the type told -/
inductive Tag where
  | list | str
def tyOk (m : Mm) : Tag → PV → Bool
  | .str, .str _ => true
  | .list, .ref n => match m[n]? with
    | some (.lst _) => true
    | _ => false
  | .list, .vl _ => true
  | _, _ => false
def eM (t : Tag) (f : PV → List PV → Mm → Rs (PV × Mm)) (o : SE) (a : SA) : SE := fun s m => (o s m).bind fun (x, m1) => if tyOk m1 t x then (a s m1).bind fun (xs, m2) => f x xs m2 else .no
/-- a[lo:hi] -/
def eSlL (lo fa : SE) : SE := fun s m => (fa s m).bind fun (x, m1) => (lo s m1).bind fun (l, m2) => match l with
  | .int i => oSlice (some i) none x m2
  | _ => .no
def eSlH (hi fa : SE) : SE := fun s m => (fa s m).bind fun (x, m1) => (hi s m1).bind fun (l, m2) => match l with
  | .int i => oSlice none (some i) x m2
  | _ => .no
def eSlLH (lo hi fa : SE) : SE := fun s m => (fa s m).bind fun (x, m1) => (lo s m1).bind fun (l, m2) => match l with
  | .int i => (hi s m2).bind fun (u, m3) => match u with
    | .int j => oSlice (some i) (some j) x m3
    | _ => .no
  | _ => .no
def asB : PV → Mm → Rs (Bool × Mm)
  | .bl b, m => .ok (b, m)
  | _, _ => .no
/-- and, or, not of truth values -/
def eAnd (a b : SE) : SE := fun s m => (a s m).bind fun (x, m1) => match x with
  | .bl true => b s m1
  | .bl false => .ok (.bl false, m1)
  | _ => .no
def eOr (a b : SE) : SE := fun s m => (a s m).bind fun (x, m1) => match x with
  | .bl false => b s m1
  | .bl true => .ok (.bl true, m1)
  | _ => .no
def eNot (a : SE) : SE := fun s m => (a s m).bind fun (x, m1) => match x with
  | .bl b => .ok (.bl (!b), m1)
  | _ => .no
/-- a < b < c -/
def eChain (f g : O2) (a b c : SE) : SE := fun s m => (a s m).bind fun (x, m1) => (b s m1).bind fun (y, m2) => (f x y m2).bind fun (z, m3) => match z with
  | .bl true => (c s m3).bind fun (u, m4) => g y u m4
  | .bl false => .ok (.bl false, m3)
  | _ => .no
/-! tests -/
def tV (a : SE) : ST := fun s m => (a s m).bind fun (x, m1) => asB x m1
def tAnd (a b : ST) : ST := fun s m => (a s m).bind fun (c, m1) => if c then b s m1 else .ok (false, m1)
def tOr (a b : ST) : ST := fun s m => (a s m).bind fun (c, m1) => if c then .ok (true, m1) else b s m1
def tNot (a : ST) : ST := fun s m => (a s m).bind fun (c, m1) => .ok (!c, m1)
/-- the truth of a value -/
def tru (m : Mm) : PV → Option Bool
  | .non => some false
  | .bl b => some b
  | .int i => some (i != 0)
  | .str z => if z.length ≤ LINE then some (!z.isEmpty) else none
  | .tup xs => some (!xs.isEmpty)
  | .vl xs => some (!xs.isEmpty)
  | .ref n => match m[n]? with
    | some (.lst xs) => some (!xs.isEmpty)
    | _ => none
  | _ => none
def tT (a : SE) : ST := fun s m => (a s m).bind fun (x, m1) => match tru m1 x with
  | some b => .ok (b, m1)
  | none => .no

/-! ### targets: a value is stored -/
abbrev SG := PV → Sl → Mm → Rs (Sl × Mm)
def gName (i : Nat) : SG := fun v s m => .ok (s.set i (some v), m)
def gNames : List Nat → List PV → Sl → Option Sl
  | [], [], s => some s
  | i :: is, v :: vs, s => gNames is vs (s.set i (some v))
  | _, _, _ => none
/-- a, b, .. = a tuple -/
def gTup (is : List Nat) : SG := fun v s m => match v with
  | .tup vs => match gNames is vs s with
    | some s' => .ok (s', m)
    | none => .no
  | _ => .no
/-- a, b, .. = a list -/
def gSeq (is : List Nat) : SG := fun v s m => match look1 m v with
  | .tup vs => match gNames is vs s with
    | some s' => .ok (s', m)
    | none => .no
  | .vl vs => match gNames is vs s with
    | some s' => .ok (s', m)
    | none => .no
  | _ => .no
def gUnp (is : List Nat) : SG := fun v s m => match look1 m v with
  | .vl vs => match gNames is vs s with
    | some s' => .ok (s', m)
    | none => .no
  | _ => .no
def gSub (o i : SE) : SG := fun v s m => (o s m).bind fun (x, m1) => (i s m1).bind fun (k, m2) => (oSet x k v m2).bind fun m3 => .ok (s, m3)

/-! ### statements -/
def sSkip : SS := fun s m => .ok (.nx, s, m)
def sSeq (a b : SS) : SS := fun s m => (a s m).bind fun (f, s1, m1) => match f with
  | .nx => b s1 m1
  | f => .ok (f, s1, m1)
def sExpr (e : SE) : SS := fun s m => (e s m).bind fun (_, m1) => .ok (.nx, s, m1)
def sAsg (e : SE) (g : SG) : SS := fun s m => (e s m).bind fun (v, m1) => (g v s m1).bind fun (s2, m2) => .ok (.nx, s2, m2)
def sRet (e : SE) : SS := fun s m => (e s m).bind fun (v, m1) => .ok (.rt v, s, m1)
def sRetN : SS := fun s m => .ok (.rt .non, s, m)
def sIf (t : ST) (a b : SS) : SS := fun s m => (t s m).bind fun (c, m1) => if c then a s m1 else b s m1
def sBreak : SS := fun s m => .ok (.bk, s, m)
def sCont : SS := fun s m => .ok (.ct, s, m)
/-- never reached -/
def sNever : SS := fun _ _ => .no
/-- a, b = e1, e2 with local names -/
def sPar2 (i j : Nat) (a : SA) : SS := fun s m => (a s m).bind fun (xs, m1) => match xs with
  | [x, y] => .ok (.nx, (s.set i (some x)).set j (some y), m1)
  | _ => .no
def sPar3 (i j l : Nat) (a : SA) : SS := fun s m => (a s m).bind fun (xs, m1) => match xs with
  | [x, y, z] => .ok (.nx, ((s.set i (some x)).set j (some y)).set l (some z), m1)
  | _ => .no
def sPar (is : List Nat) (a : SA) : SS := fun s m => (a s m).bind fun (xs, m1) => match gNames is xs s with
  | some s' => .ok (.nx, s', m1)
  | none => .no
/-- x op= e -/
def sAug (i : Nat) (f : O2) (e : SE) : SS := fun s m => match s[i]? with
  | some (some x) => (e s m).bind fun (y, m1) => (f x y m1).bind fun (z, m2) => .ok (.nx, s.set i (some z), m2)
  | _ => .no
/-! loops over values -/
abbrev SI := Sl → Mm → Rs (List PV × Mm)
def forL (g : SG) (b : SS) : List PV → Sl → Mm → Rs (Fl × Sl × Mm)
  | [], s, m => .ok (.nx, s, m)
  | x :: xs, s, m => (g x s m).bind fun (s1, m1) => (b s1 m1).bind fun (f, s2, m2) => match f with
    | .nx => forL g b xs s2 m2
    | .ct => forL g b xs s2 m2
    | .bk => .ok (.nx, s2, m2)
    | .rt v => .ok (.rt v, s2, m2)
def sFor (it : SI) (g : SG) (b : SS) : SS := fun s m => (it s m).bind fun (xs, m1) => forL g b xs s m1
/-- what is walked: a value's items -/
def items : PV → Option (List PV)
  | .tup xs => some xs
  | .vl xs => some xs
  | .str z => some (z.map fun c => .str [c])
  | _ => none
def iV (e : SE) : SI := fun s m => (e s m).bind fun (x, m1) => (Rs.ofO (items x)).bind fun xs => .ok (xs, m1)
/-- over a list, a tuple -/
def iL (e : SE) : SI := fun s m => (e s m).bind fun (x, m1) => match x with
  | .vl xs => .ok (xs, m1)
  | _ => .no
def iT (e : SE) : SI := fun s m => (e s m).bind fun (x, m1) => match x with
  | .tup xs => .ok (xs, m1)
  | _ => .no
def rngL (lo : Int) : Nat → List PV
  | 0 => []
  | n + 1 => .int lo :: rngL (lo + 1) n
def P62 : Int := 4611686018427387904
def iRng1 (e : SE) : SI := fun s m => (e s m).bind fun (x, m1) => match x with
  | .int j => if decide (-P62 ≤ j) && decide (j < P62) then .ok (rngL 0 j.toNat, m1) else .no
  | _ => .no
def iRng2 (a b : SE) : SI := fun s m => (a s m).bind fun (x, m1) => (b s m1).bind fun (y, m2) => match x, y with
  | .int i, .int j => if decide (-P62 ≤ i) && decide (i < P62) && decide (-P62 ≤ j) && decide (j < P62) then .ok (rngL i (j - i).toNat, m2) else .no
  | _, _ => .no
def zipP : List PV → List PV → List PV
  | x :: xs, y :: ys => .tup [x, y] :: zipP xs ys
  | _, _ => []
def iZip (a b : SE) : SI := fun s m => (a s m).bind fun (x, m1) => (b s m1).bind fun (y, m2) => match x, y with
  | .tup xs, .tup ys => .ok (zipP xs ys, m2)
  | .vl xs, .vl ys => .ok (zipP xs ys, m2)
  | _, _ => .no
def enumP : Int → List PV → List PV
  | _, [] => []
  | i, x :: xs => .tup [.int i, x] :: enumP (i + 1) xs
def iEnum (a : SE) : SI := fun s m => (a s m).bind fun (x, m1) => match x with
  | .vl xs => .ok (enumP 0 xs, m1)
  | .tup xs => .ok (enumP 0 xs, m1)
  | _ => .no
/-! while -/
def whileF (t : ST) (b : SS) : Nat → Sl → Mm → Rs (Fl × Sl × Mm)
  | 0, _, _ => .no
  | n + 1, s, m => (t s m).bind fun (c, m1) => if c then (b s m1).bind fun (f, s2, m2) => match f with
      | .nx => whileF t b n s2 m2
      | .ct => whileF t b n s2 m2
      | .bk => .ok (.nx, s2, m2)
      | .rt v => .ok (.rt v, s2, m2)
    else .ok (.nx, s, m1)
def FUEL : Nat := 1000000000000
def sWhile (t : ST) (b : SS) : SS := fun s m => whileF t b FUEL s m
/-! comprehensions: own slots forgotten first -/
def wipe (s : Sl) : List Nat → Sl
  | [] => s
  | v :: vs => (wipe s vs).set v none
def lcL (g : SG) (t : ST) (e : SE) (s : Sl) : List PV → Mm → List PV → Rs (List PV × Mm)
  | [], m, acc => .ok (acc, m)
  | x :: xs, m, acc => (g x s m).nx.bind fun (s1, m1) => (t s1 m1).nx.bind fun (c, m2) =>
    if c then (e s1 m2).nx.bind fun (y, m3) => if acc.length < LINE then lcL g t e s xs m3 (acc ++ [y]) else .no else lcL g t e s xs m2 acc
def eLc (own : List Nat) (it : SI) (g : SG) (t : ST) (e : SE) : SE := fun s m => (it s m).bind fun (xs, m1) => (lcL g t e (wipe s own) xs m1 []).bind fun (ys, m2) => .ok (.vl ys, m2)
def tYes : ST := fun _ m => .ok (true, m)

/-! ### ghost steps -/
/-- the list in slot i is changed no more: it becomes a value -/
def sFrz (i : Nat) : SS := fun s m => match s[i]? with
  | some (some (.ref n)) => match m[n]? with
    | some (.lst xs) => .ok (.nx, s.set i (some (.vl xs)), m.set n .dead)
    | _ => .no
  | _ => .no
/-- an expression's list is changed no more -/
def eFrz (e : SE) : SE := fun s m => (e s m).bind fun (x, m1) => match x with
  | .ref n => match m1[n]? with
    | some (.lst xs) => .ok (.vl xs, m1.set n .dead)
    | _ => .no
  | x => .ok (x, m1)

/-! ### defs -/
/-- a def by the whole memory -/
abbrev IF := List PV → Mm → Rs (PV × Mm)
/-- a def by values alone -/
abbrev PF := List PV → Rs PV
def startS (n : Nat) (args : List PV) : Sl := args.map some ++ List.replicate (n - args.length) none
def endF : Rs (Fl × Sl × Mm) → Rs (PV × Mm)
  | .ok (.rt v, _, m) => .ok (v, m)
  | .ok (.nx, _, m) => .ok (.non, m)
  | .ok _ => .no
  | .ex e m => .ex e m
  | .no => .no
/-- n: the number of slots, k: of the parameters -/
def bodyI (n k : Nat) (b : SS) : IF := fun args m => if args.length = k then endF (b (startS n args) m) else .no
/-- values that hold no refs -/
def pure1 : PV → Bool
  | .non => true
  | .bl _ => true
  | .int _ => true
  | .str _ => true
  | _ => false
mutual
def PV.pu : PV → Bool
  | .ref _ => false
  | .tup xs => pus xs
  | .vl xs => pus xs
  | .fz xs => pus xs
  | .vd kvs => pud kvs
  | _ => true
def pus : List PV → Bool
  | [] => true
  | x :: xs => PV.pu x && pus xs
def pud : List (PV × PV) → Bool
  | [] => true
  | (k, v) :: r => PV.pu k && PV.pu v && pud r
end
/-- what is handed back as a value: lists of the memory become values -/
def frz : Nat → Mm → PV → Option PV
  | 0, _, v => if v.pu then some v else none
  | k + 1, m, v => if v.pu then some v else match v with
    | .ref n => match m[n]? with
      | some (.lst xs) => (frzs (frz k m) xs).map .vl
      | _ => none
    | .tup xs => (frzs (frz k m) xs).map .tup
    | _ => none
where
  frzs (f : PV → Option PV) : List PV → Option (List PV)
  | [] => some []
  | x :: xs => match f x, frzs f xs with
    | some y, some ys => some (y :: ys)
    | _, _ => none
/-- a def that neither changes nor keeps what it is given -/
def bodyP (n k : Nat) (b : SS) : PF := fun args => match bodyI n k b args [] with
  | .ok (v, m) => Rs.ofO (frz 4 m v)
  | .ex e _ => .ex e []
  | .no => .no
/-- the call of such a def: the arguments hold no refs -/
def cP (f : PF) : ON := fun xs m => if pus xs then (match f xs with
  | .ok v => .ok (v, m)
  | _ => .no) else .no
/-- the call of a def by the whole memory -/
def cI (f : IF) : ON := fun xs m => (f xs m).nx
/-- an object that holds no refs -/
def Ob.pu : Ob → Bool
  | .lst xs => pus xs
  | .dict kvs => pud kvs
  | .dead => true
  | .tab _ _ => true
end TT
end

section
set_option autoImplicit false
set_option linter.all false
/-! TT, the pure half, more -/
namespace TT
/-- f(.., k = ..) -/
def eNK (f : ON) (fs gs : SA) : SE := fun s m => (fs s m).bind fun (xs, m1) => (gs s m1).bind fun (ys, m2) => f (xs ++ ys) m2
/-- f(..), the rest by default -/
def eND (f : ON) (fs : SA) (ds : List PV) : SE := fun s m => (fs s m).bind fun (xs, m1) => f (xs ++ ds) m1
/-- x[lo::st] of lists -/
def stepIdx (lo st : Int) (n : Nat) : List Nat := (List.range (if lo < n then ((n : Int) - lo + st - 1) / st else 0).toNat).map fun (k : Nat) => (lo + st * (k : Int)).toNat
def stepL {α : Type} (xs : List α) (lo st : Int) : List α := (stepIdx lo st xs.length).filterMap fun i => xs[i]?
def oStep (st : Int) (n : Nat) : O1 := fun l m => match l with
  | .int i => match m[n]? with
    | some (.lst xs) => if decide (0 ≤ i) && decide (i ≤ xs.length) then .ok (.vl (stepL xs i st), m) else .no
    | _ => .no
  | _ => .no
def eSlS (lo : SE) (st : Int) (fa : SE) : SE := fun s m => (fa s m).bind fun (x, m1) => match x with
  | .ref n => (lo s m1).bind fun (l, m2) => oStep st n l m2
  | _ => .no
/-! dicts of texts and whole numbers -/
def keyOk : PV → Bool
  | .int _ => true
  | .str _ => true
  | _ => false
def keyEq : PV → PV → Bool
  | .int i, .int j => decide (i = j)
  | .str x, .str y => decide (x = y)
  | _, _ => false
def dFind (kvs : List (PV × PV)) (k : PV) : Option PV := (kvs.find? fun p => keyEq p.1 k).map (·.2)
def dPut (kvs : List (PV × PV)) (k v : PV) : List (PV × PV) :=
  if (kvs.any fun p => keyEq p.1 k) = true then kvs.map (fun p => if keyEq p.1 k = true then (p.1, v) else p) else kvs ++ [(k, v)]
def dMerge (kvs more : List (PV × PV)) : List (PV × PV) := more.foldl (fun acc p => dPut acc p.1 p.2) kvs
def pairsOf : List (SE × SE) → Sl → Mm → Rs (List (PV × PV) × Mm)
  | [], _, m => .ok ([], m)
  | (a, b) :: r, s, m => (a s m).bind fun (x, m1) => (b s m1).bind fun (y, m2) => (pairsOf r s m2).bind fun (ps, m3) => .ok ((x, y) :: ps, m3)
/-- {k: v, ..} -/
def eDict (L : List (SE × SE)) : SE := fun s m => (pairsOf L s m).bind fun (ps, m1) => if ps.all (fun p => keyOk p.1) && decide (ps.length ≤ 15) then .ok (.ref m1.length, m1 ++ [.dict (dMerge [] ps)]) else .no
/-- d[k] of a dict where the key is -/
def oDGet : O2 := fun d k m => match d with
  | .ref n => match m[n]? with
    | some (.dict kvs) => if keyOk k then (match dFind kvs k with
      | some v => .ok (v, m)
      | none => .no) else .no
    | _ => .no
  | _ => .no
def oDSet (d k v : PV) (m : Mm) : Rs Mm := match d with
  | .ref n => match m[n]? with
    | some (.dict kvs) => if keyOk k && decide (kvs.length < LINE) then .ok (m.set n (.dict (dPut kvs k v))) else .no
    | _ => .no
  | _ => .no
/-- d[k] = v -/
def sDSet (v d k : SE) : SS := fun s m => (v s m).bind fun (x, m1) => (d s m1).bind fun (o, m2) => (k s m2).bind fun (y, m3) => (oDSet o y x m3).bind fun m4 => .ok (.nx, s, m4)
/-! exceptions -/
/-- raise X('..'), the class with the number c -/
def sRaise (c : Nat) : SS := fun _ m => .ex (.mk c []) m
/-- the call of a def by values that may raise -/
def cX (F : PF) : ON := fun xs m => if pus xs then (match F xs with
  | .ok v => .ok (v, m)
  | .ex (.mk c fs) _ => if pus fs then .ex (.mk c fs) m else .no
  | .no => .no) else .no
/-- what is told of an exception: by its class, the first class is over all -/
inductive Told where
  | ret (l : List Nat)
  | ite (c : Nat) (a b : Told)
def isSub (c c' : Nat) : Bool := c' == 0 || c == c'
def Told.ev (c : Nat) : Told → List Nat
  | .ret l => l
  | .ite c' a b => if isSub c c' then a.ev c else b.ev c
/-- told(lambda: B), P: the table of code objects, q: the lambda's name -/
def eTold (P : Nat) (q : List Nat) (t : Told) (els : List Nat) (cs : List Nat) (B : SE) : SE := fun s (m : List Ob) => match m[(0 : Nat)]? with
  | some (.tab P' q') => if P' = P ∧ q' = q then (match B s m with
    | .ok (_, m') => .ok (.str els, m')
    | .ex (.mk c []) m' => if cs.contains c then .ok (.str (t.ev c), m') else .no
    | _ => .no) else .no
  | _ => .no
end TT
end

section
set_option Elab.async false
set_option linter.all false
set_option autoImplicit false
set_option maxRecDepth 100000
/-! TT, the relation between values, memory and HandS's abstract heap -/
namespace TT
open PySem PySem.Spec PyProof.Rows L2

/-- the ghost: where the objects of the memory stand; what is read only -/
structure Gh where
  φ : Nat → Option Addr
  ro : Hp
  T : List (Addr × Str)

mutual
inductive Rp (K : PySem.W.Frag) (g : Gh) (H : Hp) : PV → V → Prop
  | non : Rp K g H .non .non
  | bl (b : Bool) : Rp K g H (.bl b) (.bl b)
  | int (i : Int) : Rp K g H (.int i) (.int i)
  | str (l : List Nat) : Rp K g H (.str l) (.str ⟨l.toArray⟩)
  | tup {a : Addr} {vs : List V} {xs : List PV} : SqT K H a vs → Rps K g H xs vs → Rp K g H (.tup xs) (.ref a)
  | vl {a : Addr} {vs : List V} {xs : List PV} : g.ro a = some (.lst vs) → Rps K g H xs vs → Rp K g H (.vl xs) (.ref a)
  | fz {a : Addr} {vs : List V} {xs : List PV} : SqL K g.ro a vs → Rps K g H xs vs → Rp K g H (.fz xs) (.ref a)
  | ref {n : Nat} {a : Addr} : g.φ n = some a → Rp K g H (.ref n) (.ref a)
  | fn (a : Addr) : Rp K g H (.fn a) (.ref a)
inductive Rps (K : PySem.W.Frag) (g : Gh) (H : Hp) : List PV → List V → Prop
  | nil : Rps K g H [] []
  | cons {x : PV} {xs : List PV} {v : V} {vs : List V} : Rp K g H x v → Rps K g H xs vs → Rps K g H (x :: xs) (v :: vs)
end

/-- no table of code objects -/
def NT (u : HO) : Prop := ∀ ps, u ≠ .tbl ps
theorem nt_mut {u : HO} (h : Mut (some u)) : NT u := fun ps z => by subst z; exact h
theorem tabs_new {T : List (Addr × Str)} {H : Hp} {p : Addr} {o : HO} (t : LamX.Tabs T H) (hp : H p = none) : LamX.Tabs T (upd H p o) := t.ext fun b u h => by rw [upd_ne (ne_of_none h hp)]; exact h
/-- what is written is no code object, no table -/
theorem tabs_wr {T : List (Addr × Str)} {H : Hp} {p : Addr} {o u : HO} (t : LamX.Tabs T H) (hp : H p = some u) (h1 : NT u) (h2 : ∀ φ, u ≠ .ext φ) : LamX.Tabs T (upd H p o) := fun q hq => by
  obtain ⟨ps, a1, a2, a3⟩ := t q hq
  refine ⟨ps, by rw [upd_ne (fun z => h1 ps (by rw [z, hp] at a1; exact Option.some.inj a1))]; exact a1, a2, fun pos cv hc => ?_⟩
  obtain ⟨c, e1, e2⟩ := a3 pos cv hc
  exact ⟨c, e1, by rw [upd_ne (fun z => h2 _ (by rw [z, hp] at e2; exact Option.some.inj e2))]; exact e2⟩
/-- the keys that HandS's dicts know: whole numbers and texts -/
def keyOf : PV → Option Key
  | .int i => some (.inl i)
  | .str l => some (.inr ⟨l.toArray⟩)
  | _ => none
inductive RKs (K : PySem.W.Frag) (g : Gh) (H : Hp) : List (PV × PV) → List (Key × V) → Prop
  | nil : RKs K g H [] []
  | cons {k x : PV} {k' : Key} {v : V} {xs : List (PV × PV)} {vs : List (Key × V)} : keyOf k = some k' → Rp K g H x v → RKs K g H xs vs → RKs K g H ((k, x) :: xs) ((k', v) :: vs)
theorem RKs.imp {K : PySem.W.Frag} {g g' : Gh} {H H' : Hp} (f : ∀ {v w}, Rp K g H v w → Rp K g' H' v w) : ∀ {xs : List (PV × PV)} {vs : List (Key × V)}, RKs K g H xs vs → RKs K g' H' xs vs
  | _, _, .nil => .nil
  | _, _, .cons a b c => .cons a (f b) (RKs.imp f c)
def ROb (K : PySem.W.Frag) (g : Gh) (H : Hp) (n : Nat) : Ob → Prop
  | .lst xs => ∃ a vs, g.φ n = some a ∧ H a = some (.lst vs) ∧ Rps K g H xs vs
  | .dict xs => ∃ a vs, g.φ n = some a ∧ H a = some (.dK vs) ∧ RKs K g H xs vs
  | .dead => True
  | .tab P q => g.T = [(P, ⟨q.toArray⟩)]

structure Emb (K : PySem.W.Frag) (g : Gh) (m : Mm) (H : Hp) : Prop where
  obj : ∀ n o, m[n]? = some o → ROb K g H n o
  dom : ∀ n a, g.φ n = some a → n < m.length ∧ ∃ u, H a = some u ∧ Mut (some u)
  inj : ∀ n k a, g.φ n = some a → g.φ k = some a → n = k
  ro : ∀ a u, g.ro a = some u → H a = some u ∧ ∀ n, g.φ n = some a → m[n]? = some .dead
  nt : ∀ a u, g.ro a = some u → NT u
  tab : LamX.Tabs g.T H

/-- what becomes of ghost and heap: grown; what is not in the memory stays -/
structure Ext (g : Gh) (H : Hp) (g' : Gh) (H' : Hp) : Prop where
  phi : ∀ n a, g.φ n = some a → g'.φ n = some a
  ro : ∀ a u, g.ro a = some u → g'.ro a = some u
  fr : ∀ a u, H a = some u → (∀ n, g.φ n ≠ some a) → NT u → H' a = some u
  /-- what was not in the memory and stood already does not come into it -/
  old : ∀ a u, H a = some u → (∀ n, g.φ n ≠ some a) → NT u → ∀ n, g'.φ n ≠ some a
  oldr : ∀ a u, H a = some u → (∀ n, g.φ n ≠ some a) → NT u → g.ro a = none → g'.ro a = none
  T : g'.T = g.T

theorem Ext.refl (g : Gh) (H : Hp) : Ext g H g H := ⟨fun _ _ h => h, fun _ _ h => h, fun _ _ h _ _ => h, fun _ _ _ h _ => h, fun _ _ _ _ _ h => h, rfl⟩
theorem Ext.trans {g g1 g2 : Gh} {H H1 H2 : Hp} (a : Ext g H g1 H1) (b : Ext g1 H1 g2 H2) : Ext g H g2 H2 :=
  ⟨fun n x h => b.phi n x (a.phi n x h), fun x u h => b.ro x u (a.ro x u h), fun x u h n t => b.fr x u (a.fr x u h n t) (a.old x u h n t) t, fun x u h n t => b.old x u (a.fr x u h n t) (a.old x u h n t) t, fun x u h n t r => b.oldr x u (a.fr x u h n t) (a.old x u h n t) t (a.oldr x u h n t r), b.T.trans a.T⟩

theorem not_mut_tup {u : HO} {xs : List V} (h : Mut (some u)) (e : u = .tup xs) : False := by subst e; exact h
theorem not_mut_frz {u w : HO} {o : Obj} (h : Mut (some u)) (e : u = .frz o w) : False := by subst e; exact h

/-- a tuple is not in the memory -/
theorem Emb.tup_out {K : PySem.W.Frag} {g : Gh} {m : Mm} {H : Hp} (e : Emb K g m H) {a : Addr} {xs : List V} (h : Rd H a (.tup xs)) : ∀ n, g.φ n ≠ some a := by
  intro n hn
  obtain ⟨_, u, hu, mu⟩ := e.dom n a hn
  rcases h with h | ⟨o, h⟩
  · rw [hu] at h; exact not_mut_tup mu (Option.some.inj h)
  · rw [hu] at h; exact not_mut_frz mu (Option.some.inj h)

section
variable {K : PySem.W.Frag} {g g' : Gh} {m m' : Mm} {H H' : Hp}
theorem Emb.sqT (e : Emb K g m H) (x : Ext g H g' H') {a : Addr} {xs : List V} (h : SqT K H a xs) : SqT K H' a xs := by
  rcases h with (h | ⟨o, h⟩) | h
  · exact .inl (.inl (x.fr _ _ h (e.tup_out (.inl h)) (fun ps z => nomatch z)))
  · exact .inl (.inr ⟨o, x.fr _ _ h (e.tup_out (.inr ⟨o, h⟩)) (fun ps z => nomatch z)⟩)
  · exact .inr h
theorem sqL_mono {r r' : Hp} (h : ∀ a u, r a = some u → r' a = some u) {a : Addr} {xs : List V} (q : SqL K r a xs) : SqL K r' a xs := by
  rcases q with (q | ⟨o, q⟩) | q
  · exact .inl (.inl (h _ _ q))
  · exact .inl (.inr ⟨o, h _ _ q⟩)
  · exact .inr q
mutual
theorem Rp.ext (e : Emb K g m H) (x : Ext g H g' H') : ∀ {v : PV} {w : V}, Rp K g H v w → Rp K g' H' v w
  | _, _, .non => .non
  | _, _, .bl b => .bl b
  | _, _, .int i => .int i
  | _, _, .str l => .str l
  | _, _, .tup h r => .tup (e.sqT x h) (Rps.ext e x r)
  | _, _, .vl h r => .vl (x.ro _ _ h) (Rps.ext e x r)
  | _, _, .fz h r => .fz (sqL_mono x.ro h) (Rps.ext e x r)
  | _, _, .ref h => .ref (x.phi _ _ h)
  | _, _, .fn a => .fn a
theorem Rps.ext (e : Emb K g m H) (x : Ext g H g' H') : ∀ {v : List PV} {w : List V}, Rps K g H v w → Rps K g' H' v w
  | _, _, .nil => .nil
  | _, _, .cons h r => .cons (Rp.ext e x h) (Rps.ext e x r)
end
theorem RKs.ext (e : Emb K g m H) (x : Ext g H g' H') {v : List (PV × PV)} {w : List (Key × V)} (h : RKs K g H v w) : RKs K g' H' v w := h.imp fun r => r.ext e x
theorem Rps.length : ∀ {v : List PV} {w : List V}, Rps K g H v w → v.length = w.length
  | _, _, .nil => rfl
  | _, _, .cons _ r => by simp [Rps.length r]
theorem Rps.get : ∀ {v : List PV} {w : List V} {i : Nat} {x : PV}, Rps K g H v w → v[i]? = some x → ∃ y, w[i]? = some y ∧ Rp K g H x y
  | _, _, _, _, .nil, h => by simp at h
  | _, _, 0, _, .cons a _, h => by simp at h; subst h; exact ⟨_, rfl, a⟩
  | _, _, i + 1, x, .cons _ r, h => by
    obtain ⟨y, h1, h2⟩ := Rps.get (i := i) (x := x) r (by simpa using h)
    exact ⟨y, by simpa using h1, h2⟩
theorem Rps.get' : ∀ {v : List PV} {w : List V} {i : Nat} {y : V}, Rps K g H v w → w[i]? = some y → ∃ x, v[i]? = some x ∧ Rp K g H x y
  | _, _, _, _, .nil, h => by simp at h
  | _, _, 0, _, .cons a _, h => by simp at h; subst h; exact ⟨_, rfl, a⟩
  | _, _, i + 1, x, .cons _ r, h => by
    obtain ⟨y, h1, h2⟩ := Rps.get' (i := i) (y := x) r (by simpa using h)
    exact ⟨y, by simpa using h1, h2⟩
theorem Rps.append : ∀ {v v' : List PV} {w w' : List V}, Rps K g H v w → Rps K g H v' w' → Rps K g H (v ++ v') (w ++ w')
  | _, _, _, _, .nil, s => s
  | _, _, _, _, .cons h r, s => .cons h (Rps.append r s)
theorem Rps.take : ∀ {v : List PV} {w : List V} (n : Nat), Rps K g H v w → Rps K g H (v.take n) (w.take n)
  | _, _, 0, _ => .nil
  | _, _, _ + 1, .nil => .nil
  | _, _, n + 1, .cons h r => .cons h (Rps.take n r)
theorem Rps.drop : ∀ {v : List PV} {w : List V} (n : Nat), Rps K g H v w → Rps K g H (v.drop n) (w.drop n)
  | _, _, 0, r => r
  | _, _, _ + 1, .nil => .nil
  | _, _, n + 1, .cons h r => Rps.drop n r
theorem Rps.rev {v : List PV} {w : List V} (h : Rps K g H v w) : Rps K g H v.reverse w.reverse := by
  induction v generalizing w with
  | nil => cases h; exact .nil
  | cons x xs ih =>
    cases h with
    | cons a r => rw [List.reverse_cons, List.reverse_cons]; exact (ih r).append (.cons a .nil)
theorem Rps.set {x : PV} {y : V} (a : Rp K g H x y) : ∀ {v : List PV} {w : List V} (i : Nat), Rps K g H v w → Rps K g H (v.set i x) (w.set i y)
  | _, _, _, .nil => .nil
  | _, _, 0, .cons _ r => .cons a r
  | _, _, i + 1, .cons h r => .cons h (Rps.set a i r)
theorem Rps.rep {v : List PV} {w : List V} (h : Rps K g H v w) : ∀ k : Nat, Rps K g H (List.replicate k v).flatten (List.replicate k w).flatten
  | 0 => .nil
  | k + 1 => by rw [List.replicate_succ, List.replicate_succ, List.flatten_cons, List.flatten_cons]; exact h.append (Rps.rep h k)

/-- a value's list or a list in the memory -/
theorem Emb.look (e : Emb K g m H) {v : PV} {w : V} (r : Rp K g H v w) {xs : List PV} (h : look1 m v = .vl xs) : ∃ a vs, w = .ref a ∧ H a = some (.lst vs) ∧ Rps K g H xs vs := by
  cases r with
  | vl h1 h2 => simp only [look1] at h; cases h; exact ⟨_, _, rfl, (e.ro _ _ h1).1, h2⟩
  | ref hn =>
    simp only [look1] at h
    split at h
    · rename_i ys hy
      cases h
      obtain ⟨a, vs, h1, h2, h3⟩ := e.obj _ _ hy
      rw [hn] at h1; cases h1
      exact ⟨_, vs, rfl, h2, h3⟩
    · cases h
  | _ => simp only [look1] at h; cases h
theorem look1_tup {v : PV} {xs : List PV} (h : look1 m v = .tup xs) : v = .tup xs := by
  cases v with
  | ref n => simp only [look1] at h; split at h <;> cases h
  | _ => simpa only [look1] using h
theorem look1_str {v : PV} {xs : List Nat} (h : look1 m v = .str xs) : v = .str xs := by
  cases v with
  | ref n => simp only [look1] at h; split at h <;> cases h
  | _ => simpa only [look1] using h
theorem look1_int {v : PV} {i : Int} (h : look1 m v = .int i) : v = .int i := by
  cases v with
  | ref n => simp only [look1] at h; split at h <;> cases h
  | _ => simpa only [look1] using h
theorem look1_fz {v : PV} {xs : List PV} (h : look1 m v = .fz xs) : v = .fz xs := by
  cases v with
  | ref n => simp only [look1] at h; split at h <;> cases h
  | _ => simpa only [look1] using h
theorem Emb.fz (e : Emb K g m H) {xs : List PV} {w : V} (r : Rp K g H (.fz xs) w) : ∃ a vs, w = .ref a ∧ SqL K H a vs ∧ Rps K g H xs vs := by
  cases r with
  | fz h1 h2 => exact ⟨_, _, rfl, sqL_mono (fun a u h => (e.ro a u h).1) h1, h2⟩
theorem Rp.tup_inv {xs : List PV} {w : V} (r : Rp K g H (.tup xs) w) : ∃ a vs, w = .ref a ∧ SqT K H a vs ∧ Rps K g H xs vs := by
  cases r with
  | tup h1 h2 => exact ⟨_, _, rfl, h1, h2⟩
theorem Rp.int_inv {i : Int} {w : V} (r : Rp K g H (.int i) w) : w = .int i := by cases r; rfl
theorem Rp.bl_inv {i : Bool} {w : V} (r : Rp K g H (.bl i) w) : w = .bl i := by cases r; rfl
theorem Rp.non_inv {w : V} (r : Rp K g H .non w) : w = .non := by cases r; rfl
theorem Rp.str_inv {l : List Nat} {w : V} (r : Rp K g H (.str l) w) : w = .str ⟨l.toArray⟩ := by cases r; rfl
theorem Rp.ref_inv {n : Nat} {w : V} (r : Rp K g H (.ref n) w) : ∃ a, w = .ref a ∧ g.φ n = some a := by cases r with | ref h => exact ⟨_, rfl, h⟩
end

/-! ### slots -/
structure Sr (K : PySem.W.Frag) (g : Gh) (H : Hp) (s : Sl) (σ : L2.St) : Prop where
  len : s.length = σ.length
  at_ : ∀ (i : Nat) (v : PV), s[i]? = some (some v) → ∃ w, σ[i]? = some (some w) ∧ Rp K g H v w
section
variable {K : PySem.W.Frag} {g g' : Gh} {m m' : Mm} {H H' : Hp} {s : Sl} {σ : L2.St}
theorem Sr.ext (r : Sr K g H s σ) (e : Emb K g m H) (x : Ext g H g' H') : Sr K g' H' s σ :=
  ⟨r.len, fun i v h => let ⟨w, h1, h2⟩ := r.at_ i v h; ⟨w, h1, h2.ext e x⟩⟩
theorem Sr.set (r : Sr K g H s σ) {v : PV} {w : V} (a : Rp K g H v w) (i : Nat) : Sr K g H (s.set i (some v)) (σ.set i (some w)) := by
  refine ⟨by simp [r.len], fun j u h => ?_⟩
  by_cases hj : i = j
  · subst hj
    by_cases hi : i < s.length
    · rw [List.getElem?_set_self hi] at h
      cases h
      exact ⟨w, List.getElem?_set_self (by rw [← r.len]; exact hi), a⟩
    · rw [List.getElem?_eq_none (by simpa using hi)] at h; cases h
  · rw [List.getElem?_set_ne hj] at h
    rw [List.getElem?_set_ne hj]
    exact r.at_ j u h
theorem Sr.unset (r : Sr K g H s σ) (i : Nat) : Sr K g H (s.set i none) (σ.set i none) := by
  refine ⟨by simp [r.len], fun j u h => ?_⟩
  by_cases hj : i = j
  · subst hj
    by_cases hi : i < s.length
    · rw [List.getElem?_set_self hi] at h; cases h
    · rw [List.getElem?_eq_none (by simpa using hi)] at h; cases h
  · rw [List.getElem?_set_ne hj] at h
    rw [List.getElem?_set_ne hj]
    exact r.at_ j u h
theorem Sr.wipe (r : Sr K g H s σ) : ∀ vs : List Nat, Sr K g H (wipe s vs) (L2.wipe σ vs)
  | [] => r
  | v :: vs => (Sr.wipe r vs).unset v
end

/-! ### results -/
abbrev XC := Exn → Mm → Gh → Hp → Prop
def QR (K : PySem.W.Frag) (Ξ : XC) (g : Gh) (H : Hp) {α : Type} (P : α → Prop) : Rs α → Prop
  | .ok a => P a
  | .ex e m => ∀ g' H', Ext g H g' H' → Emb K g' m H' → Ξ e m g' H'
  | .no => False
section
variable {K : PySem.W.Frag} {Ξ : XC} {g g' : Gh} {H H' : Hp}
theorem QR.bind {α β : Type} {r : Rs α} {k : α → Rs β} {P : β → Prop} {P' : α → Prop} (h : QR K Ξ g H P (r.bind k)) (f : ∀ a, r = .ok a → QR K Ξ g H P (k a) → P' a) : QR K Ξ g H P' r := by
  cases r with
  | ok a => exact f a rfl h
  | ex e m => exact h
  | no => exact h
theorem QR.imp {α : Type} {r : Rs α} {P P' : α → Prop} (h : QR K Ξ g H P r) (f : ∀ a, r = .ok a → P a → P' a) : QR K Ξ g H P' r := by
  cases r with
  | ok a => exact f a rfl h
  | ex e m => exact h
  | no => exact h
theorem QR.bindAt {α β : Type} {r : Rs α} {k : α → Rs β} {P : β → Prop} {P' : α → Prop} (x : Ext g H g' H') (h : QR K Ξ g H P (r.bind k)) (f : ∀ a, r = .ok a → QR K Ξ g H P (k a) → P' a) : QR K Ξ g' H' P' r := by
  cases r with
  | ok a => exact f a rfl h
  | ex e m => exact fun g2 H2 x2 e2 => h g2 H2 (x.trans x2) e2
  | no => exact h
theorem QR.later {α : Type} {r : Rs α} {P P' : α → Prop} (x : Ext g H g' H') (h : QR K Ξ g H P r) (f : ∀ a, P a → P' a) : QR K Ξ g' H' P' r := by
  cases r with
  | ok a => exact f a h
  | ex e m => exact fun g2 H2 x2 e2 => h g2 H2 (x.trans x2) e2
  | no => exact h
end
abbrev PEnd (K : PySem.W.Frag) (g : Gh) (H : Hp) (Q : VK) : PV × Mm → Prop := fun p => ∀ g' H' V, Ext g H g' H' → Emb K g' p.2 H' → Rp K g' H' p.1 V → Q V H'
abbrev PEndA (K : PySem.W.Frag) (g : Gh) (H : Hp) (Q : List V → Hp → Prop) : List PV × Mm → Prop := fun p => ∀ g' H' V, Ext g H g' H' → Emb K g' p.2 H' → Rps K g' H' p.1 V → Q V H'
abbrev PEndT (K : PySem.W.Frag) (g : Gh) (H : Hp) (Q : Bool → Hp → Prop) : Bool × Mm → Prop := fun p => ∀ g' H', Ext g H g' H' → Emb K g' p.2 H' → Q p.1 H'
def FlOk (K : PySem.W.Frag) (g : Gh) (H : Hp) (D : Ends) (σ : L2.St) : Fl → Prop
  | .nx => D.nx σ H
  | .bk => D.bk σ H
  | .ct => D.ct σ H
  | .rt v => ∀ V, Rp K g H v V → D.rt V H
abbrev PEndS (K : PySem.W.Frag) (g : Gh) (H : Hp) (D : Ends) : Fl × Sl × Mm → Prop := fun p => ∀ g' H' σ', Ext g H g' H' → Emb K g' p.2.2 H' → Sr K g' H' p.2.1 σ' → FlOk K g' H' D σ' p.1
abbrev QE (K : PySem.W.Frag) (Ξ : XC) (g : Gh) (H : Hp) (Q : VK) (r : Rs (PV × Mm)) : Prop := QR K Ξ g H (PEnd K g H Q) r
abbrev QA (K : PySem.W.Frag) (Ξ : XC) (g : Gh) (H : Hp) (Q : List V → Hp → Prop) (r : Rs (List PV × Mm)) : Prop := QR K Ξ g H (PEndA K g H Q) r
abbrev QT (K : PySem.W.Frag) (Ξ : XC) (g : Gh) (H : Hp) (Q : Bool → Hp → Prop) (r : Rs (Bool × Mm)) : Prop := QR K Ξ g H (PEndT K g H Q) r
abbrev QS (K : PySem.W.Frag) (Ξ : XC) (g : Gh) (H : Hp) (D : Ends) (r : Rs (Fl × Sl × Mm)) : Prop := QR K Ξ g H (PEndS K g H D) r
section
variable {K : PySem.W.Frag} {Ξ : XC} {g g' : Gh} {H H' : Hp}
theorem QE.later {Q : VK} {r : Rs (PV × Mm)} (x : Ext g H g' H') (h : QE K Ξ g H Q r) : QE K Ξ g' H' Q r := QR.later x h fun _ p g2 H2 V x2 => p g2 H2 V (x.trans x2)
theorem QA.later {Q : List V → Hp → Prop} {r : Rs (List PV × Mm)} (x : Ext g H g' H') (h : QA K Ξ g H Q r) : QA K Ξ g' H' Q r := QR.later x h fun _ p g2 H2 V x2 => p g2 H2 V (x.trans x2)
theorem QT.later {Q : Bool → Hp → Prop} {r : Rs (Bool × Mm)} (x : Ext g H g' H') (h : QT K Ξ g H Q r) : QT K Ξ g' H' Q r := QR.later x h fun _ p g2 H2 x2 => p g2 H2 (x.trans x2)
theorem QS.later {D : Ends} {r : Rs (Fl × Sl × Mm)} (x : Ext g H g' H') (h : QS K Ξ g H D r) : QS K Ξ g' H' D r := QR.later x h fun _ p g2 H2 V x2 => p g2 H2 V (x.trans x2)
end

/-! ### readings -/
def rdE (K : PySem.W.Frag) (Ξ : XC) (f : SE) : TE := fun σ H Q => ∃ g s m, Emb K g m H ∧ Sr K g H s σ ∧ QE K Ξ g H Q (f s m)
def rdA (K : PySem.W.Frag) (Ξ : XC) (f : SA) : TA := fun σ H Q => ∃ g s m, Emb K g m H ∧ Sr K g H s σ ∧ QA K Ξ g H Q (f s m)
def rdT (K : PySem.W.Frag) (Ξ : XC) (f : ST) : TT := fun σ H Q => ∃ g s m, Emb K g m H ∧ Sr K g H s σ ∧ QT K Ξ g H Q (f s m)
def rdS (K : PySem.W.Frag) (Ξ : XC) (f : SS) : TS := fun D σ H => ∃ g s m, Emb K g m H ∧ Sr K g H s σ ∧ QS K Ξ g H D (f s m)
/-- by values -/
def rd1 (K : PySem.W.Frag) (Ξ : XC) (f : O1) : V → Hp → VK → Prop := fun x H Q => ∃ g m a, Emb K g m H ∧ Rp K g H a x ∧ QE K Ξ g H Q (f a m)
def rd2 (K : PySem.W.Frag) (Ξ : XC) (f : O2) : R2 := fun x y H Q => ∃ g m a b, Emb K g m H ∧ Rp K g H a x ∧ Rp K g H b y ∧ QE K Ξ g H Q (f a b m)
def rdN (K : PySem.W.Frag) (Ξ : XC) (f : ON) : List V → Hp → VK → Prop := fun xs H Q => ∃ g m as, Emb K g m H ∧ Rps K g H as xs ∧ QE K Ξ g H Q (f as m)

theorem PE_imp {X : Cx} {e : Expr} {t t' : TE} (h : PE X e t) (f : ∀ σ H Q, t' σ H Q → t σ H Q) : PE X e t' := ⟨fun pins s σ H Q I q => h.run pins s σ H Q I (f σ H Q q)⟩
theorem PT_imp {X : Cx} {e : Expr} {t t' : TT} (h : PT X e t) (f : ∀ σ H Q, t' σ H Q → t σ H Q) : PT X e t' := ⟨fun pins s σ H Q I q => h.run pins s σ H Q I (f σ H Q q)⟩
theorem PW_imp {X : Cx} {e : Expr} {t t' : TT} (h : PW X e t) (f : ∀ σ H Q, t' σ H Q → t σ H Q) : PW X e t' := ⟨fun wh pins s σ H Q I q => h.run wh pins s σ H Q I (f σ H Q q)⟩
theorem PA_imp {X : Cx} {e : List Expr} {t t' : TA} (h : PA X e t) (f : ∀ σ H Q, t' σ H Q → t σ H Q) : PA X e t' := ⟨fun pos pins s σ H Q I q => h.run pos pins s σ H Q I (f σ H Q q)⟩
theorem PS_imp {X : Cx} {e : Stmt} {t t' : TS} (h : PS X e t) (f : ∀ D σ H, t' D σ H → t D σ H) : PS X e t' := ⟨fun pins s σ H D I q => h.run pins s σ H D I (f D σ H q)⟩
theorem PSs_imp {X : Cx} {e : List Stmt} {t t' : TS} (h : PSs X e t) (f : ∀ D σ H, t' D σ H → t D σ H) : PSs X e t' := ⟨fun pins s σ H D I q => h.run pins s σ H D I (f D σ H q)⟩
theorem PG_imp {X : Cx} {e : Expr} {t t' : TG} (h : PG X e t) (f : ∀ v σ H Q, t' v σ H Q → t v σ H Q) : PG X e t' := ⟨fun pins s σ H v u Q I r q => h.run pins s σ H v u Q I r (f v σ H Q q)⟩
theorem OpR_imp {X : Cx} {f : Value → Value → Sem Value} {r r' : R2} (h : OpR X f r) (i : ∀ x y H Q, r' x y H Q → r x y H Q) : OpR X f r' := fun pins s σ H x y v u Q I rx ry q => h pins s σ H x y v u Q I rx ry (i _ _ _ _ q)
theorem CallR_imp {X : Cx} {f : Value} {r r' : List V → Hp → VK → Prop} (h : CallR X f r) (i : ∀ xs H Q, r' xs H Q → r xs H Q) : CallR X f r' := fun pins s σ H xs us Q I rx q => h pins s σ H xs us Q I rx (i _ _ _ q)
end TT
end

section
set_option Elab.async false
set_option linter.all false
set_option autoImplicit false
set_option maxRecDepth 100000
/-! TT: new objects, writes, operators by values -/
namespace TT
open PySem PySem.Spec PyProof.Rows L2

section
variable {K : PySem.W.Frag} {g g' : Gh} {m m' : Mm} {H H' : Hp}
/-! ### new objects, writes -/
theorem Ext.newTup {p : Addr} {o : HO} (hp : H p = none) (ht : ¬ ∃ n, g.φ n = some p) : Ext g H g (upd H p o) :=
  ⟨fun _ _ h => h, fun _ _ h => h, fun a u h _ _ => by rw [upd_ne (ne_of_none h hp)]; exact h, fun _ _ _ h _ => h, fun _ _ _ _ _ h => h, rfl⟩
theorem Emb.free (e : Emb K g m H) {p : Addr} (hp : H p = none) : ∀ n, g.φ n ≠ some p := fun n h => by
  obtain ⟨_, u, hu, _⟩ := e.dom n p h
  rw [hp] at hu; cases hu
theorem Emb.freeR (e : Emb K g m H) {p : Addr} (hp : H p = none) : g.ro p = none := by
  cases q : g.ro p with
  | none => rfl
  | some u =>
    have := (e.ro p u q).1
    rw [hp] at this; cases this
theorem Emb.new_tup (e : Emb K g m H) {p : Addr} {xs : List PV} {vs : List V} (hp : H p = none) (r : Rps K g H xs vs) :
    Ext g H g (upd H p (.tup vs)) ∧ Emb K g m (upd H p (.tup vs)) ∧ Rp K g (upd H p (.tup vs)) (.tup xs) (.ref p) := by
  have x : Ext g H g (upd H p (.tup vs)) := Ext.newTup hp fun ⟨n, h⟩ => e.free hp n h
  refine ⟨x, ⟨fun n o h => ?_, fun n a h => ?_, e.inj, fun a u h => ?_, e.nt, tabs_new e.tab hp⟩, .tup (.inl (.inl upd_same)) (r.ext e x)⟩
  · have q := e.obj n o h
    cases o with
    | lst ys =>
      obtain ⟨a, ws, h1, h2, h3⟩ := q
      exact ⟨a, ws, h1, by rw [upd_ne (ne_of_none h2 hp)]; exact h2, h3.ext e x⟩
    | dict ys =>
      obtain ⟨a, ws, h1, h2, h3⟩ := q
      exact ⟨a, ws, h1, by rw [upd_ne (ne_of_none h2 hp)]; exact h2, h3.ext e x⟩
    | dead => trivial
    | tab P l => exact q
  · obtain ⟨h1, u, h2, h3⟩ := e.dom n a h
    exact ⟨h1, u, by rw [upd_ne (ne_of_none h2 hp)]; exact h2, h3⟩
  · obtain ⟨h1, h2⟩ := e.ro a u h
    exact ⟨by rw [upd_ne (ne_of_none h1 hp)]; exact h1, h2⟩
def Gh.addR (g : Gh) (p : Addr) (o : HO) : Gh := ⟨g.φ, upd g.ro p o, g.T⟩
theorem nt_addR {g : Gh} {p : Addr} {vs : List V} (h : ∀ a u, g.ro a = some u → NT u) : ∀ a u, (g.addR p (.lst vs)).ro a = some u → NT u := fun a u z => by
  have z' : upd g.ro p (.lst vs) a = some u := z
  by_cases ha : a = p
  · subst ha; rw [upd_same] at z'; cases z'; exact fun ps z => nomatch z
  · rw [upd_ne ha] at z'; exact h a u z'
theorem Emb.new_vl (e : Emb K g m H) {p : Addr} {xs : List PV} {vs : List V} (hp : H p = none) (r : Rps K g H xs vs) :
    Ext g H (g.addR p (.lst vs)) (upd H p (.lst vs)) ∧ Emb K (g.addR p (.lst vs)) m (upd H p (.lst vs)) ∧ Rp K (g.addR p (.lst vs)) (upd H p (.lst vs)) (.vl xs) (.ref p) := by
  have x : Ext g H (g.addR p (.lst vs)) (upd H p (.lst vs)) :=
    ⟨fun _ _ h => h, fun a u h => by
      have : a ≠ p := fun z => by subst z; rw [e.freeR hp] at h; cases h
      show upd g.ro p _ a = some u
      rw [upd_ne this]; exact h, fun a u h _ _ => by rw [upd_ne (ne_of_none h hp)]; exact h, fun _ _ _ h _ => h, fun a u h _ _ hr => by
      show upd g.ro p _ a = none
      rw [upd_ne (ne_of_none h hp)]; exact hr, rfl⟩
  refine ⟨x, ⟨fun n o h => ?_, fun n a h => ?_, e.inj, fun a u h => ?_, nt_addR e.nt, tabs_new e.tab hp⟩, .vl upd_same (r.ext e x)⟩
  · have q := e.obj n o h
    cases o with
    | lst ys =>
      obtain ⟨a, ws, h1, h2, h3⟩ := q
      exact ⟨a, ws, h1, by rw [upd_ne (ne_of_none h2 hp)]; exact h2, h3.ext e x⟩
    | dict ys =>
      obtain ⟨a, ws, h1, h2, h3⟩ := q
      exact ⟨a, ws, h1, by rw [upd_ne (ne_of_none h2 hp)]; exact h2, h3.ext e x⟩
    | dead => trivial
    | tab P l => exact q
  · obtain ⟨h1, u, h2, h3⟩ := e.dom n a h
    exact ⟨h1, u, by rw [upd_ne (ne_of_none h2 hp)]; exact h2, h3⟩
  · by_cases ha : a = p
    · subst ha
      have h' : upd g.ro a (.lst vs) a = some u := h
      rw [upd_same] at h'; cases h'
      exact ⟨upd_same, fun n hn => (e.free hp n hn).elim⟩
    · have h' : upd g.ro p (.lst vs) a = some u := h
      rw [upd_ne ha] at h'
      obtain ⟨h1, h2⟩ := e.ro a u h'
      exact ⟨by rw [upd_ne ha]; exact h1, h2⟩
def Gh.addP (g : Gh) (k : Nat) (p : Addr) : Gh := ⟨fun n => if n = k then some p else g.φ n, g.ro, g.T⟩
theorem Emb.fresh_id (e : Emb K g m H) : g.φ m.length = none := by
  cases q : g.φ m.length with
  | none => rfl
  | some a => exact absurd (e.dom _ _ q).1 (Nat.lt_irrefl _)
theorem Emb.new_lst (e : Emb K g m H) {p : Addr} {xs : List PV} {vs : List V} (hp : H p = none) (r : Rps K g H xs vs) :
    Ext g H (g.addP m.length p) (upd H p (.lst vs)) ∧ Emb K (g.addP m.length p) (m ++ [.lst xs]) (upd H p (.lst vs)) ∧ Rp K (g.addP m.length p) (upd H p (.lst vs)) (.ref m.length) (.ref p) := by
  have x : Ext g H (g.addP m.length p) (upd H p (.lst vs)) :=
    ⟨fun n a h => by
      have : n ≠ m.length := fun z => by subst z; rw [e.fresh_id] at h; cases h
      show (if n = m.length then some p else g.φ n) = some a
      rw [if_neg this]; exact h, fun a u h => h, fun a u h _ _ => by rw [upd_ne (ne_of_none h hp)]; exact h, fun a u h hn _ n => by
      show (if n = m.length then some p else g.φ n) ≠ some a
      split
      · intro z; cases z; rw [hp] at h; cases h
      · exact hn n, fun _ _ _ _ _ h => h, rfl⟩
  refine ⟨x, ⟨fun n o h => ?_, fun n a h => ?_, fun n k a h1 h2 => ?_, fun a u h => ?_, e.nt, tabs_new e.tab hp⟩, .ref (by show (if m.length = m.length then some p else _) = _; rw [if_pos rfl])⟩
  · by_cases hn : n < m.length
    · rw [List.getElem?_append_left hn] at h
      have q := e.obj n o h
      cases o with
      | lst ys =>
        obtain ⟨a, ws, h1, h2, h3⟩ := q
        exact ⟨a, ws, x.phi _ _ h1, by rw [upd_ne (ne_of_none h2 hp)]; exact h2, h3.ext e x⟩
      | dict ys =>
        obtain ⟨a, ws, h1, h2, h3⟩ := q
        exact ⟨a, ws, x.phi _ _ h1, by rw [upd_ne (ne_of_none h2 hp)]; exact h2, h3.ext e x⟩
      | dead => trivial
      | tab P l => exact q
    · have hle : m.length ≤ n := Nat.le_of_not_lt hn
      rw [List.getElem?_append_right hle] at h
      have h0 : n - m.length = 0 := by
        cases hk : n - m.length with
        | zero => rfl
        | succ j => rw [hk] at h; simp at h
      rw [h0] at h
      have hnm : n = m.length := by omega
      simp at h
      subst h
      subst hnm
      exact ⟨p, vs, by show (if m.length = m.length then some p else _) = _; rw [if_pos rfl], upd_same, r.ext e x⟩
  · have h' : (if n = m.length then some p else g.φ n) = some a := h
    rw [List.length_append, List.length_singleton]
    split at h'
    · cases h'
      exact ⟨by omega, _, upd_same, trivial⟩
    · obtain ⟨h1, u, h2, h3⟩ := e.dom n a h'
      exact ⟨by omega, u, by rw [upd_ne (ne_of_none h2 hp)]; exact h2, h3⟩
  · have h1' : (if n = m.length then some p else g.φ n) = some a := h1
    have h2' : (if k = m.length then some p else g.φ k) = some a := h2
    split at h1' <;> split at h2'
    · omega
    · cases h1'; exact (e.free hp _ h2').elim
    · cases h2'; exact (e.free hp _ h1').elim
    · exact e.inj n k a h1' h2'
  · obtain ⟨h1, h2⟩ := e.ro a u h
    refine ⟨by rw [upd_ne (ne_of_none h1 hp)]; exact h1, fun n hn => ?_⟩
    have hn' : (if n = m.length then some p else g.φ n) = some a := hn
    split at hn'
    · cases hn'; rw [hp] at h1; cases h1
    · have q := h2 n hn'
      have : n < m.length := (e.dom n a hn').1
      rw [List.getElem?_append_left this]; exact q
/-- a list in the memory is written -/
theorem Emb.wr_lst (e : Emb K g m H) {n : Nat} {a : Addr} {xs ys : List PV} {ws : List V} (hm : m[n]? = some (.lst xs)) (ha : g.φ n = some a) (r : Rps K g H ys ws) :
    Ext g H g (upd H a (.lst ws)) ∧ Emb K g (m.set n (.lst ys)) (upd H a (.lst ws)) := by
  have x : Ext g H g (upd H a (.lst ws)) := ⟨fun _ _ h => h, fun _ _ h => h, fun b u h hb _ => by
    rw [upd_ne (fun z => hb n (by rw [z]; exact ha))]; exact h, fun _ _ _ h _ => h, fun _ _ _ _ _ h => h, rfl⟩
  have hlt : n < m.length := (List.getElem?_eq_some_iff.mp hm).1
  obtain ⟨a0, vs0, p1, p2, _⟩ := e.obj n _ hm
  rw [ha] at p1; cases p1
  refine ⟨x, fun k o h => ?_, fun k b h => ?_, e.inj, fun b u h => ?_, e.nt, tabs_wr e.tab p2 (fun ps z => nomatch z) (fun ps z => nomatch z)⟩
  · by_cases hk : n = k
    · subst hk
      rw [List.getElem?_set_self hlt] at h
      cases h
      exact ⟨a, ws, ha, upd_same, r.ext e x⟩
    · rw [List.getElem?_set_ne hk] at h
      have q := e.obj k o h
      cases o with
      | lst zs =>
        obtain ⟨b, us, h1, h2, h3⟩ := q
        refine ⟨b, us, h1, ?_, h3.ext e x⟩
        rw [upd_ne (fun z => hk (e.inj n k a ha (by rw [← z]; exact h1)))]
        exact h2
      | dict zs =>
        obtain ⟨b, us, h1, h2, h3⟩ := q
        refine ⟨b, us, h1, ?_, h3.ext e x⟩
        rw [upd_ne (fun z => hk (e.inj n k a ha (by rw [← z]; exact h1)))]
        exact h2
      | dead => trivial
      | tab P l => exact q
  · obtain ⟨h1, u, h2, h3⟩ := e.dom k b h
    rw [List.length_set]
    by_cases hb : b = a
    · subst hb; exact ⟨h1, _, upd_same, trivial⟩
    · exact ⟨h1, u, by rw [upd_ne hb]; exact h2, h3⟩
  · obtain ⟨h1, h2⟩ := e.ro b u h
    have hb : b ≠ a := fun z => by
      subst z
      have := h2 n ha
      rw [hm] at this; cases this
    refine ⟨by rw [upd_ne hb]; exact h1, fun k hk => ?_⟩
    have q := h2 k hk
    have hkn : n ≠ k := fun z => by subst z; rw [hm] at q; cases q
    rw [List.getElem?_set_ne hkn]; exact q
/-- a list in the memory becomes a value -/
theorem Emb.freeze (e : Emb K g m H) {n : Nat} {a : Addr} {xs : List PV} (hm : m[n]? = some (.lst xs)) (ha : g.φ n = some a) :
    ∃ g', Ext g H g' H ∧ Emb K g' (m.set n .dead) H ∧ Rp K g' H (.vl xs) (.ref a) := by
  obtain ⟨a', vs, h1, h2, h3⟩ := e.obj n _ hm
  rw [ha] at h1; cases h1
  have hlt : n < m.length := (List.getElem?_eq_some_iff.mp hm).1
  have hro : g.ro a = none := by
    cases q : g.ro a with
    | none => rfl
    | some u =>
      have := (e.ro a u q).2 n ha
      rw [hm] at this; cases this
  have x : Ext g H (g.addR a (.lst vs)) H := ⟨fun _ _ h => h, fun b u h => by
    have : b ≠ a := fun z => by subst z; rw [hro] at h; cases h
    show upd g.ro a _ b = some u
    rw [upd_ne this]; exact h, fun _ _ h _ _ => h, fun _ _ _ h _ => h, fun b u h hb _ hr => by
    show upd g.ro a _ b = none
    rw [upd_ne (fun z => hb n (by rw [z]; exact ha))]; exact hr, rfl⟩
  refine ⟨g.addR a (.lst vs), x, ⟨fun k o h => ?_, fun k b h => ?_, e.inj, fun b u h => ?_, nt_addR e.nt, e.tab⟩, .vl upd_same (h3.ext e x)⟩
  · by_cases hk : n = k
    · subst hk
      rw [List.getElem?_set_self hlt] at h
      cases h; trivial
    · rw [List.getElem?_set_ne hk] at h
      have q := e.obj k o h
      cases o with
      | lst zs =>
        obtain ⟨b, us, q1, q2, q3⟩ := q
        exact ⟨b, us, q1, q2, q3.ext e x⟩
      | dict zs =>
        obtain ⟨b, us, q1, q2, q3⟩ := q
        exact ⟨b, us, q1, q2, q3.ext e x⟩
      | dead => trivial
      | tab P l => exact q
  · obtain ⟨q1, q2⟩ := e.dom k b h
    exact ⟨by rw [List.length_set]; exact q1, q2⟩
  · have h' : upd g.ro a (.lst vs) b = some u := h
    by_cases hb : b = a
    · subst hb
      rw [upd_same] at h'; cases h'
      refine ⟨h2, fun k hk => ?_⟩
      have : k = n := e.inj k n b hk ha
      subst this
      exact List.getElem?_set_self hlt
    · rw [upd_ne hb] at h'
      obtain ⟨q1, q2⟩ := e.ro b u h'
      refine ⟨q1, fun k hk => ?_⟩
      have q := q2 k hk
      by_cases hkn : n = k
      · subst hkn; exact List.getElem?_set_self hlt
      · rw [List.getElem?_set_ne hkn]; exact q
end

/-! ### ends -/
section
variable {K : PySem.W.Frag} {Ξ : XC} {g g' : Gh} {m m' : Mm} {H H' : Hp} {Q : VK}
theorem QE.ret {v : PV} {w : V} (e : Emb K g m H) (r : Rp K g H v w) (h : QE K Ξ g H Q (.ok (v, m))) : Q w H := h g H w (Ext.refl _ _) e r
theorem QE.newT {xs : List PV} {vs : List V} (e : Emb K g m H) (r : Rps K g H xs vs) (h : QE K Ξ g H Q (.ok (.tup xs, m))) {p : Addr} (hp : H p = none) : Q (.ref p) (upd H p (.tup vs)) :=
  let ⟨a, b, c⟩ := e.new_tup hp r; h _ _ _ a b c
theorem QE.newL {xs : List PV} {vs : List V} (e : Emb K g m H) (r : Rps K g H xs vs) (h : QE K Ξ g H Q (.ok (.vl xs, m))) {p : Addr} (hp : H p = none) : Q (.ref p) (upd H p (.lst vs)) :=
  let ⟨a, b, c⟩ := e.new_vl hp r; h _ _ _ a b c
theorem QE.newM {xs : List PV} {vs : List V} (e : Emb K g m H) (r : Rps K g H xs vs) (h : QE K Ξ g H Q (.ok (.ref m.length, m ++ [.lst xs]))) {p : Addr} (hp : H p = none) : Q (.ref p) (upd H p (.lst vs)) :=
  let ⟨a, b, c⟩ := e.new_lst hp r; h _ _ _ a b c
end
theorem line_le {n : Nat} (h : n ≤ LINE) : n ≤ sizeLine := Nat.le_trans h (by rw [sizeLine_eq]; decide)
theorem line_lt {n : Nat} (h : n < LINE) : n < sizeLine := Nat.lt_of_lt_of_le h (by rw [sizeLine_eq]; decide)

/-! ### operators -/
section
variable {X : Cx} {Ξ : XC}
theorem op_tAdd : OpR X (binaryOp .Add) (rd2 X.K Ξ oAdd) := by
  have h := ((op_add (X := X)).or (op_add_str.or (op_catA.or op_cat)))
  refine OpR_imp h fun x y H Q ⟨g, m, a, b, e, ra, rb, q⟩ => ?_
  unfold oAdd at q
  split at q
  · rename_i i j h1 h2
    rw [look1_int h1] at ra
    rw [look1_int h2] at rb
    cases ra.int_inv; cases rb.int_inv
    exact .inl ⟨i, j, rfl, rfl, QE.ret e (.int _) q⟩
  · rename_i xs ys h1 h2
    obtain ⟨a1, vs, rfl, ha, r1⟩ := e.look ra h1
    obtain ⟨b1, ws, rfl, hb, r2⟩ := e.look rb h2
    split at q
    · rename_i hl
      exact .inr (.inr (.inr ⟨a1, b1, vs, ws, rfl, rfl, ha, hb, by rw [← r1.length, ← r2.length]; exact line_le hl, fun p hp => QE.newL e (r1.append r2) q hp⟩))
    · exact q.elim
  · rename_i xs ys h1 h2
    rw [look1_str h1] at ra
    rw [look1_str h2] at rb
    cases ra.str_inv; cases rb.str_inv
    split at q
    · rename_i hl
      refine .inr (.inl ⟨_, _, rfl, rfl, ?_, ?_⟩)
      · show xs.toArray.size + ys.toArray.size ≤ sizeLine
        simpa using line_le hl
      · have := QE.ret e (.str (xs ++ ys)) q
        have ee : (⟨xs.toArray⟩ : Str) ++ (⟨ys.toArray⟩ : Str) = ⟨(xs ++ ys).toArray⟩ := by
          show Str.append _ _ = _
          unfold Str.append
          simp
        rw [ee]; exact this
    · exact q.elim
  · rename_i xs ys h1 h2
    rw [look1_tup h1] at ra
    rw [look1_tup h2] at rb
    obtain ⟨a1, vs, rfl, ha, r1⟩ := ra.tup_inv
    obtain ⟨b1, ws, rfl, hb, r2⟩ := rb.tup_inv
    split at q
    · rename_i hl
      refine .inr (.inr (.inl ⟨a1, b1, vs, ws, rfl, rfl, ha, hb, by rw [← r1.length, ← r2.length]; exact line_le hl, fun z => ?_, fun _ z => ?_, fun _ _ p hp => QE.newT e (r1.append r2) q hp⟩))
      · subst z
        cases r1
        exact QE.ret e (.tup hb r2) q
      · subst z
        cases r2
        rw [List.append_nil] at q
        exact QE.ret e (.tup ha r1) q
    · exact q.elim
  · exact q.elim
theorem op_tSub : OpR X (binaryOp .Sub) (rd2 X.K Ξ oSub) := by
  refine OpR_imp op_sub fun x y H Q ⟨g, m, a, b, e, ra, rb, q⟩ => ?_
  unfold oSub at q
  split at q
  · cases ra.int_inv; cases rb.int_inv
    exact ⟨_, _, rfl, rfl, QE.ret e (.int _) q⟩
  · exact q.elim
theorem op_tFDiv : OpR X (binaryOp .FloorDiv) (rd2 X.K Ξ oFDiv) := by
  refine OpR_imp op_fdiv fun x y H Q ⟨g, m, a, b, e, ra, rb, q⟩ => ?_
  unfold oFDiv at q
  split at q
  · cases ra.int_inv; cases rb.int_inv
    split at q
    · rename_i hc
      simp only [Bool.and_eq_true, decide_eq_true_eq] at hc
      exact ⟨_, _, rfl, rfl, hc, QE.ret e (.int _) q⟩
    · exact q.elim
  · exact q.elim
theorem op_tMod : OpR X (binaryOp .Mod) (rd2 X.K Ξ oMod) := by
  refine OpR_imp op_mod fun x y H Q ⟨g, m, a, b, e, ra, rb, q⟩ => ?_
  unfold oMod at q
  split at q
  · cases ra.int_inv; cases rb.int_inv
    split at q
    · rename_i hc
      simp only [decide_eq_true_eq] at hc
      exact ⟨_, _, rfl, rfl, hc, QE.ret e (.int _) q⟩
    · exact q.elim
  · exact q.elim
theorem op_tPow : OpR X (binaryOp .Pow) (rd2 X.K Ξ oPow) := by
  refine OpR_imp op_pow fun x y H Q ⟨g, m, a, b, e, ra, rb, q⟩ => ?_
  unfold oPow at q
  split at q
  · cases ra.int_inv; cases rb.int_inv
    split at q
    · rename_i hc
      simp only [Bool.and_eq_true, decide_eq_true_eq] at hc
      exact ⟨_, _, rfl, rfl, ⟨hc.1.1, by omega, hc.2⟩, QE.ret e (.int _) q⟩
    · exact q.elim
  · exact q.elim
theorem op_tCmp {op : CmpOp} {p : Int → Int → Bool} (h : OpR X (compareOp op) (rI0 fun i j => .bl (p i j))) : OpR X (compareOp op) (rd2 X.K Ξ (oCmp p)) := by
  refine OpR_imp h fun x y H Q ⟨g, m, a, b, e, ra, rb, q⟩ => ?_
  unfold oCmp at q
  split at q
  · cases ra.int_inv; cases rb.int_inv
    exact ⟨_, _, rfl, rfl, QE.ret e (.bl _) q⟩
  · exact q.elim
theorem op_tLt : OpR X (compareOp .Lt) (rd2 X.K Ξ oLt) := op_tCmp op_lt
theorem op_tLe : OpR X (compareOp .LtE) (rd2 X.K Ξ oLe) := op_tCmp op_le
theorem op_tGt : OpR X (compareOp .Gt) (rd2 X.K Ξ oGt) := op_tCmp op_gt
theorem op_tGe : OpR X (compareOp .GtE) (rd2 X.K Ξ oGe) := op_tCmp op_ge
end
end TT
end

section
set_option Elab.async false
set_option linter.all false
set_option autoImplicit false
set_option maxRecDepth 100000
/-! TT: * of tuples and lists by any small number -/
namespace TT
open PySem PySem.Spec PyProof.Rows L2
set_option maxHeartbeats 4000000
theorem tuple_mulS (l : Addr) (items : Array Value) (n : Nat) (dd : Option Addr) (sl : Array (Option Value)) (x : Int) (u : Tok) (c0 : (decide (x < -(2 ^ 63)) || decide (x ≥ 2 ^ 63)) = false) (c1 : (items.isEmpty || x == 1) = true) :
    Meets (Builtin.«tuple.__mul__» ⟨[.ref l, .int x u], []⟩) (fun _ R s => s.heap.get? l = some { cls := .type "tuple", dict := dd, data := .seq items n, slots := sl } ∧
      R (.ok (.ret (Value.ref l))) s) :=
  .of_wp fun prog w A R s h => by
    obtain ⟨hp, g, d, tk, os⟩ := s
    obtain ⟨hl, h⟩ := h
    have f1 := AutoSeq1.idx_int
    wp_walk using wpAny_loadPart' hl
    repeat (first
      | (refine wpAny_ite_false (decide_eq_false (by rw [c0]; exact Bool.false_ne_true)) ?_; wp_walk using wpAny_loadPart' hl)
      | (refine wpAny_ite_true (decide_eq_true c1) ?_; wp_walk using wpAny_loadPart' hl))
    exact ⟨_, rfl, h⟩
theorem tuple_mulZ (l : Addr) (items : Array Value) (n : Nat) (dd : Option Addr) (sl : Array (Option Value)) (x : Int) (u : Tok) (c0 : (decide (x < -(2 ^ 63)) || decide (x ≥ 2 ^ 63)) = false) (c1 : (items.isEmpty || x == 1) = false) (c2 : (decide (x ≤ 0) || items.isEmpty) = true) :
    Meets (Builtin.«tuple.__mul__» ⟨[.ref l, .int x u], []⟩) (fun _ R s => s.heap.get? l = some { cls := .type "tuple", dict := dd, data := .seq items n, slots := sl } ∧
      R (.ok (.ret (Value.ref s.heap.objs.size))) { s with heap := s.heap.push { cls := Value.type "tuple", data := Data.seq #[] }, toks := s.toks }) :=
  .of_wp fun prog w A R s h => by
    obtain ⟨hp, g, d, tk, os⟩ := s
    obtain ⟨hl, h⟩ := h
    have f1 := AutoSeq1.idx_int
    wp_walk using wpAny_loadPart' hl
    repeat (first
      | (refine wpAny_ite_false (decide_eq_false (by rw [c0]; exact Bool.false_ne_true)) ?_; wp_walk using wpAny_loadPart' hl)
      | (refine wpAny_ite_false (decide_eq_false (by rw [c1]; exact Bool.false_ne_true)) ?_; wp_walk using wpAny_loadPart' hl)
      | (refine wpAny_ite_true (decide_eq_true c2) ?_; wp_walk using wpAny_loadPart' hl))
    exact ⟨_, rfl, h⟩
section
variable {X : Cx} {Ξ : XC}
theorem op_repS : OpR X (binaryOp .Mult) (fun x y H Q => ∃ l k xs, x = .ref l ∧ y = .int k ∧ SqT X.K H l xs ∧ -1000 ≤ k ∧ k ≤ 1000 ∧ (xs = [] ∨ k = 1) ∧ Q (.ref l) H) := by
  intro pins s σ H x y v u Q I rx ry h
  obtain ⟨l, k, xs, rfl, rfl, hT, h1, h2, hc, q⟩ := h
  cases rx
  obtain ⟨t, rfl⟩ := ry
  obtain ⟨its, r, ⟨⟨cls, dd, data, sl⟩, ho, hc', n, hd⟩, hs⟩ := I.tuple hT
  simp only at hc' hd
  subst hc' hd
  have c0 : (decide (k < -(2 ^ 63)) || decide (k ≥ 2 ^ 63)) = false := by
    rw [decide_eq_false (by omega), decide_eq_false (by omega)] <;> rfl
  have c1 : (its.toArray.isEmpty || k == 1) = true := by
    rcases hc with hc | hc
    · subst hc
      have := r.length
      have e : its = [] := List.eq_nil_of_length_eq_zero this.symm
      subst e; rfl
    · subst hc; simp
  exact wpAny_binaryOp_repeat_ref (T := "tuple") (U := "int") (by decide) ⟨_, ho, rfl⟩ (fun s' => typeIs_int s' k t) noFill_tuple_mul F.fills_int_mul F.slot_int_rmul repeat_tuple F.slot_int_index.lookup
    (call_meets F.slot_int_rmul (typeIs_int s k t) F.entry_int_rmul (F.args_int_rmul_2 _ _) (int_rmul_tuple k t l its.toArray n dd sl)
      ⟨ho, rfl, ⟨_, ho, rfl⟩, call_meets F.slot_tuple_mul ⟨_, ho, rfl⟩ F.entry_tuple_mul (F.args_tuple_mul_2 _ _) (tuple_mulS l its.toArray n dd sl k t c0 c1) ⟨ho, ⟨.ref l, H, I, rfl, q⟩⟩⟩)
theorem op_repZ : OpR X (binaryOp .Mult) (fun x y H Q => ∃ l k xs, x = .ref l ∧ y = .int k ∧ SqT X.K H l xs ∧ xs ≠ [] ∧ -1000 ≤ k ∧ k ≤ 0 ∧ ∀ p, H p = none → Q (.ref p) (upd H p (.tup []))) := by
  intro pins s σ H x y v u Q I rx ry h
  obtain ⟨l, k, xs, rfl, rfl, hT, hne, h1, h2, q⟩ := h
  cases rx
  obtain ⟨t, rfl⟩ := ry
  obtain ⟨its, r, ⟨⟨cls, dd, data, sl⟩, ho, hc', n, hd⟩, hs⟩ := I.tuple hT
  simp only at hc' hd
  subst hc' hd
  have hi : its.toArray.isEmpty = false := by
    cases its with
    | nil => exact absurd (List.eq_nil_of_length_eq_zero r.length) hne
    | cons a b => rfl
  have c0 : (decide (k < -(2 ^ 63)) || decide (k ≥ 2 ^ 63)) = false := by
    rw [decide_eq_false (by omega), decide_eq_false (by omega)] <;> rfl
  have c1 : (its.toArray.isEmpty || k == 1) = false := by
    rw [hi, Bool.false_or]
    exact beq_eq_false_iff_ne.mpr (by omega)
  have c2 : (decide (k ≤ 0) || its.toArray.isEmpty) = true := by
    rw [decide_eq_true h2]; rfl
  exact wpAny_binaryOp_repeat_ref (T := "tuple") (U := "int") (by decide) ⟨_, ho, rfl⟩ (fun s' => typeIs_int s' k t) noFill_tuple_mul F.fills_int_mul F.slot_int_rmul repeat_tuple F.slot_int_index.lookup
    (call_meets F.slot_int_rmul (typeIs_int s k t) F.entry_int_rmul (F.args_int_rmul_2 _ _) (int_rmul_tuple k t l its.toArray n dd sl)
      ⟨ho, rfl, ⟨_, ho, rfl⟩, call_meets F.slot_tuple_mul ⟨_, ho, rfl⟩ F.entry_tuple_mul (F.args_tuple_mul_2 _ _) (tuple_mulZ l its.toArray n dd sl k t c0 c1 c2) ⟨ho, by
        refine ⟨.ref s.heap.objs.size, _, I.laid (t' := s.toks) (o := .tup []) (fun b ob q => Heap.get?_push_of_some _ q) (Nat.le_refl _) ?_, rfl, q _ (I.hok.fresh (Nat.le_refl _))⟩
        exact ⟨Nat.zero_le _, [], .nil, IsTup.new _ _⟩⟩⟩)
theorem op_tMul : OpR X (binaryOp .Mult) (rd2 X.K Ξ oMul) := by
  have h := ((op_mul (X := X)).or (op_rep.or (op_repT.or (op_repS.or op_repZ))))
  refine OpR_imp h fun x y H Q ⟨g, m, a, b, e, ra, rb, q⟩ => ?_
  unfold oMul at q
  split at q
  · rename_i i j h1
    rw [look1_int h1] at ra
    cases ra.int_inv; cases rb.int_inv
    split at q
    · rename_i hc
      refine .inl ⟨i, j, rfl, rfl, ?_, QE.ret e (.int _) q⟩
      simp only [within64, Bool.or_eq_true, Bool.and_eq_true, decide_eq_true_eq] at hc
      exact hc
    · exact q.elim
  · rename_i xs k h1
    obtain ⟨a1, vs, rfl, ha, r1⟩ := e.look ra h1
    cases rb.int_inv
    split at q
    · rename_i hc
      simp only [Bool.and_eq_true, decide_eq_true_eq] at hc
      obtain ⟨⟨c1, c2⟩, c3⟩ := hc
      refine .inr (.inl ⟨a1, k, vs, rfl, rfl, ha, by omega, by omega, ?_, fun p hp => QE.newL e (r1.rep k.toNat) q hp⟩)
      rw [← r1.length, sizeLine_eq]
      have : xs.length * k.toNat ≤ 1000 * 1000 := Nat.mul_le_mul c3 (by omega)
      omega
    · exact q.elim
  · rename_i xs k h1
    rw [look1_tup h1] at ra
    obtain ⟨a1, vs, rfl, ha, r1⟩ := ra.tup_inv
    cases rb.int_inv
    split at q
    · rename_i hc
      simp only [Bool.and_eq_true, decide_eq_true_eq] at hc
      obtain ⟨⟨c1, c2⟩, c3⟩ := hc
      by_cases hs : vs = [] ∨ k = 1
      · refine .inr (.inr (.inr (.inl ⟨a1, k, vs, rfl, rfl, ha, c2, c1, hs, ?_⟩)))
        have : rep xs k = xs := by
          unfold rep
          rcases hs with hs | hs
          · subst hs
            cases r1
            simp
          · subst hs
            simp
        rw [this] at q
        exact QE.ret e (.tup ha r1) q
      · have hne : vs ≠ [] := fun z => hs (.inl z)
        have hk : k ≠ 1 := fun z => hs (.inr z)
        by_cases h0 : k ≤ 0
        · refine .inr (.inr (.inr (.inr ⟨a1, k, vs, rfl, rfl, ha, hne, c2, h0, fun p hp => ?_⟩)))
          have hz : k.toNat = 0 := by omega
          have : rep xs k = [] := by unfold rep; rw [hz]; rfl
          rw [this] at q
          exact QE.newT e .nil q hp
        · refine .inr (.inr (.inl ⟨a1, k, vs, rfl, rfl, ha, hne, by omega, c1, by rw [← r1.length]; exact c3, fun p hp => QE.newT e (r1.rep k.toNat) q hp⟩))
    · exact q.elim
  · exact q.elim
end
end TT
end

section
set_option Elab.async false
set_option linter.all false
set_option autoImplicit false
set_option maxRecDepth 100000
/-! TT: ==, !=, in, is -/
namespace TT
open PySem PySem.Spec PyProof.Rows L2
mutual
def toD : PV → PyData
  | .non => .none
  | .bl b => .bool b
  | .int i => .int i
  | .str l => .str ⟨l.toArray⟩
  | .tup xs => .tuple (toDs xs)
  | .vl xs => .list (toDs xs)
  | _ => .none
def toDs : List PV → List PyData
  | [] => []
  | x :: xs => toD x :: toDs xs
end
theorem strEq (x y : List Nat) : ((⟨x.toArray⟩ : Str) == (⟨y.toArray⟩ : Str)) = (x == y) := by
  have a : ((⟨x.toArray⟩ : Str) = ⟨y.toArray⟩) ↔ x = y := by
    constructor
    · intro h
      have := congrArg (fun z : Str => z.cps.toList) h
      simpa using this
    · intro h; rw [h]
  rw [Bool.eq_iff_iff, beq_iff_eq, beq_iff_eq]
  exact a
mutual
theorem eqvD : ∀ (a b : PV) (n k : Nat), a.sh n = true → b.sh k = true → PV.eqv a b = PyData.eqv (toD a) (toD b)
  | .non, b, n, k, _, hb => by cases b <;> first | rfl | (unfold PV.sh at hb; cases k <;> cases hb)
  | .bl x, b, n, k, _, hb => by cases b <;> first | rfl | (unfold PV.sh at hb; cases k <;> cases hb)
  | .int x, b, n, k, _, hb => by cases b <;> first | rfl | (unfold PV.sh at hb; cases k <;> cases hb)
  | .str x, b, n, k, _, hb => by
    cases b with
    | str y => simp only [PV.eqv, toD, PyData.eqv]; exact (strEq x y).symm
    | _ => first | rfl | (unfold PV.sh at hb; cases k <;> cases hb)
  | .tup xs, b, n, k, ha, hb => by
    cases n with
    | zero => cases ha
    | succ n =>
    cases b with
    | tup ys =>
      cases k with
      | zero => cases hb
      | succ k =>
        simp only [PV.eqv, toD, PyData.eqv]
        exact eqvDs xs ys n k (by simpa only [PV.sh] using ha) (by simpa only [PV.sh] using hb)
    | _ => first | rfl | (unfold PV.sh at hb; cases k <;> cases hb)
  | .vl xs, b, n, k, ha, hb => by
    cases n with
    | zero => cases ha
    | succ n =>
    cases b with
    | vl ys =>
      cases k with
      | zero => cases hb
      | succ k =>
        simp only [PV.eqv, toD, PyData.eqv]
        exact eqvDs xs ys n k (by simpa only [PV.sh] using ha) (by simpa only [PV.sh] using hb)
    | _ => first | rfl | (unfold PV.sh at hb; cases k <;> cases hb)
  | .fz _, _, n, _, ha, _ => by cases n <;> cases ha
  | .vd _, _, n, _, ha, _ => by cases n <;> cases ha
  | .ref _, _, n, _, ha, _ => by cases n <;> cases ha
  | .fn _, _, n, _, ha, _ => by cases n <;> cases ha
theorem eqvDs : ∀ (a b : List PV) (n k : Nat), a.all (PV.sh n) = true → b.all (PV.sh k) = true → PV.eqvs a b = PyData.eqvAll (toDs a) (toDs b)
  | [], [], _, _, _, _ => rfl
  | [], _ :: _, _, _, _, _ => rfl
  | _ :: _, [], _, _, _, _ => rfl
  | x :: xs, y :: ys, n, k, ha, hb => by
    simp only [List.all_cons, Bool.and_eq_true] at ha hb
    simp only [PV.eqvs, toDs, PyData.eqvAll]
    rw [eqvD x y n k ha.1 hb.1, eqvDs xs ys n k ha.2 hb.2]
end
mutual
theorem plainD : ∀ (a : PV), (toD a).plain = true
  | .non => rfl
  | .bl _ => rfl
  | .int _ => rfl
  | .str _ => rfl
  | .tup xs => by simp only [toD, PyData.plain]; exact plainDs xs
  | .vl xs => by simp only [toD, PyData.plain]; exact plainDs xs
  | .fz _ => rfl
  | .vd _ => rfl
  | .ref _ => rfl
  | .fn _ => rfl
theorem plainDs : ∀ (a : List PV), PyData.plainAll (toDs a) = true
  | [] => rfl
  | x :: xs => by simp only [toDs, PyData.plainAll, plainD x, plainDs xs, Bool.and_self]
end
mutual
theorem depthD : ∀ (a : PV) (n : Nat), a.sh n = true → (toD a).depth ≤ n
  | .non, _, _ => Nat.zero_le _
  | .bl _, _, _ => Nat.zero_le _
  | .int _, _, _ => Nat.zero_le _
  | .str _, _, _ => Nat.zero_le _
  | .tup xs, n, h => by
    cases n with
    | zero => cases h
    | succ n =>
      simp only [toD, PyData.depth]
      have := depthDs xs n (by simpa only [PV.sh] using h)
      omega
  | .vl xs, n, h => by
    cases n with
    | zero => cases h
    | succ n =>
      simp only [toD, PyData.depth]
      have := depthDs xs n (by simpa only [PV.sh] using h)
      omega
  | .fz _, n, h => by cases n <;> cases h
  | .vd _, n, h => by cases n <;> cases h
  | .ref _, n, h => by cases n <;> cases h
  | .fn _, n, h => by cases n <;> cases h
theorem depthDs : ∀ (a : List PV) (n : Nat), a.all (PV.sh n) = true → PyData.depthAll (toDs a) ≤ n
  | [], _, _ => Nat.zero_le _
  | x :: xs, n, h => by
    simp only [List.all_cons, Bool.and_eq_true] at h
    simp only [toDs, PyData.depthAll]
    have h1 := depthD x n h.1
    have h2 := depthDs xs n h.2
    omega
end
section
variable {K : PySem.W.Frag} {g : Gh} {m : Mm} {H : Hp}
mutual
theorem Rp.dp (e : Emb K g m H) : ∀ {v : PV} {w : V} (n : Nat), v.sh n = true → Rp K g H v w → Dp K H w (toD v)
  | _, _, _, _, .non => .non
  | _, _, _, _, .bl b => .bl b
  | _, _, _, _, .int i => .int i
  | _, _, _, _, .str l => .str _
  | _, _, 0, h, .tup _ _ => by cases h
  | _, _, n + 1, h, .tup a r => .tup a (Rps.dp e n (by simpa only [PV.sh] using h) r)
  | _, _, 0, h, .vl _ _ => by cases h
  | _, _, n + 1, h, .vl a r => .lst (SqL.of (e.ro _ _ a).1) (Rps.dp e n (by simpa only [PV.sh] using h) r)
  | _, _, 0, h, .fz _ _ => by cases h
  | _, _, _ + 1, h, .fz _ _ => by cases h
  | _, _, 0, h, .ref _ => by cases h
  | _, _, 0, h, .fn _ => by cases h
  | _, _, _ + 1, h, .ref _ => by cases h
  | _, _, _ + 1, h, .fn _ => by cases h
theorem Rps.dp (e : Emb K g m H) : ∀ {v : List PV} {w : List V} (n : Nat), v.all (PV.sh n) = true → Rps K g H v w → DpAll K H w (toDs v)
  | _, _, _, _, .nil => .nil
  | _, _, n, h, .cons a r => by
    simp only [List.all_cons, Bool.and_eq_true] at h
    exact .cons (Rp.dp e n h.1 a) (Rps.dp e n h.2 r)
end
/-- behind look1 -/
theorem Rp.dp1 (e : Emb K g m H) {v : PV} {w : V} {n : Nat} (h : (look1 m v).sh n = true) (r : Rp K g H v w) : Dp K H w (toD (look1 m v)) := by
  cases r with
  | ref hn =>
    rename_i k a
    simp only [look1] at h ⊢
    split at h
    · rename_i xs hx
      obtain ⟨a', vs, h1, h2, h3⟩ := e.obj _ _ hx
      rw [hn] at h1; cases h1
      simp only [toD]
      cases n with
      | zero => cases h
      | succ n => exact .lst (SqL.of h2) (Rps.dp e n (by simpa only [PV.sh] using h) h3)
    · cases n <;> cases h
  | non => exact .non
  | bl b => exact .bl b
  | int i => exact .int i
  | str l => exact .str _
  | tup a r => exact Rp.dp e n h (.tup a r)
  | vl a r => exact Rp.dp e n h (.vl a r)
  | fz a r => exact Rp.dp e n h (.fz a r)
  | fn a => exact Rp.dp e n h (.fn a)
end
section
variable {X : Cx} {Ξ : XC}
theorem dep64 {n : Nat} (h : n ≤ DEP) : n ≤ 64 := Nat.le_trans h (by decide)
theorem op_tEq (hu : X.A.units + 64 < cLine) : OpR X (compareOp .Eq) (rd2 X.K Ξ oEq) := by
  intro pins s σ H x y v u Q I rx ry ⟨g, m, a, b, e, ra, rb, q⟩
  unfold oEq at q
  split at q
  · rename_i hc
    simp only [Bool.and_eq_true] at hc
    have da := ra.dp1 e hc.1
    have db := rb.dp1 e hc.2
    obtain ⟨as, r1⟩ := Dp.reads I _ x v da rx
    obtain ⟨bs, r2⟩ := Dp.reads I _ y u db ry
    rw [eqvD _ _ _ _ hc.1 hc.2] at q
    refine SeqAt.eq_plain r1 r2 (plainD _) (plainD _) ?_ ⟨.bl _, H, I, rfl, QE.ret e (.bl _) q⟩
    have := dep64 (depthD _ _ hc.1)
    have h2 : min (toD (look1 m a)).depth (toD (look1 m b)).depth ≤ (toD (look1 m a)).depth := Nat.min_le_left _ _
    omega
  · exact q.elim
theorem op_tNe (hu : X.A.units + 64 < cLine) : OpR X (compareOp .NotEq) (rd2 X.K Ξ oNe) := by
  intro pins s σ H x y v u Q I rx ry ⟨g, m, a, b, e, ra, rb, q⟩
  unfold oNe at q
  split at q
  · rename_i hc
    simp only [Bool.and_eq_true] at hc
    have da := ra.dp1 e hc.1
    have db := rb.dp1 e hc.2
    obtain ⟨as, r1⟩ := Dp.reads I _ x v da rx
    obtain ⟨bs, r2⟩ := Dp.reads I _ y u db ry
    rw [eqvD _ _ _ _ hc.1 hc.2] at q
    refine SeqAt.ne_plain r1 r2 (plainD _) (plainD _) ?_ ⟨.bl _, H, I, rfl, QE.ret e (.bl _) q⟩
    have := dep64 (depthD _ _ hc.1)
    have h2 : min (toD (look1 m a)).depth (toD (look1 m b)).depth ≤ (toD (look1 m a)).depth := Nat.min_le_left _ _
    omega
  · exact q.elim
theorem any_toDs (a : PV) (k : Nat) (ha : a.sh k = true) : ∀ (xs : List PV) (n : Nat), xs.all (PV.sh n) = true → ((toDs xs).any fun y => PyData.eqv y (toD a)) = xs.any fun y => PV.eqv y a
  | [], _, _ => rfl
  | x :: xs, n, h => by
    simp only [List.all_cons, Bool.and_eq_true] at h
    simp only [toDs, List.any_cons]
    rw [eqvD x a n k h.1 ha, any_toDs a k ha xs n h.2]
theorem look1_of_sh {m : Mm} {a : PV} {k : Nat} (h : a.sh k = true) : look1 m a = a := by
  cases a with
  | ref n => cases k <;> cases h
  | _ => rfl
theorem op_tIn (hu : X.A.units + 64 < cLine) : OpR X (compareOp .In) (rd2 X.K Ξ (oIn false)) := by
  intro pins s σ H x y v u Q I rx ry ⟨g, m, a, b, e, ra, rb, q⟩
  unfold oIn at q
  split at q
  · rename_i xs h1
    split at q
    · rename_i hc
      simp only [Bool.and_eq_true] at hc
      have hb : (look1 m b).sh (DEP + 1) = true := by rw [h1]; simpa only [PV.sh] using hc.1
      have db := rb.dp1 e hb
      rw [h1] at db
      have da := ra.dp e _ hc.2
      obtain ⟨as, r1⟩ := Dp.reads I _ x v da rx
      obtain ⟨bs, r2⟩ := Dp.reads I _ y u db ry
      simp only [toD] at r2
      refine SeqAt.in_list_data r2 r1 (plainDs _) (plainD _) ?_ ⟨.bl _, H, I, rfl, ?_⟩
      · have := dep64 (depthD _ _ hc.2)
        have h2 := Nat.min_le_right (PyData.depthAll (toDs xs)) (toD a).depth
        have h3 : (toD a).depth ≤ 12 := depthD _ _ hc.2
        omega
      · rw [any_toDs a _ hc.2 xs _ hc.1]
        exact QE.ret e (.bl _) q
    · exact q.elim
  · rename_i xs h1
    split at q
    · rename_i hc
      simp only [Bool.and_eq_true] at hc
      have hb : (look1 m b).sh (DEP + 1) = true := by rw [h1]; simpa only [PV.sh] using hc.1
      have db := rb.dp1 e hb
      rw [h1] at db
      have da := ra.dp e _ hc.2
      obtain ⟨as, r1⟩ := Dp.reads I _ x v da rx
      obtain ⟨bs, r2⟩ := Dp.reads I _ y u db ry
      simp only [toD] at r2
      refine SeqAt.in_tuple_data r2 r1 (plainDs _) (plainD _) ?_ ⟨.bl _, H, I, rfl, ?_⟩
      · have h2 := Nat.min_le_right (PyData.depthAll (toDs xs)) (toD a).depth
        have h3 : (toD a).depth ≤ 12 := depthD _ _ hc.2
        omega
      · rw [any_toDs a _ hc.2 xs _ hc.1]
        exact QE.ret e (.bl _) q
    · exact q.elim
  · rename_i z h1
    rw [look1_str h1] at rb
    cases rb.str_inv
    split at q
    · rename_i c
      cases ra.str_inv
      refine op_in_sign pins s σ H _ _ v u Q I rx ry ⟨c, _, rfl, rfl, ?_⟩
      exact QE.ret e (.bl _) q
    · exact q.elim
  · exact q.elim
theorem op_tNotIn (hu : X.A.units + 64 < cLine) : OpR X (compareOp .NotIn) (rd2 X.K Ξ (oIn true)) := by
  intro pins s σ H x y v u Q I rx ry ⟨g, m, a, b, e, ra, rb, q⟩
  unfold oIn at q
  split at q
  · rename_i xs h1
    split at q
    · rename_i hc
      simp only [Bool.and_eq_true] at hc
      have hb : (look1 m b).sh (DEP + 1) = true := by rw [h1]; simpa only [PV.sh] using hc.1
      have db := rb.dp1 e hb
      rw [h1] at db
      have da := ra.dp e _ hc.2
      obtain ⟨as, r1⟩ := Dp.reads I _ x v da rx
      obtain ⟨bs, r2⟩ := Dp.reads I _ y u db ry
      simp only [toD] at r2
      refine SeqAt.notIn_list_data r2 r1 (plainDs _) (plainD _) ?_ ⟨.bl _, H, I, rfl, ?_⟩
      · have h2 := Nat.min_le_right (PyData.depthAll (toDs xs)) (toD a).depth
        have h3 : (toD a).depth ≤ 12 := depthD _ _ hc.2
        omega
      · rw [any_toDs a _ hc.2 xs _ hc.1]
        exact QE.ret e (.bl _) q
    · exact q.elim
  · rename_i xs h1
    split at q
    · rename_i hc
      simp only [Bool.and_eq_true] at hc
      have hb : (look1 m b).sh (DEP + 1) = true := by rw [h1]; simpa only [PV.sh] using hc.1
      have db := rb.dp1 e hb
      rw [h1] at db
      have da := ra.dp e _ hc.2
      obtain ⟨as, r1⟩ := Dp.reads I _ x v da rx
      obtain ⟨bs, r2⟩ := Dp.reads I _ y u db ry
      simp only [toD] at r2
      refine SeqAt.notIn_tuple_data r2 r1 (plainDs _) (plainD _) ?_ ⟨.bl _, H, I, rfl, ?_⟩
      · have h2 := Nat.min_le_right (PyData.depthAll (toDs xs)) (toD a).depth
        have h3 : (toD a).depth ≤ 12 := depthD _ _ hc.2
        omega
      · rw [any_toDs a _ hc.2 xs _ hc.1]
        exact QE.ret e (.bl _) q
    · exact q.elim
  · rename_i z h1
    rw [look1_str h1] at rb
    cases rb.str_inv
    split at q
    · rename_i c
      cases ra.str_inv
      refine op_notIn_sign pins s σ H _ _ v u Q I rx ry ⟨c, _, rfl, rfl, ?_⟩
      exact QE.ret e (.bl _) q
    · exact q.elim
  · exact q.elim
end
end TT
end

section
set_option Elab.async false
set_option linter.all false
set_option autoImplicit false
set_option maxRecDepth 100000
/-! TT: subscripts, built-in functions, methods, by values -/
namespace TT
open PySem PySem.Spec PyProof.Rows L2
section
variable {X : Cx} {Ξ : XC}
theorem IxR_imp {r r' : R2} (h : IxR X r) (i : ∀ x y H Q, r' x y H Q → r x y H Q) : IxR X r' := fun va sl pins s σ H x y v u Q I rx ry q hs => h va sl pins s σ H x y v u Q I rx ry (i _ _ _ _ q) hs
theorem ixN_eq : @TT.ixN = @L2.ixN := rfl
theorem Rps.atI {K : PySem.W.Frag} {g : Gh} {H : Hp} {xs : List PV} {vs : List V} {k : Int} {x : PV} (r : Rps K g H xs vs) (h : TT.atI xs k = some x) : ∃ v, L2.atI vs k = some v ∧ Rp K g H x v := by
  unfold TT.atI at h
  unfold L2.atI
  rw [ixN_eq, r.length] at h
  cases hj : L2.ixN vs.length k with
  | none => rw [hj] at h; cases h
  | some j =>
    rw [hj] at h
    obtain ⟨v, h1, h2⟩ := r.get (show xs[j]? = some x from h)
    exact ⟨v, by rw [Option.bind_some]; exact h1, h2⟩
theorem ix_t : IxR X (rd2 X.K Ξ oIx) := by
  refine IxR_imp ix_seq fun x y H Q ⟨g, m, a, b, e, ra, rb, q⟩ => ?_
  unfold oIx at q
  split at q
  · rename_i xs k h1
    obtain ⟨a1, vs, rfl, ha, r1⟩ := e.look ra h1
    cases rb.int_inv
    split at q
    · rename_i v hv
      obtain ⟨w, h2, r2⟩ := r1.atI hv
      exact .inl ⟨a1, vs, k, w, rfl, rfl, SqL.of ha, h2, QE.ret e r2 q⟩
    · exact q.elim
  · rename_i xs k h1
    rw [look1_fz h1] at ra
    obtain ⟨a1, vs, rfl, ha, r1⟩ := e.fz ra
    cases rb.int_inv
    split at q
    · rename_i v hv
      obtain ⟨w, h2, r2⟩ := r1.atI hv
      exact .inl ⟨a1, vs, k, w, rfl, rfl, ha, h2, QE.ret e r2 q⟩
    · exact q.elim
  · rename_i xs k h1
    rw [look1_tup h1] at ra
    obtain ⟨a1, vs, rfl, ha, r1⟩ := ra.tup_inv
    cases rb.int_inv
    split at q
    · rename_i v hv
      obtain ⟨w, h2, r2⟩ := r1.atI hv
      exact .inr (.inl ⟨a1, vs, k, w, rfl, rfl, ha, h2, QE.ret e r2 q⟩)
    · exact q.elim
  · rename_i z k h1
    rw [look1_str h1] at ra
    cases ra.str_inv
    cases rb.int_inv
    split at q
    · rename_i hl
      split at q
      · rename_i c hv
        refine .inr (.inr ⟨_, k, c, rfl, rfl, ?_, hv, ?_⟩)
        · show z.toArray.size ≤ sizeLine
          simpa using line_le hl
        · exact QE.ret e (.str [c]) q
      · exact q.elim
    · exact q.elim
  · exact q.elim
theorem sIx_eq : @TT.sIx = @HT.sIx := by
  funext n d o
  cases o with
  | none => rfl
  | some v => unfold TT.sIx HT.sIx; rfl
theorem cutV_rp {K : PySem.W.Frag} {g : Gh} {H : Hp} {xs : List PV} {vs : List V} (lo hi : Option Int) (r : Rps K g H xs vs) : Rps K g H (cutL xs lo hi) (cutV vs lo hi) := by
  unfold cutL cutV
  rw [sIx_eq, r.length]
  exact (r.drop _).take _
theorem cutS_str (z : List Nat) (lo hi : Option Int) : cutS ⟨z.toArray⟩ lo hi = ⟨(cutL z lo hi).toArray⟩ := by
  unfold cutS cutL
  rw [sIx_eq]
  rfl
theorem SlR_imp {r r' : V → Option Int → Option Int → Hp → VK → Prop} (h : SlR X r) (i : ∀ x l u H Q, r' x l u H Q → r x l u H Q) : SlR X r' := fun pins s σ H x v vl vu lo hi sl Q I rx hs pl pu q => h pins s σ H x v vl vu lo hi sl Q I rx hs pl pu (i _ _ _ _ _ q)
def rdSl (K : PySem.W.Frag) (Ξ : XC) : V → Option Int → Option Int → Hp → VK → Prop := fun x lo hi H Q => ∃ g m a, Emb K g m H ∧ Rp K g H a x ∧ QE K Ξ g H Q (oSlice lo hi a m)
theorem sl_t : SlR X (rdSl X.K Ξ) := by
  refine SlR_imp ((sl_list (X := X)).or (sl_tupA.or sl_str)) fun x lo hi H Q ⟨g, m, a, e, ra, q⟩ => ?_
  unfold oSlice at q
  split at q
  · rename_i xs h1
    obtain ⟨a1, vs, rfl, ha, r1⟩ := e.look ra h1
    exact .inl ⟨a1, vs, rfl, SqL.of ha, fun p hp => QE.newL e (cutV_rp lo hi r1) q hp⟩
  · rename_i xs h1
    rw [look1_tup h1] at ra
    obtain ⟨a1, vs, rfl, ha, r1⟩ := ra.tup_inv
    refine .inr (.inl ⟨a1, vs, rfl, ha, fun hw => ?_, fun _ p hp => QE.newT e (cutV_rp lo hi r1) q hp⟩)
    have : cutL xs lo hi = xs := by
      unfold cutL
      rw [sIx_eq, r1.length, hw.1, hw.2, List.drop_zero, Nat.sub_zero, ← r1.length, List.take_length]
    rw [this] at q
    exact QE.ret e (.tup ha r1) q
  · rename_i z h1
    rw [look1_str h1] at ra
    cases ra.str_inv
    split at q
    · rename_i hl
      refine .inr (.inr ⟨_, rfl, ?_, ?_⟩)
      · show z.toArray.size ≤ sizeLine
        simpa using line_le hl
      · rw [cutS_str]
        exact QE.ret e (.str _) q
    · exact q.elim
  · exact q.elim

/-! ### o[i] = v -/
theorem PSet_imp {r r' : TSet} (h : PSet X r) (i : ∀ o k v H Q, r' o k v H Q → r o k v H Q) : PSet X r' := fun pins s σ H o k v ov iv u Q I ro ri rv q => h pins s σ H o k v ov iv u Q I ro ri rv (i _ _ _ _ _ q)
def rdSet (K : PySem.W.Frag) (Ξ : XC) : TSet := fun o i v H Q => ∃ g m a k y, Emb K g m H ∧ Rp K g H a o ∧ Rp K g H k i ∧ Rp K g H y v ∧ QR K Ξ g H (fun m' => ∀ g' H', Ext g H g' H' → Emb K g' m' H' → Q H') (oSet a k y m)
theorem set_t : PSet X (rdSet X.K Ξ) := by
  refine PSet_imp set_list fun o i v H Q ⟨g, m, a, k, y, e, ra, rk, ry, q⟩ => ?_
  unfold oSet at q
  split at q
  · rename_i n j
    obtain ⟨a1, rfl, hn⟩ := ra.ref_inv
    cases rk.int_inv
    split at q
    · rename_i xs hx
      obtain ⟨a2, vs, h1, h2, h3⟩ := e.obj _ _ hx
      rw [hn] at h1; cases h1
      split at q
      · rename_i j' hj
        obtain ⟨x', e'⟩ := e.wr_lst hx hn (h3.set ry j')
        refine ⟨a1, vs, j, j', rfl, rfl, h2, ?_, q _ _ x' e'⟩
        rw [← h3.length]; exact hj
      · exact q.elim
    · exact q.elim
  · exact q.elim

/-! ### built-in functions -/
theorem call_tLen : CallR X (.builtin "len") (rdN X.K Ξ fLen) := by
  refine CallR_imp ((call_len_seq (X := X)).or call_len_str) fun xs H Q ⟨g, m, as, e, ra, q⟩ => ?_
  unfold fLen at q
  split at q
  · rename_i a
    cases ra with
    | cons r1 r2 =>
      cases r2
      split at q
      · rename_i ys h1
        obtain ⟨a1, vs, rfl, ha, r1'⟩ := e.look r1 h1
        exact .inl ⟨a1, vs, rfl, .inl (SqL.of ha), by rw [← r1'.length]; exact QE.ret e (.int _) q⟩
      · rename_i ys h1
        rw [look1_fz h1] at r1
        obtain ⟨a1, vs, rfl, ha, r1'⟩ := e.fz r1
        exact .inl ⟨a1, vs, rfl, .inl ha, by rw [← r1'.length]; exact QE.ret e (.int _) q⟩
      · rename_i ys h1
        rw [look1_tup h1] at r1
        obtain ⟨a1, vs, rfl, ha, r1'⟩ := r1.tup_inv
        exact .inl ⟨a1, vs, rfl, .inr ha, by rw [← r1'.length]; exact QE.ret e (.int _) q⟩
      · rename_i z h1
        rw [look1_str h1] at r1
        cases r1.str_inv
        split at q
        · rename_i hl
          refine .inr ⟨_, rfl, ?_, ?_⟩
          · show z.toArray.size ≤ sizeLine
            simpa using line_le hl
          · have : ((⟨z.toArray⟩ : Str).length : Int) = (z.length : Int) := by simp [Str.length]
            rw [this]
            exact QE.ret e (.int _) q
        · exact q.elim
      · exact q.elim
  · exact q.elim
theorem call_tInt : CallR X (.type "int") (rdN X.K Ξ fInt) := by
  refine CallR_imp call_int1 fun xs H Q ⟨g, m, as, e, ra, q⟩ => ?_
  unfold fInt at q
  split at q
  · cases ra with
    | cons r1 r2 =>
      cases r2
      cases r1.int_inv
      exact .inl ⟨_, rfl, QE.ret e (.int _) q⟩
  · cases ra with
    | cons r1 r2 =>
      cases r2
      cases r1.bl_inv
      exact .inr ⟨_, rfl, QE.ret e (.int _) q⟩
  · exact q.elim
theorem call_tMax (hc : X.calm = true) : CallR X (.builtin "max") (rdN X.K Ξ fMax) := by
  refine CallR_imp (call_max2 hc) fun xs H Q ⟨g, m, as, e, ra, q⟩ => ?_
  unfold fMax at q
  split at q
  · cases ra with
    | cons r1 r2 =>
      cases r2 with
      | cons r2 r3 =>
        cases r3
        cases r1.int_inv; cases r2.int_inv
        exact ⟨_, _, rfl, QE.ret e (.int _) q⟩
  · exact q.elim
theorem call_tMin (hc : X.calm = true) : CallR X (.builtin "min") (rdN X.K Ξ fMin) := by
  refine CallR_imp (call_min2 hc) fun xs H Q ⟨g, m, as, e, ra, q⟩ => ?_
  unfold fMin at q
  split at q
  · cases ra with
    | cons r1 r2 =>
      cases r2 with
      | cons r2 r3 =>
        cases r3
        cases r1.int_inv; cases r2.int_inv
        exact ⟨_, _, rfl, QE.ret e (.int _) q⟩
  · exact q.elim
theorem call_tList : CallR X (.type "list") (rdN X.K Ξ fList) := by
  refine CallR_imp call_list_of fun xs H Q ⟨g, m, as, e, ra, q⟩ => ?_
  unfold fList at q
  split at q
  · rename_i a
    cases ra with
    | cons r1 r2 =>
      cases r2
      split at q
      · rename_i ys h1
        obtain ⟨a1, vs, rfl, ha, r1'⟩ := e.look r1 h1
        exact ⟨a1, vs, rfl, .inl (SqL.of ha), fun p hp => QE.newL e r1' q hp⟩
      · rename_i ys h1
        rw [look1_tup h1] at r1
        obtain ⟨a1, vs, rfl, ha, r1'⟩ := r1.tup_inv
        exact ⟨a1, vs, rfl, .inr ha, fun p hp => QE.newL e r1' q hp⟩
      · exact q.elim
  · exact q.elim
theorem call_tTuple : CallR X (.type "tuple") (rdN X.K Ξ fTuple) := by
  refine CallR_imp call_tuple_of fun xs H Q ⟨g, m, as, e, ra, q⟩ => ?_
  unfold fTuple at q
  split at q
  · rename_i a
    cases ra with
    | cons r1 r2 =>
      cases r2
      split at q
      · rename_i ys h1
        obtain ⟨a1, vs, rfl, ha, r1'⟩ := e.look r1 h1
        exact ⟨a1, vs, rfl, .inl ⟨SqL.of ha, fun p hp => QE.newT e r1' q hp⟩⟩
      · rename_i ys h1
        rw [look1_tup h1] at r1
        obtain ⟨a1, vs, rfl, ha, r1'⟩ := r1.tup_inv
        exact ⟨a1, vs, rfl, .inr ⟨ha, QE.ret e (.tup ha r1') q⟩⟩
      · exact q.elim
  · exact q.elim
theorem bools_rp {K : PySem.W.Frag} {g : Gh} {H : Hp} : ∀ {xs : List PV} {vs : List V} {bs : List Bool}, bools xs = some bs → Rps K g H xs vs → vs = bs.map V.bl
  | [], _, _, h, r => by cases h; cases r; rfl
  | .bl b :: xs, _, bs, h, r => by
    simp only [bools] at h
    cases hq : bools xs with
    | none => rw [hq] at h; cases h
    | some cs =>
      rw [hq] at h
      cases h
      cases r with
      | cons r1 r2 =>
        cases r1.bl_inv
        rw [bools_rp hq r2]; rfl
  | .non :: _, _, _, h, _ => by simp [bools] at h
  | .int _ :: _, _, _, h, _ => by simp [bools] at h
  | .str _ :: _, _, _, h, _ => by simp [bools] at h
  | .tup _ :: _, _, _, h, _ => by simp [bools] at h
  | .vl _ :: _, _, _, h, _ => by simp [bools] at h
  | .fz _ :: _, _, _, h, _ => by simp [bools] at h
  | .vd _ :: _, _, _, h, _ => by simp [bools] at h
  | .ref _ :: _, _, _, h, _ => by simp [bools] at h
theorem call_tAll (hc : X.calm = true) : CallR X (.builtin "all") (rdN X.K Ξ fAll) := by
  refine CallR_imp (cr_all hc) fun xs H Q ⟨g, m, as, e, ra, q⟩ => ?_
  unfold fAll at q
  split at q
  · rename_i a
    cases ra with
    | cons r1 r2 =>
      cases r2
      split at q
      · rename_i ys h1
        obtain ⟨a1, vs, rfl, ha, r1'⟩ := e.look r1 h1
        split at q
        · rename_i bs hb
          have ev := bools_rp hb r1'
          subst ev
          exact ⟨a1, bs, rfl, SqL.of ha, QE.ret e (.bl _) q⟩
        · exact q.elim
      · exact q.elim
  · exact q.elim

/-! ### isinstance -/
def Ty.name : Ty → String
  | .tInt => "int" | .tStr => "str" | .tBool => "bool" | .tTup => "tuple" | .tList => "list"
theorem kitAll : ∀ (a : String) (t : Ty), a ∈ ["NoneType", "bool", "int", "str", "tuple", "list"] → kitB a t.name = some (match a, t with
    | "bool", .tInt => true | "bool", .tBool => true | "int", .tInt => true | "str", .tStr => true | "tuple", .tTup => true | "list", .tList => true | _, _ => false) := by
  intro a t h
  simp only [List.mem_cons, List.mem_nil_iff, or_false] at h
  rcases h with rfl | rfl | rfl | rfl | rfl | rfl <;> cases t <;> decide +kernel
theorem call_tIsA (t : Ty) : CallR X (.builtin "isinstance") (fun xs H Q => ∃ x, xs = [x, .ty t.name] ∧ rd1 X.K Ξ (oIsA t) x H Q) := by
  refine CallR_imp call_isi fun xs H Q ⟨x, ex, g, m, a, e, ra, q⟩ => ?_
  subst ex
  unfold oIsA at q
  split at q
  · rename_i b hb
    have fin : Q (.bl b) H := QE.ret e (.bl b) q
    have go : ∀ (n : String) (r : Bool), n ∈ ["NoneType", "bool", "int", "str", "tuple", "list"] → TyX X.K H x (.type n) → kitB n t.name = some r → r = b → rIsi X.K [x, .ty t.name] H Q := fun n r hn ty hk hr => by
      subst hr
      exact ⟨x, .ty t.name, .type n, .type t.name, r, rfl, .ty _, ty, kit_ty hk, fin⟩
    cases ra with
    | non =>
      have hk := kitAll "NoneType" t (by decide)
      refine go "NoneType" false (by decide) (.base .non) ?_ ?_
      · rw [hk]; cases t <;> rfl
      · cases t <;> (simp only [look1, isA] at hb; exact Option.some.inj hb)
    | bl c =>
      have hk := kitAll "bool" t (by decide)
      cases t <;> (simp only [look1, isA] at hb; exact go "bool" _ (by decide) (.base (.bl c)) hk (Option.some.inj hb))
    | int i =>
      have hk := kitAll "int" t (by decide)
      cases t <;> (simp only [look1, isA] at hb; exact go "int" _ (by decide) (.base (.int i)) hk (Option.some.inj hb))
    | str l =>
      have hk := kitAll "str" t (by decide)
      cases t <;> (simp only [look1, isA] at hb; exact go "str" _ (by decide) (.base (.str _)) hk (Option.some.inj hb))
    | @tup p vs ys h r =>
      have hk := kitAll "tuple" t (by decide)
      have ty : TyX X.K H (.ref p) (.type "tuple") := by
        rcases h with (h | ⟨o, h⟩) | ⟨o, its, n, h1, h2, _⟩
        · exact .base (.tup h)
        · exact .fTuple h
        · exact .kTuple h1 h2
      cases t <;> (simp only [look1, isA] at hb; exact go "tuple" _ (by decide) ty hk (Option.some.inj hb))
    | vl h r =>
      have hk := kitAll "list" t (by decide)
      cases t <;> (simp only [look1, isA] at hb; exact go "list" _ (by decide) (.base (.lst (e.ro _ _ h).1)) hk (Option.some.inj hb))
    | @fz p vs ys h r =>
      have hk := kitAll "list" t (by decide)
      have ty : TyX X.K H (.ref p) (.type "list") := by
        rcases h with (h | ⟨o, h⟩) | ⟨o, its, n, h1, h2, _⟩
        · exact .base (.lst (e.ro _ _ h).1)
        · exact .base (.frz (e.ro _ _ h).1)
        · exact .kList h1 h2
      cases t <;> (simp only [look1, isA] at hb; exact go "list" _ (by decide) ty hk (Option.some.inj hb))
    | ref hn =>
      have hk := kitAll "list" t (by decide)
      simp only [look1] at hb
      split at hb
      · rename_i ys hy
        obtain ⟨a', vs, h1, h2, h3⟩ := e.obj _ _ hy
        rw [hn] at h1; cases h1
        cases t <;> (simp only [isA] at hb; exact go "list" _ (by decide) (.base (.lst h2)) hk (Option.some.inj hb))
      · cases t <;> simp only [isA] at hb <;> cases hb
    | fn a => cases t <;> simp only [look1, isA] at hb <;> cases hb
  · exact q.elim

/-! ### methods -/
def rdM (K : PySem.W.Frag) (Ξ : XC) (f : PV → List PV → Mm → Rs (PV × Mm)) : V → List V → Hp → VK → Prop := fun x xs H Q => ∃ g m a as, Emb K g m H ∧ Rp K g H a x ∧ Rps K g H as xs ∧ QE K Ξ g H Q (f a as m)
theorem MtR_imp {id : String} {r r' : V → List V → Hp → VK → Prop} (h : MtR X id r) (i : ∀ x xs H Q, r' x xs H Q → r x xs H Q) : MtR X id r' := fun pins s σ H x xs v us Q I rx rv q => h pins s σ H x xs v us Q I rx rv (i _ _ _ _ q)
theorem mt_tAppend : MtR X "list.append" (rdM X.K Ξ mAppend) := by
  refine MtR_imp mt_append fun x xs H Q ⟨g, m, a, as, e, ra, rs, q⟩ => ?_
  unfold mAppend at q
  split at q
  · rename_i n v
    obtain ⟨a1, rfl, hn⟩ := ra.ref_inv
    cases rs with
    | cons r1 r2 =>
      cases r2
      split at q
      · rename_i ys hy
        obtain ⟨a2, vs, h1, h2, h3⟩ := e.obj _ _ hy
        rw [hn] at h1; cases h1
        split at q
        · rename_i hl
          obtain ⟨x', e'⟩ := e.wr_lst hy hn (h3.append (.cons r1 .nil))
          exact ⟨a1, vs, _, rfl, rfl, h2, by rw [← h3.length]; exact line_lt hl, q _ _ _ x' e' .non⟩
        · exact q.elim
      · exact q.elim
  · exact q.elim
end
end TT
end

section
set_option Elab.async false
set_option linter.all false
set_option autoImplicit false
set_option maxRecDepth 100000
/-! TT: expressions, tests, targets, statements -/
namespace TT
open PySem PySem.Spec PyProof.Rows L2
section
variable {X : Cx} {Ξ : XC} {a b c e o : Expr} {es : List Expr} {pos : Pos} {fa fb fc : SE} {ft fu : ST} {K : PySem.W.Frag} {g : Gh} {H : Hp}

/-! ### constants, names -/
theorem se_of {v : PV} {w : V} {e : Expr} (h : PE X e (tC w)) (r : ∀ g H, Rp X.K g H v w) : PE X e (rdE X.K Ξ (eC v)) :=
  PE_imp h fun σ H Q ⟨g, s, m, em, sr, q⟩ => QE.ret em (r g H) q
theorem se_int {i : Int} {j pos} : PE X (.Constant (.int i) j pos) (rdE X.K Ξ (eC (.int i))) := se_of pe_int fun _ _ => .int i
theorem se_bl {i : Bool} {j pos} : PE X (.Constant (.bool i) j pos) (rdE X.K Ξ (eC (.bl i))) := se_of pe_bl fun _ _ => .bl i
theorem se_non {j pos} : PE X (.Constant .none j pos) (rdE X.K Ξ (eC .non)) := se_of pe_non fun _ _ => .non
theorem se_str (l : List Nat) {x : Str} {j pos} (h : x = ⟨l.toArray⟩ := by rfl) : PE X (.Constant (.str x) j pos) (rdE X.K Ξ (eC (.str l))) := by
  subst h; exact se_of pe_str fun _ _ => .str l
theorem se_var (i : Nat) {x : Str} {pos : Pos} (hN : X.N[i]? = some x := by rfl) (hv : Vis X.env.scope x := by first | exact Or.inl rfl | exact Or.inr (Or.inl rfl) | exact Or.inr (Or.inr rfl)) (hd : (x == ("__debug__" : Str)) = false := by decide)
    (hcd : (x == ("__classdict__" : Str)) = false := by decide) : PE X (.Name x pos) (rdE X.K Ξ (eVar i)) :=
  PE_imp (pe_var hN hv hd hcd) fun σ H Q ⟨g, s, m, em, sr, q⟩ => by
    unfold eVar at q
    split at q
    · rename_i v hv
      obtain ⟨w, h1, h2⟩ := sr.at_ i v hv
      exact ⟨w, h1, QE.ret em h2 q⟩
    · exact q.elim
/-- a name of the module -/
theorem se_glob {x : Str} {v : PV} {w : V} {u : Value} {pos : Pos} (hg : Gl X x) (hm : X.mg x = some u) (r : RelV w u) (rp : ∀ g H, Rp X.K g H v w) (hd : (x == ("__debug__" : Str)) = false := by decide) : PE X (.Name x pos) (rdE X.K Ξ (eC v)) :=
  se_of (pe_glob hg hm r hd) rp

/-! ### by values -/
theorem rd_e2 {f : O2} {σ : L2.St} {H : Hp} {Q : VK} (h : rdE K Ξ (e2 f fa fb) σ H Q) : tOp (rd2 K Ξ f) (rdE K Ξ fa) (rdE K Ξ fb) σ H Q := by
  obtain ⟨g, s, m, em, sr, q⟩ := h
  refine ⟨g, s, m, em, sr, QR.bind q fun p hp q1 g1 H1 V x1 e1 r1 => ?_⟩
  refine ⟨g1, s, p.2, e1, sr.ext em x1, QR.bind (QE.later x1 q1) fun p2 hp2 q2 g2 H2 W x2 e2 r2 => ?_⟩
  exact ⟨g2, p2.2, p.1, p2.1, e2, r1.ext e1 x2, r2, QE.later x2 q2⟩
theorem rd_e1 {f : O1} {σ : L2.St} {H : Hp} {Q : VK} (h : rdE K Ξ (e1 f fa) σ H Q) : rdE K Ξ fa σ H fun x H1 => rd1 K Ξ f x H1 Q := by
  obtain ⟨g, s, m, em, sr, q⟩ := h
  exact ⟨g, s, m, em, sr, QR.bind q fun p hp q1 g1 H1 V x1 e1 r1 => ⟨g1, p.2, p.1, e1, r1, QE.later x1 q1⟩⟩
theorem se_bin {op : Operator} {f : O2} (h : OpR X (binaryOp op) (rd2 X.K Ξ f)) (ha : PE X a (rdE X.K Ξ fa)) (hb : PE X b (rdE X.K Ξ fb)) : PE X (.BinOp a op b pos) (rdE X.K Ξ (e2 f fa fb)) :=
  PE_imp (pe_op h ha hb) fun _ _ _ => rd_e2
theorem se_cmp {op : CmpOp} {f : O2} (h : OpR X (compareOp op) (rd2 X.K Ξ f)) (ha : PE X a (rdE X.K Ξ fa)) (hb : PE X b (rdE X.K Ξ fb)) (hm : behindInMarks op b = false) : PE X (.Compare a [op] [b] pos) (rdE X.K Ξ (e2 f fa fb)) :=
  PE_imp (pe_cmpR h ha hb hm) fun _ _ _ => rd_e2
theorem st_of {f : SE} {e : Expr} {t : TE} {σ : L2.St} {H : Hp} {Q : Bool → Hp → Prop} (i : ∀ Q, rdE K Ξ f σ H Q → t σ H Q) (h : rdT K Ξ (tV f) σ H Q) : t σ H fun x H1 => ∃ k, x = .bl k ∧ Q k H1 := by
  obtain ⟨g, s, m, em, sr, q⟩ := h
  refine i _ ⟨g, s, m, em, sr, QR.bind q fun p hp q1 g1 H1 V x1 e1 r1 => ?_⟩
  obtain ⟨v, m1⟩ := p
  cases v with
  | bl k =>
    cases r1.bl_inv
    exact ⟨k, rfl, q1 g1 H1 x1 e1⟩
  | _ => exact q1.elim
theorem st_cmp {op : CmpOp} {f : O2} (h : OpR X (compareOp op) (rd2 X.K Ξ f)) (ha : PE X a (rdE X.K Ξ fa)) (hb : PE X b (rdE X.K Ξ fb)) (hm : behindInMarks op b = false) : PT X (.Compare a [op] [b] pos) (rdT X.K Ξ (tV (e2 f fa fb))) :=
  PT_imp (pt_cmpR h ha hb hm) fun σ H Q q => st_of (e := a) (fun _ => rd_e2) q
/-- an expression that gives a truth value, as a test -/
theorem st_val (h : PE X e (rdE X.K Ξ fa)) (he : ∀ whole, isTrue e X.env whole = (do let v ← whole; standAt e.pos; holding [v] (truthy v)) := by intro _; rfl) : PT X e (rdT X.K Ξ (tV fa)) :=
  PT_imp (pt_val h he) fun σ H Q q => st_of (e := e) (fun _ h => h) q
/-- the truth of any value -/
theorem st_tru (h : PE X e (rdE X.K Ξ fa)) (he : ∀ whole, isTrue e X.env whole = (do let v ← whole; standAt e.pos; holding [v] (truthy v)) := by intro _; rfl) : PT X e (rdT X.K Ξ (tT fa)) :=
  PT_imp (pt_truth h he) fun σ H Q ⟨g, s, m, em, sr, q⟩ => by
    refine ⟨g, s, m, em, sr, QR.bind q fun p hp q1 g1 H1 V x1 e1 r1 => ?_⟩
    obtain ⟨v, m1⟩ := p
    simp only at q1
    split at q1
    · rename_i k hk
      have fin := q1 g1 H1 x1 e1
      refine ⟨k, ?_, fin⟩
      cases r1 with
      | non => simp only [tru] at hk; cases hk; rfl
      | bl c => simp only [tru] at hk; cases hk; rfl
      | int i => simp only [tru] at hk; cases hk; rfl
      | str l =>
        simp only [tru] at hk
        split at hk
        · rename_i hl
          cases hk
          refine ⟨?_, ?_⟩
          · show l.toArray.size ≤ sizeLine
            simpa using line_le hl
          · show (!l.isEmpty) = (((l.toArray.size : Nat) : Int) != 0)
            cases l with
            | nil => rfl
            | cons x r =>
              have : ((((x :: r).toArray.size : Nat) : Int) != 0) = true := by
                rw [List.size_toArray, List.length_cons]
                exact bne_iff_ne.mpr (by omega)
              rw [this]; rfl
        · cases hk
      | tup hh r =>
        simp only [tru] at hk; cases hk
        refine .inr (.inl ⟨_, hh, ?_⟩)
        have := r.length
        rename_i vs xs
        cases xs <;> cases vs <;> simp_all
      | vl hh r =>
        simp only [tru] at hk; cases hk
        refine .inl ⟨_, SqL.of (e1.ro _ _ hh).1, ?_⟩
        have := r.length
        rename_i vs xs
        cases xs <;> cases vs <;> simp_all
      | fz hh r => simp only [tru] at hk; cases hk
      | fn a => simp only [tru] at hk; cases hk
      | ref hn =>
        simp only [tru] at hk
        split at hk
        · rename_i ys hy
          cases hk
          obtain ⟨a', vs, h1, h2, h3⟩ := e1.obj _ _ hy
          rw [hn] at h1; cases h1
          refine .inl ⟨_, SqL.of h2, ?_⟩
          have := h3.length
          cases ys <;> cases vs <;> simp_all
        · cases hk
    · exact q1.elim
theorem se_neg (ha : PE X a (rdE X.K Ξ fa)) : PE X (.UnaryOp .USub a pos) (rdE X.K Ξ (e1 oNeg fa)) :=
  PE_imp (pe_un un_neg ha) fun σ H Q q => by
    obtain ⟨g, s, m, em, sr, q⟩ := q
    refine ⟨g, s, m, em, sr, QR.bind q fun p hp q1 g1 H1 V x1 e1 r1 => ?_⟩
    obtain ⟨v, m1⟩ := p
    simp only [oNeg] at q1
    split at q1
    · cases r1.int_inv
      exact ⟨_, rfl, QE.ret e1 (.int _) (QE.later x1 q1)⟩
    · exact q1.elim
/-- is None, is not None -/
theorem se_isN {j pos'} (ha : PE X a (rdE X.K Ξ fa)) : PE X (.Compare a [.Is] [.Constant .none j pos'] pos) (rdE X.K Ξ (e1 (oIs false .non) fa)) :=
  PE_imp (pe_cmp (pc_isN ha)) fun σ H Q q => by
    obtain ⟨g, s, m, em, sr, q⟩ := q
    refine ⟨g, s, m, em, sr, QR.bind q fun p hp q1 g1 H1 V x1 e1 r1 => ?_⟩
    have e := QE.later x1 q1
    obtain ⟨v, m1⟩ := p
    cases r1 <;> exact QE.ret e1 (.bl _) e
theorem se_notN {j pos'} (ha : PE X a (rdE X.K Ξ fa)) : PE X (.Compare a [.IsNot] [.Constant .none j pos'] pos) (rdE X.K Ξ (e1 (oIs true .non) fa)) :=
  PE_imp (pe_cmp (pc_notN ha)) fun σ H Q q => by
    obtain ⟨g, s, m, em, sr, q⟩ := q
    refine ⟨g, s, m, em, sr, QR.bind q fun p hp q1 g1 H1 V x1 e1 r1 => ?_⟩
    have e := QE.later x1 q1
    obtain ⟨v, m1⟩ := p
    cases r1 <;> exact QE.ret e1 (.bl _) e
theorem st_isN {j pos'} (ha : PE X a (rdE X.K Ξ fa)) : PT X (.Compare a [.Is] [.Constant .none j pos'] pos) (rdT X.K Ξ (tV (e1 (oIs false .non) fa))) :=
  PT_imp (pt_cmp (pc_isN ha)) fun σ H Q q => by
    obtain ⟨g, s, m, em, sr, q⟩ := q
    refine ⟨g, s, m, em, sr, QR.bind (QR.bind q fun p hp q1 => q1) fun p hp q1 g1 H1 V x1 e1 r1 => ?_⟩
    obtain ⟨v, m1⟩ := p
    cases r1 <;> exact ⟨_, rfl, q1 g1 H1 x1 e1⟩
theorem st_notN {j pos'} (ha : PE X a (rdE X.K Ξ fa)) : PT X (.Compare a [.IsNot] [.Constant .none j pos'] pos) (rdT X.K Ξ (tV (e1 (oIs true .non) fa))) :=
  PT_imp (pt_cmp (pc_notN ha)) fun σ H Q q => by
    obtain ⟨g, s, m, em, sr, q⟩ := q
    refine ⟨g, s, m, em, sr, QR.bind (QR.bind q fun p hp q1 => q1) fun p hp q1 g1 H1 V x1 e1 r1 => ?_⟩
    obtain ⟨v, m1⟩ := p
    cases r1 <;> exact ⟨_, rfl, q1 g1 H1 x1 e1⟩
/-- is True, is False of a truth value -/
theorem se_isB {k : Bool} {j pos'} (ha : PE X a (rdE X.K Ξ fa)) : PE X (.Compare a [.Is] [.Constant (.bool k) j pos'] pos) (rdE X.K Ξ (e1 (oIs false (.bl k)) fa)) :=
  PE_imp (pe_cmpR op_isBl ha pe_bl (nomark _)) fun σ H Q q => by
    obtain ⟨g, s, m, em, sr, q⟩ := q
    refine ⟨g, s, m, em, sr, QR.bind q fun p hp q1 g1 H1 V x1 e1 r1 => ?_⟩
    have e := QE.later x1 q1
    obtain ⟨v, m1⟩ := p
    cases v with
    | bl c =>
      cases r1.bl_inv
      refine ⟨c, k, rfl, rfl, ?_⟩
      have : (if c == k then (!false : Bool) else false) = decide (c = k) := by cases c <;> cases k <;> rfl
      simp only [oIs, this] at e
      exact QE.ret e1 (.bl _) e
    | _ => exact e.elim

/-! ### arguments, displays -/
theorem sa_nil : PA X [] (rdA X.K Ξ aNil) := PA_imp pa_nil fun σ H Q ⟨g, s, m, em, sr, q⟩ => q g H [] (Ext.refl _ _) em .nil
theorem sa_cons {f : SA} (ha : PE X e (rdE X.K Ξ fa)) (hr : PA X es (rdA X.K Ξ f)) (hs : starEach (e :: es) X.env = (false, eval e X.env) :: starEach es X.env := by rfl) : PA X (e :: es) (rdA X.K Ξ (aCons fa f)) :=
  PA_imp (pa_cons ha hr hs) fun σ H Q ⟨g, s, m, em, sr, q⟩ => by
    refine ⟨g, s, m, em, sr, QR.bind q fun p hp q1 g1 H1 V x1 e1 r1 => ?_⟩
    refine ⟨g1, s, p.2, e1, sr.ext em x1, QR.bind (QA.later x1 q1) fun p2 hp2 q2 g2 H2 W x2 e2 r2 => ?_⟩
    exact q2 g2 H2 _ x2 e2 (.cons (r1.ext e1 x2) r2)
theorem rps_small {xs : List PV} {vs : List V} (r : Rps K g H xs vs) (n : Nat) (h : xs.length ≤ n) (hn : n ≤ sizeLine) : vs.length ≤ sizeLine := by rw [← r.length]; exact Nat.le_trans h hn
theorem se_tup {f : SA} {x1} (h : PA X es (rdA X.K Ξ f)) (hl : ∀ s m xs m', f s m = .ok (xs, m') → xs.length = es.length) (hn : es.length ≤ 1000 := by decide) : PE X (.Tuple es x1 pos) (rdE X.K Ξ (eTup f)) :=
  PE_imp (pe_tup h) fun σ H Q ⟨g, s, m, em, sr, q⟩ => by
    refine ⟨g, s, m, em, sr, QR.bind q fun p hp q1 g1 H1 V x1 e1 r1 => ?_⟩
    refine ⟨rps_small r1 1000 ?_ (by rw [sizeLine_eq]; decide), fun p' hp' => QE.newT e1 r1 (QE.later x1 q1) hp'⟩
    rw [hl s m p.1 p.2 hp]; exact hn
theorem se_lst {f : SA} (h : PA X es (rdA X.K Ξ f)) (hl : ∀ s m xs m', f s m = .ok (xs, m') → xs.length = es.length) (hn : es.length ≤ 1000 := by decide) : PE X (.List es pos) (rdE X.K Ξ (eLst f)) :=
  PE_imp (pe_lst h) fun σ H Q ⟨g, s, m, em, sr, q⟩ => by
    refine ⟨g, s, m, em, sr, QR.bind q fun p hp q1 g1 H1 V x1 e1 r1 => ?_⟩
    refine ⟨rps_small r1 1000 ?_ (by rw [sizeLine_eq]; decide), fun p' hp' => QE.newL e1 r1 (QE.later x1 q1) hp'⟩
    rw [hl s m p.1 p.2 hp]; exact hn
theorem se_lstM {f : SA} (h : PA X es (rdA X.K Ξ f)) (hl : ∀ s m xs m', f s m = .ok (xs, m') → xs.length = es.length) (hn : es.length ≤ 1000 := by decide) : PE X (.List es pos) (rdE X.K Ξ (eLstM f)) :=
  PE_imp (pe_lst h) fun σ H Q ⟨g, s, m, em, sr, q⟩ => by
    refine ⟨g, s, m, em, sr, QR.bind q fun p hp q1 g1 H1 V x1 e1 r1 => ?_⟩
    refine ⟨rps_small r1 1000 ?_ (by rw [sizeLine_eq]; decide), fun p' hp' => QE.newM e1 r1 (QE.later x1 q1) hp'⟩
    rw [hl s m p.1 p.2 hp]; exact hn
end
/-- arguments come one for each expression -/
theorem al_nil : ∀ s m xs m', aNil s m = .ok (xs, m') → xs.length = ([] : List Expr).length := by
  intro s m xs m' h; cases h; rfl
theorem al_cons {fa : SE} {f : SA} {e : Expr} {es : List Expr} (h : ∀ s m xs m', f s m = .ok (xs, m') → xs.length = es.length) : ∀ s m xs m', aCons fa f s m = .ok (xs, m') → xs.length = (e :: es).length := by
  intro s m xs m' q
  obtain ⟨p, h1, h2⟩ := Rs.bind_eq_ok q
  obtain ⟨p2, h3, h4⟩ := Rs.bind_eq_ok h2
  cases h4
  rw [List.length_cons, h _ _ _ _ h3, List.length_cons]
section
variable {X : Cx} {Ξ : XC} {a b c e o : Expr} {es : List Expr} {pos : Pos} {fa fb fc : SE} {ft fu : ST} {K : PySem.W.Frag}
/-! ### calls of built-ins -/
theorem rd_eN {f : ON} {fs : SA} {σ : L2.St} {H : Hp} {Q : VK} (h : rdE K Ξ (eN f fs) σ H Q) : tCB (rdN K Ξ f) (rdA K Ξ fs) σ H Q := by
  obtain ⟨g, s, m, em, sr, q⟩ := h
  exact ⟨g, s, m, em, sr, QR.bind q fun p hp q1 g1 H1 V x1 e1 r1 => ⟨g1, p.2, p.1, e1, r1, QE.later x1 q1⟩⟩
theorem se_callB {x : Str} {p : Pos} {id : String} {f : ON} {fs : SA} (hc : CallR X (.builtin id) (rdN X.K Ξ f)) (hg : Gl X x) (hm : X.mg x = none) (hv : bootBuiltins x = some (.builtin id)) (ha : PA X (e :: es) (rdA X.K Ξ fs)) (hn : x ≠ "__name__" := by decide) (hdb : (x == ("__debug__" : Str)) = false := by decide)
    (he : starEach (e :: es) X.env = (false, eval e X.env) :: starEach es X.env := by rfl) (hpl : (backTo pos (starEach es X.env)).any (·.1) = false := by rfl) : PE X (.Call (.Name x p) (e :: es) [] pos) (rdE X.K Ξ (eN f fs)) :=
  PE_imp (pe_callB hc hg hm hv ha hn hdb he hpl) fun _ _ _ => rd_eN
theorem se_callTy {x : Str} {p : Pos} {T : String} {f : ON} {fs : SA} (hc : CallR X (.type T) (rdN X.K Ξ f)) (hg : Gl X x) (hm : X.mg x = none) (hv : bootBuiltins x = some (.type T)) (ha : PA X (e :: es) (rdA X.K Ξ fs)) (hn : x ≠ "__name__" := by decide) (hdb : (x == ("__debug__" : Str)) = false := by decide)
    (he : starEach (e :: es) X.env = (false, eval e X.env) :: starEach es X.env := by rfl) (hpl : (backTo pos (starEach es X.env)).any (·.1) = false := by rfl) : PE X (.Call (.Name x p) (e :: es) [] pos) (rdE X.K Ξ (eN f fs)) :=
  PE_imp (pe_callTy hc hg hm hv ha hn hdb he hpl) fun _ _ _ => rd_eN
/-- isinstance(x, T) -/
theorem se_isA {x y : Str} {p p2 : Pos} (t : Ty) (hg : Gl X x) (hm : X.mg x = none) (hv : bootBuiltins x = some (.builtin "isinstance")) (ha : PE X a (rdE X.K Ξ fa)) (hg2 : Gl X y) (hm2 : X.mg y = none) (hv2 : bootBuiltins y = some (.type t.name)) (hn : x ≠ "__name__" := by decide) (hdb : (x == ("__debug__" : Str)) = false := by decide)
    (hn2 : y ≠ "__name__" := by decide) (hdb2 : (y == ("__debug__" : Str)) = false := by decide) (hs : starEach [a, .Name y p2] X.env = (false, eval a X.env) :: starEach [.Name y p2] X.env := by rfl) :
    PE X (.Call (.Name x p) [a, .Name y p2] [] pos) (rdE X.K Ξ (e1 (oIsA t) fa)) :=
  PE_imp (pe_callB (call_tIsA t) hg hm hv (pa_cons ha (pa_cons (pe_bltn (v := .ty t.name) hg2 hm2 hv2 rfl hn2 hdb2) pa_nil) hs) hn hdb hs) fun σ H Q ⟨g, s, m, em, sr, q⟩ =>
    ⟨g, s, m, em, sr, QR.bind q fun p hp q1 g1 H1 V x1 e1 r1 => ⟨V, rfl, g1, p.2, p.1, e1, r1, QE.later x1 q1⟩⟩

/-! ### subscripts -/
theorem se_ix (ha : PE X a (rdE X.K Ξ fa)) (hb : PE X b (rdE X.K Ξ fb)) (hs : PlainIx b := by exact fun _ _ => rfl) : PE X (.Subscript a b pos) (rdE X.K Ξ (e2 oIx fa fb)) :=
  PE_imp (pe_ix ix_t ha hb hs) fun _ _ _ => rd_e2
/-- a[lo:hi] -/
theorem rd_part {f : SE} {σ : L2.St} {H : Hp} {Q : Option Int → Hp → Prop} (h : rdE K Ξ f σ H fun x H1 => ∃ i, x = .int i ∧ Q (some i) H1) : tPart (rdE K Ξ f) σ H Q := h
theorem se_sl0 {p2 : Pos} (ha : PE X a (rdE X.K Ξ fa)) : PE X (.Subscript a (.Slice none none none p2) pos) (rdE X.K Ξ (e1 (oSlice none none) fa)) :=
  PE_imp (pe_slice sl_t ha po_none po_none) fun σ H Q ⟨g, s, m, em, sr, q⟩ => by
    exact ⟨g, s, m, em, sr, QR.bind q fun p hp q1 g1 H1 V x1 e1 r1 => ⟨g1, p.2, p.1, e1, r1, QE.later x1 q1⟩⟩
theorem se_slL {p2 : Pos} (ha : PE X a (rdE X.K Ξ fa)) (hb : PE X b (rdE X.K Ξ fb)) : PE X (.Subscript a (.Slice (some b) none none p2) pos) (rdE X.K Ξ (eSlL fb fa)) :=
  PE_imp (pe_slice sl_t ha (po_some hb) po_none) fun σ H Q ⟨g, s, m, em, sr, q⟩ => by
    refine ⟨g, s, m, em, sr, QR.bind q fun p hp q1 g1 H1 V x1 e1 r1 => ?_⟩
    refine ⟨g1, s, p.2, e1, sr.ext em x1, QR.bind (QE.later x1 q1) fun p2 hp2 q2 g2 H2 W x2 e2 r2 => ?_⟩
    obtain ⟨l, m2⟩ := p2
    cases l with
    | int i => cases r2.int_inv; exact ⟨i, rfl, g2, m2, p.1, e2, r1.ext e1 x2, QE.later x2 q2⟩
    | _ => exact q2.elim
theorem se_slH {p2 : Pos} (ha : PE X a (rdE X.K Ξ fa)) (hb : PE X b (rdE X.K Ξ fb)) : PE X (.Subscript a (.Slice none (some b) none p2) pos) (rdE X.K Ξ (eSlH fb fa)) :=
  PE_imp (pe_slice sl_t ha po_none (po_some hb)) fun σ H Q ⟨g, s, m, em, sr, q⟩ => by
    refine ⟨g, s, m, em, sr, QR.bind q fun p hp q1 g1 H1 V x1 e1 r1 => ?_⟩
    refine ⟨g1, s, p.2, e1, sr.ext em x1, QR.bind (QE.later x1 q1) fun p2 hp2 q2 g2 H2 W x2 e2 r2 => ?_⟩
    obtain ⟨l, m2⟩ := p2
    cases l with
    | int i => cases r2.int_inv; exact ⟨i, rfl, g2, m2, p.1, e2, r1.ext e1 x2, QE.later x2 q2⟩
    | _ => exact q2.elim
theorem se_slLH {p2 : Pos} (ha : PE X a (rdE X.K Ξ fa)) (hb : PE X b (rdE X.K Ξ fb)) (hc : PE X c (rdE X.K Ξ fc)) : PE X (.Subscript a (.Slice (some b) (some c) none p2) pos) (rdE X.K Ξ (eSlLH fb fc fa)) :=
  PE_imp (pe_slice sl_t ha (po_some hb) (po_some hc)) fun σ H Q ⟨g, s, m, em, sr, q⟩ => by
    refine ⟨g, s, m, em, sr, QR.bind q fun p hp q1 g1 H1 V x1 e1 r1 => ?_⟩
    refine ⟨g1, s, p.2, e1, sr.ext em x1, QR.bind (QE.later x1 q1) fun p2 hp2 q2 g2 H2 W x2 e2 r2 => ?_⟩
    obtain ⟨l, m2⟩ := p2
    cases l with
    | int i =>
      cases r2.int_inv
      refine ⟨i, rfl, g2, s, m2, e2, (sr.ext em x1).ext e1 x2, QR.bind (QE.later x2 q2) fun p3 hp3 q3 g3 H3 U x3 e3 r3 => ?_⟩
      obtain ⟨u, m3⟩ := p3
      cases u with
      | int j => cases r3.int_inv; exact ⟨j, rfl, g3, m3, p.1, e3, (r1.ext e1 x2).ext e2 x3, QE.later x3 q3⟩
      | _ => exact q3.elim
    | _ => exact q2.elim
/-- methods of built-in types -/
def Tag.name : Tag → String
  | .list => "list" | .str => "str"
theorem tyV_of {g : Gh} {m : Mm} {H : Hp} {t : Tag} {v : PV} {w : V} (e : Emb K g m H) (h : tyOk m t v = true) (r : Rp K g H v w) : tyV K t.name w H := by
  cases t <;> cases r <;> simp only [tyOk] at h <;> first | cases h | skip
  · rename_i hh rr
    exact .inl ⟨rfl, _, SqL.of (e.ro _ _ hh).1⟩
  · rename_i hn
    split at h
    · rename_i ys hy
      obtain ⟨a', vs, h1, h2, h3⟩ := e.obj _ _ hy
      rw [hn] at h1; cases h1
      exact .inl ⟨rfl, _, SqL.of h2⟩
    · cases h
  · rfl
theorem se_meth {t : Tag} {id : String} {name : Str} {apos cpos : Pos} {f : PV → List PV → Mm → Rs (PV × Mm)} {fs : SA} {fo : SE} (pa : PlainAttrs t.name) (slot : Slot t.name name id) (hty : typeOf (.builtin id) = pure (.type "method_descriptor")) (hm : MtR X id (rdM X.K Ξ f)) (ho : PE X o (rdE X.K Ξ fo)) (ha : PA X (e :: es) (rdA X.K Ξ fs))
    (hbase : attributeBase o name X.env (eval o X.env) = eval o X.env := by rfl)
    (hfew : ((backTo cpos (starEach (e :: es) X.env)).all (fun x => !x.1) && (backToKw cpos (keywordEach [] X.env)).all (fun x => x.1.isSome)
      && decide ((e :: es).length + ([] : List Keyword).length + (if ([] : List Keyword).isEmpty then 0 else 1) < 30)) = true := by rfl)
    (hline : (apos.endLine == cpos.line) = true := by rfl) (hs : starEach (e :: es) X.env = (false, eval e X.env) :: starEach es X.env := by rfl) (hplain : (backTo cpos (starEach es X.env)).any (·.1) = false := by rfl) :
    PE X (.Call (.Attribute o name apos) (e :: es) [] cpos) (rdE X.K Ξ (eM t f fo fs)) :=
  PE_imp (pe_bm pa slot hty hm ho ha hbase hfew hline hs hplain) fun σ H Q ⟨g, s, m, em, sr, q⟩ => by
    refine ⟨g, s, m, em, sr, QR.bind q fun p hp q1 g1 H1 V x1 e1 r1 => ?_⟩
    obtain ⟨v, m1⟩ := p
    simp only at q1
    by_cases hty : tyOk m1 t v = true
    · rw [if_pos hty] at q1
      refine ⟨tyV_of e1 hty r1, g1, s, m1, e1, sr.ext em x1, QR.bind (QE.later x1 q1) fun p2 hp2 q2 g2 H2 W x2 e2 r2 => ?_⟩
      exact ⟨g2, p2.2, v, p2.1, e2, r1.ext e1 x2, r2, QE.later x2 q2⟩
    · rw [if_neg hty] at q1; exact q1.elim

/-! ### and, or, not, conditional expressions -/
theorem se_and1 {op pos} (h : PE X a (rdE X.K Ξ fa)) : PE X (.BoolOp op [a] pos) (rdE X.K Ξ fa) := pe_one h
theorem se_and {rest : List Expr} (ha : PE X a (rdE X.K Ξ fa)) (hb : PE X (.BoolOp .And (b :: rest) pos) (rdE X.K Ξ fb)) : PE X (.BoolOp .And (a :: b :: rest) pos) (rdE X.K Ξ (eAnd fa fb)) :=
  PE_imp (pe_and ha hb) fun σ H Q ⟨g, s, m, em, sr, q⟩ => by
    refine ⟨g, s, m, em, sr, QR.bind q fun p hp q1 g1 H1 V x1 e1 r1 => ?_⟩
    obtain ⟨v, m1⟩ := p
    cases v with
    | bl k =>
      cases r1.bl_inv
      refine ⟨k, rfl, ?_⟩
      cases k with
      | true => exact iteT ⟨g1, s, m1, e1, sr.ext em x1, QE.later x1 q1⟩
      | false => exact iteF (QE.ret e1 (.bl false) (QE.later x1 q1))
    | _ => exact q1.elim
theorem se_or {rest : List Expr} (ha : PE X a (rdE X.K Ξ fa)) (hb : PE X (.BoolOp .Or (b :: rest) pos) (rdE X.K Ξ fb)) : PE X (.BoolOp .Or (a :: b :: rest) pos) (rdE X.K Ξ (eOr fa fb)) :=
  PE_imp (pe_or ha hb) fun σ H Q ⟨g, s, m, em, sr, q⟩ => by
    refine ⟨g, s, m, em, sr, QR.bind q fun p hp q1 g1 H1 V x1 e1 r1 => ?_⟩
    obtain ⟨v, m1⟩ := p
    cases v with
    | bl k =>
      cases r1.bl_inv
      refine ⟨k, rfl, ?_⟩
      cases k with
      | false => exact iteF ⟨g1, s, m1, e1, sr.ext em x1, QE.later x1 q1⟩
      | true => exact iteT (QE.ret e1 (.bl true) (QE.later x1 q1))
    | _ => exact q1.elim
theorem se_not (ha : PE X a (rdE X.K Ξ fa)) : PE X (.UnaryOp .Not a pos) (rdE X.K Ξ (eNot fa)) :=
  PE_imp (pe_not ha) fun σ H Q ⟨g, s, m, em, sr, q⟩ => by
    refine ⟨g, s, m, em, sr, QR.bind q fun p hp q1 g1 H1 V x1 e1 r1 => ?_⟩
    obtain ⟨v, m1⟩ := p
    cases v with
    | bl k =>
      cases r1.bl_inv
      exact ⟨k, rfl, QE.ret e1 (.bl _) (QE.later x1 q1)⟩
    | _ => exact q1.elim
theorem sw_and1 {pos} (h : PT X a (rdT X.K Ξ ft)) : PW X (.BoolOp .And [a] pos) (rdT X.K Ξ ft) := pw_and1 h
theorem sw_or1 {pos} (h : PT X a (rdT X.K Ξ ft)) : PW X (.BoolOp .Or [a] pos) (rdT X.K Ξ ft) := pw_or1 h
theorem sw_and {rest : List Expr} (ha : PT X a (rdT X.K Ξ ft)) (hb : PW X (.BoolOp .And (b :: rest) pos) (rdT X.K Ξ fu)) : PW X (.BoolOp .And (a :: b :: rest) pos) (rdT X.K Ξ (tAnd ft fu)) :=
  PW_imp (pw_and ha hb) fun σ H Q ⟨g, s, m, em, sr, q⟩ => by
    refine ⟨g, s, m, em, sr, QR.bind q fun p hp q1 g1 H1 x1 e1 => ?_⟩
    obtain ⟨k, m1⟩ := p
    cases k with
    | true => exact iteT ⟨g1, s, m1, e1, sr.ext em x1, QT.later x1 q1⟩
    | false => exact iteF (q1 g1 H1 x1 e1)
theorem sw_or {rest : List Expr} (ha : PT X a (rdT X.K Ξ ft)) (hb : PW X (.BoolOp .Or (b :: rest) pos) (rdT X.K Ξ fu)) : PW X (.BoolOp .Or (a :: b :: rest) pos) (rdT X.K Ξ (tOr ft fu)) :=
  PW_imp (pw_or ha hb) fun σ H Q ⟨g, s, m, em, sr, q⟩ => by
    refine ⟨g, s, m, em, sr, QR.bind q fun p hp q1 g1 H1 x1 e1 => ?_⟩
    obtain ⟨k, m1⟩ := p
    cases k with
    | false => exact iteF ⟨g1, s, m1, e1, sr.ext em x1, QT.later x1 q1⟩
    | true => exact iteT (q1 g1 H1 x1 e1)
theorem st_w (h : PW X e (rdT X.K Ξ ft)) : PT X e (rdT X.K Ξ ft) := h.pt
theorem st_not (ha : PT X a (rdT X.K Ξ ft)) : PT X (.UnaryOp .Not a pos) (rdT X.K Ξ (tNot ft)) :=
  PT_imp (pt_not ha) fun σ H Q ⟨g, s, m, em, sr, q⟩ => by
    refine ⟨g, s, m, em, sr, QR.bind q fun p hp q1 g1 H1 x1 e1 => ?_⟩
    exact q1 g1 H1 x1 e1
theorem se_if (hc : PT X c (rdT X.K Ξ ft)) (ha : PE X a (rdE X.K Ξ fa)) (hb : PE X b (rdE X.K Ξ fb)) : PE X (.IfExp c a b pos) (rdE X.K Ξ (eIf ft fa fb)) :=
  PE_imp (pe_ifExp hc ha hb) fun σ H Q ⟨g, s, m, em, sr, q⟩ => by
    refine ⟨g, s, m, em, sr, QR.bind q fun p hp q1 g1 H1 x1 e1 => ?_⟩
    obtain ⟨k, m1⟩ := p
    cases k with
    | true => exact iteT ⟨g1, s, m1, e1, sr.ext em x1, QE.later x1 q1⟩
    | false => exact iteF ⟨g1, s, m1, e1, sr.ext em x1, QE.later x1 q1⟩
/-- a < b < c -/
theorem rd_chain {r r' : R2} {f f' : O2} {σ : L2.St} {H : Hp} {Q : VK} (hr : ∀ x y H Q, rd2 K Ξ f x y H Q → r x y H Q) (hr' : ∀ x y H Q, rd2 K Ξ f' x y H Q → r' x y H Q) (h : rdE K Ξ (eChain f f' fa fb fc) σ H Q) : tChain r r' (rdE K Ξ fa) (rdE K Ξ fb) (rdE K Ξ fc) σ H Q := by
  obtain ⟨g, s, m, em, sr, q⟩ := h
  refine ⟨g, s, m, em, sr, QR.bind q fun p hp q1 g1 H1 V x1 e1 r1 => ?_⟩
  refine ⟨g1, s, p.2, e1, sr.ext em x1, QR.bind (QE.later x1 q1) fun p2 hp2 q2 g2 H2 W x2 e2 r2 => ?_⟩
  have q2' := QE.later x2 q2
  refine hr _ _ _ _ ⟨g2, p2.2, p.1, p2.1, e2, r1.ext e1 x2, r2, QR.bind q2' fun p3 hp3 q3 g3 H3 Z x3 e3 r3 => ?_⟩
  obtain ⟨z, m3⟩ := p3
  cases z with
  | bl k =>
    cases r3.bl_inv
    refine ⟨k, rfl, ?_⟩
    cases k with
    | true =>
      refine iteT ⟨g3, s, m3, e3, ((sr.ext em x1).ext e1 x2).ext e2 x3, QR.bind (QE.later x3 q3) fun p4 hp4 q4 g4 H4 U x4 e4 r4 => ?_⟩
      exact hr' _ _ _ _ ⟨g4, p4.2, p2.1, p4.1, e4, (r2.ext e2 x3).ext e3 x4, r4, QE.later x4 q4⟩
    | false => exact iteF (QE.ret e3 (.bl false) (QE.later x3 q3))
  | _ => exact q3.elim
theorem se_chain {op op' : CmpOp} {f f' : O2} (h : OpR X (compareOp op) (rd2 X.K Ξ f)) (h' : OpR X (compareOp op') (rd2 X.K Ξ f')) (ha : PE X a (rdE X.K Ξ fa)) (hb : PE X b (rdE X.K Ξ fb)) (hc : PE X c (rdE X.K Ξ fc))
    (hm : lastMarks [op, op'] [b, c] = false := by with_unfolding_all rfl) : PE X (.Compare a [op, op'] [b, c] pos) (rdE X.K Ξ (eChain f f' fa fb fc)) :=
  PE_imp (pe_chain h h' ha hb hc hm) fun σ H Q q => rd_chain (fun _ _ _ _ h => h) (fun _ _ _ _ h => h) q
theorem st_chain {op op' : CmpOp} {f f' : O2} (h : OpR X (compareOp op) (rd2 X.K Ξ f)) (h' : OpR X (compareOp op') (rd2 X.K Ξ f')) (ha : PE X a (rdE X.K Ξ fa)) (hb : PE X b (rdE X.K Ξ fb)) (hc : PE X c (rdE X.K Ξ fc))
    (hm : lastMarks [op, op'] [b, c] = false := by with_unfolding_all rfl) : PT X (.Compare a [op, op'] [b, c] pos) (rdT X.K Ξ (tV (eChain f f' fa fb fc))) :=
  PT_imp (pt_chain h h' ha hb hc hm) fun σ H Q q => st_of (e := a) (fun _ h => rd_chain (fun _ _ _ _ h => h) (fun _ _ _ _ h => h) h) q
end
end TT
end

section
set_option Elab.async false
set_option linter.all false
set_option autoImplicit false
set_option maxRecDepth 100000
/-! TT: targets, statements, loops, comprehensions -/
namespace TT
open PySem PySem.Spec PyProof.Rows L2
/-- behind a target, a ghost step -/
abbrev PEndG (K : PySem.W.Frag) (g : Gh) (H : Hp) (Q : L2.St → Hp → Prop) : Sl × Mm → Prop := fun p => ∀ g' H' σ', Ext g H g' H' → Emb K g' p.2 H' → Sr K g' H' p.1 σ' → Q σ' H'
abbrev QG (K : PySem.W.Frag) (Ξ : XC) (g : Gh) (H : Hp) (Q : L2.St → Hp → Prop) (r : Rs (Sl × Mm)) : Prop := QR K Ξ g H (PEndG K g H Q) r
theorem QG.later {K : PySem.W.Frag} {Ξ : XC} {g g' : Gh} {H H' : Hp} {Q : L2.St → Hp → Prop} {r : Rs (Sl × Mm)} (x : Ext g H g' H') (h : QG K Ξ g H Q r) : QG K Ξ g' H' Q r := QR.later x h fun _ p g2 H2 V x2 => p g2 H2 V (x.trans x2)
def rdG (K : PySem.W.Frag) (Ξ : XC) (f : SG) : TG := fun v σ H Q => ∃ g s m pv, Emb K g m H ∧ Sr K g H s σ ∧ Rp K g H pv v ∧ QG K Ξ g H Q (f pv s m)
/-- names one after another -/
def rdGs (K : PySem.W.Frag) (Ξ : XC) (is : List Nat) : TGs := fun vs σ H Q => ∃ g s m pvs, Emb K g m H ∧ Sr K g H s σ ∧ Rps K g H pvs vs ∧ ∃ s', gNames is pvs s = some s' ∧ ∀ σ', Sr K g H s' σ' → Q σ' H
section
variable {X : Cx} {Ξ : XC} {a b c e o : Expr} {es : List Expr} {pos : Pos} {fa fb fc : SE} {ft : ST} {K : PySem.W.Frag}
theorem sg_name (i : Nat) {x : Str} (hN : X.N.Nodup) (hi : X.N[i]? = some x := by rfl) (hx : Loc X.env.scope x := by first | exact Or.inl rfl | exact Or.inr rfl) (hf : X.fn x = true ∨ X.env.scope.names.lookup x = some .local := by first | exact .inl rfl | exact .inr rfl | assumption) : PG X (.Name x pos) (rdG X.K Ξ (gName i)) :=
  PG_imp (pg_name hN hi hx hf) fun v σ H Q ⟨g, s, m, pv, em, sr, rv, q⟩ => q g H _ (Ext.refl _ _) em (sr.set rv i)
theorem gNames_len : ∀ (is : List Nat) (vs : List PV) (s s' : Sl), gNames is vs s = some s' → vs.length = is.length
  | [], [], _, _, _ => rfl
  | [], _ :: _, _, _, h => by cases h
  | _ :: _, [], _, _, h => by cases h
  | _ :: is, _ :: vs, s, s', h => by rw [List.length_cons, List.length_cons, gNames_len is vs _ s' h]
theorem sgs_nil : PGs X [] (rdGs X.K Ξ []) := ⟨fun pins s σ H vs us Q I r ⟨g, sl, m, pvs, em, sr, rs, s', h, q⟩ => by
  cases pvs with
  | nil => cases h; cases rs; exact pgs_nil.run pins s σ H [] us Q I r ⟨rfl, q σ sr⟩
  | cons => cases h⟩
theorem sgs_cons {is : List Nat} (i : Nat) {x : Str} {p : Pos} (hN : X.N.Nodup) (h2 : PGs X es (rdGs X.K Ξ is)) (hi : X.N[i]? = some x := by rfl) (hx : Loc X.env.scope x := by first | exact Or.inl rfl | exact Or.inr rfl) (hf : X.fn x = true ∨ X.env.scope.names.lookup x = some .local := by first | exact .inl rfl | exact .inr rfl | assumption)
    (hs : (assignEach (.Name x p :: es) X.env).map (·.2) = assign (.Name x p) X.env :: (assignEach es X.env).map (·.2) := by rfl) : PGs X (.Name x p :: es) (rdGs X.K Ξ (i :: is)) :=
  ⟨fun pins s σ H vs us Q I r ⟨g, sl, m, pvs, em, sr, rs, s', h, q⟩ => by
    cases pvs with
    | nil => cases h
    | cons pv pvs =>
      cases rs with
      | cons r1 r2 =>
        exact (pgs_cons (pg_name hN hi hx hf) h2 hs).run pins s σ H _ us Q I r ⟨_, _, rfl, g, _, m, pvs, em, sr.set r1 i, r2, s', h, q⟩⟩
theorem sg_tup {is : List Nat} {k : Nat} (n : Nat) (hc : X.calm = true) (h : PGs X es (rdGs X.K Ξ is)) (hl : is.length = n := by rfl) (hn : (assignEach es X.env).length = n := by rfl) (hst : (assignEach es X.env).findIdx? (·.1) = none := by rfl) : PG X (.Tuple es k pos) (rdG X.K Ξ (gTup is)) :=
  PG_imp (pg_tup hc h hn hst) fun v σ H Q ⟨g, s, m, pv, em, sr, rv, q⟩ => by
    unfold gTup at q
    split at q
    · rename_i vs
      obtain ⟨a, ws, rfl, ha, r1⟩ := rv.tup_inv
      split at q
      · rename_i s' hs
        have hlen : vs.length = n := by rw [← hl]; exact gNames_len _ _ _ _ hs
        exact ⟨a, ws, rfl, ha, by rw [← r1.length]; exact hlen, g, s, m, vs, em, sr, r1, s', hs, fun σ' sr' => q g H σ' (Ext.refl _ _) em sr'⟩
      · exact q.elim
    · exact q.elim
theorem sg_sub (ho : PE X o (rdE X.K Ξ fa)) (hi : PE X e (rdE X.K Ξ fb)) (ha : ∀ v, assign (.Subscript o e pos) X.env v = (do
      let ov ← holding [v] (eval o X.env)
      let iv ← holding [v, ov] (eval e X.env)
      standAt pos
      holding [v, ov, iv] (setItem ov iv v)
      release [v, ov, iv] []) := by intro _; rfl) : PG X (.Subscript o e pos) (rdG X.K Ξ (gSub fa fb)) :=
  PG_imp (pg_sub ho hi set_t ha) fun v σ H Q ⟨g, s, m, pv, em, sr, rv, q⟩ => by
    refine ⟨g, s, m, em, sr, QR.bind q fun p hp q1 g1 H1 V x1 e1 r1 => ?_⟩
    refine ⟨g1, s, p.2, e1, sr.ext em x1, QR.bind (QG.later x1 q1) fun p2 hp2 q2 g2 H2 W x2 e2 r2 => ?_⟩
    refine ⟨g2, p2.2, p.1, p2.1, pv, e2, r1.ext e1 x2, r2, (rv.ext em x1).ext e1 x2, QR.bind (QG.later x2 q2) fun m3 hm3 q3 g3 H3 x3 e3 => ?_⟩
    exact q3 g3 H3 σ x3 e3 ((((sr.ext em x1).ext e1 x2)).ext e2 x3)

/-! ### statements -/
section
variable {st : Stmt} {rest : List Stmt} {f h : SS}
theorem QS_nx {g : Gh} {H : Hp} {m : Mm} {s : Sl} {σ : L2.St} {D : Ends} (em : Emb K g m H) (sr : Sr K g H s σ) (q : QS K Ξ g H D (.ok (.nx, s, m))) : D.nx σ H := q g H σ (Ext.refl _ _) em sr
theorem rd_seq {t u : TS} {D : Ends} {σ : L2.St} {H : Hp} (ht : ∀ D σ H, rdS K Ξ f D σ H → t D σ H) (hu : ∀ D σ H, rdS K Ξ h D σ H → u D σ H) (q : rdS K Ξ (sSeq f h) D σ H) : tSeq t u D σ H := by
  obtain ⟨g, s, m, em, sr, q⟩ := q
  refine ht _ _ _ ⟨g, s, m, em, sr, QR.bind q fun p hp q1 g1 H1 σ1 x1 e1 r1 => ?_⟩
  obtain ⟨fl, s1, m1⟩ := p
  cases fl with
  | nx => exact hu D σ1 H1 ⟨g1, s1, m1, e1, r1, QS.later x1 q1⟩
  | bk => exact q1 g1 H1 σ1 x1 e1 r1
  | ct => exact q1 g1 H1 σ1 x1 e1 r1
  | rt v => exact q1 g1 H1 σ1 x1 e1 r1
theorem ss_nil : PSs X [] (rdS X.K Ξ sSkip) := PSs_imp pss_nil fun D σ H ⟨g, s, m, em, sr, q⟩ => QS_nx em sr q
theorem ss_cons (h1 : PS X st (rdS X.K Ξ f)) (h2 : PSs X rest (rdS X.K Ξ h)) : PSs X (st :: rest) (rdS X.K Ξ (sSeq f h)) :=
  PSs_imp (pss_cons h1 h2) fun D σ H q => rd_seq (fun _ _ _ h => h) (fun _ _ _ h => h) q
theorem ss_one (h1 : PS X st (rdS X.K Ξ f)) : PSs X [st] (rdS X.K Ξ f) := pss_one h1
/-- a ghost step ahead of the rest: the list in slot i is changed no more -/
theorem frz_step {K : PySem.W.Frag} {g : Gh} {m : Mm} {H : Hp} {s : Sl} {σ : L2.St} {i n : Nat} {xs : List PV} (em : Emb K g m H) (sr : Sr K g H s σ) (h1 : s[i]? = some (some (.ref n))) (h2 : m[n]? = some (.lst xs)) :
    ∃ g', Ext g H g' H ∧ Emb K g' (m.set n .dead) H ∧ Sr K g' H (s.set i (some (.vl xs))) σ := by
  obtain ⟨w, hw, rw'⟩ := sr.at_ i _ h1
  obtain ⟨a, rfl, hn⟩ := rw'.ref_inv
  obtain ⟨g', x, e', rv⟩ := em.freeze h2 hn
  refine ⟨g', x, e', ⟨by rw [List.length_set]; exact sr.len, fun j v hv => ?_⟩⟩
  by_cases hj : i = j
  · subst hj
    have hi : i < s.length := (List.getElem?_eq_some_iff.mp h1).1
    rw [List.getElem?_set_self hi] at hv
    cases hv
    exact ⟨_, hw, rv⟩
  · rw [List.getElem?_set_ne hj] at hv
    obtain ⟨u, h3, h4⟩ := sr.at_ j v hv
    exact ⟨u, h3, h4.ext em x⟩
theorem ss_frz {sts : List Stmt} (i : Nat) (h1 : PSs X sts (rdS X.K Ξ f)) : PSs X sts (rdS X.K Ξ (sSeq (sFrz i) f)) :=
  PSs_imp h1 fun D σ H ⟨g, s, m, em, sr, q⟩ => by
    simp only [sSeq, sFrz] at q
    split at q
    · rename_i n hn
      split at q
      · rename_i xs hx
        obtain ⟨g', x, e', sr'⟩ := frz_step em sr hn hx
        exact ⟨g', _, _, e', sr', QS.later x q⟩
      · exact q.elim
    · exact q.elim
theorem ss_expr (he : PE X e (rdE X.K Ξ fa)) (hs : swapsWith e none pos.line X.env = pure false := by rfl) : PS X (.Expr e pos) (rdS X.K Ξ (sExpr fa)) :=
  PS_imp (ps_expr he hs) fun D σ H ⟨g, s, m, em, sr, q⟩ =>
    ⟨g, s, m, em, sr, QR.bind q fun p hp q1 g1 H1 V x1 e1 r1 => QS_nx e1 (sr.ext em x1) (QS.later x1 q1)⟩
theorem ss_ret (he : PE X e (rdE X.K Ξ fa)) : PS X (.Return (some e) pos) (rdS X.K Ξ (sRet fa)) :=
  PS_imp (ps_ret he) fun D σ H ⟨g, s, m, em, sr, q⟩ =>
    ⟨g, s, m, em, sr, QR.bind q fun p hp q1 g1 H1 V x1 e1 r1 => q1 g1 H1 σ x1 e1 (sr.ext em x1) V r1⟩
theorem ss_retN : PS X (.Return none pos) (rdS X.K Ξ sRetN) :=
  PS_imp ps_retN fun D σ H ⟨g, s, m, em, sr, q⟩ => q g H σ (Ext.refl _ _) em sr _ .non
theorem ss_pass : PS X (.Pass pos) (rdS X.K Ξ sSkip) := PS_imp ps_pass fun D σ H ⟨g, s, m, em, sr, q⟩ => QS_nx em sr q
theorem ss_break : PS X (.Break pos) (rdS X.K Ξ sBreak) := PS_imp ps_break fun D σ H ⟨g, s, m, em, sr, q⟩ => q g H σ (Ext.refl _ _) em sr
theorem ss_cont : PS X (.Continue pos) (rdS X.K Ξ sCont) := PS_imp ps_continue fun D σ H ⟨g, s, m, em, sr, q⟩ => q g H σ (Ext.refl _ _) em sr
theorem ss_never : PS X st (rdS X.K Ξ sNever) := PS_imp ps_never fun D σ H ⟨g, s, m, em, sr, q⟩ => q.elim
theorem ss_if {c : Expr} {b1 b2 : List Stmt} (hc : PT X c (rdT X.K Ξ ft)) (ha : PSs X b1 (rdS X.K Ξ f)) (hb : PSs X b2 (rdS X.K Ξ h)) : PS X (.If c b1 b2 pos) (rdS X.K Ξ (sIf ft f h)) :=
  PS_imp (ps_if hc ha hb) fun D σ H ⟨g, s, m, em, sr, q⟩ => by
    refine ⟨g, s, m, em, sr, QR.bind q fun p hp q1 g1 H1 x1 e1 => ?_⟩
    obtain ⟨k, m1⟩ := p
    cases k with
    | true => exact iteT ⟨g1, s, m1, e1, sr.ext em x1, QS.later x1 q1⟩
    | false => exact iteF ⟨g1, s, m1, e1, sr.ext em x1, QS.later x1 q1⟩
theorem ss_asg {tg : Expr} {fg : SG} (he : PE X e (rdE X.K Ξ fa)) (hg : PG X tg (rdG X.K Ξ fg)) (hs : swapsWithSole [tg] e pos.line X.env = pure false := by rfl) (hw : swappedStores [tg] e X.env = pure none := by rfl)
    (h1 : (assignEach [tg] X.env).map (·.2) = [assign tg X.env] := by rfl) : PS X (.Assign [tg] e pos) (rdS X.K Ξ (sAsg fa fg)) :=
  PS_imp (ps_asg he hg hs hw h1) fun D σ H ⟨g, s, m, em, sr, q⟩ => by
    refine ⟨g, s, m, em, sr, QR.bind q fun p hp q1 g1 H1 V x1 e1 r1 => ?_⟩
    refine ⟨g1, s, p.2, p.1, e1, sr.ext em x1, r1, QR.bind (QS.later x1 q1) fun p2 hp2 q2 g2 H2 σ2 x2 e2 r2 => ?_⟩
    exact QS_nx e2 r2 (QS.later x2 q2)
theorem ss_set (i : Nat) {x : Str} {pos' : Pos} (hN : X.N.Nodup) (he : PE X e (rdE X.K Ξ fa)) (hi : X.N[i]? = some x := by rfl) (hx : Loc X.env.scope x := by first | exact Or.inl rfl | exact Or.inr rfl) (hs : swapsWith e (some (.Name x pos')) pos.line X.env = pure false := by rfl) (hf : X.fn x = true ∨ X.env.scope.names.lookup x = some .local := by first | exact .inl rfl | exact .inr rfl | assumption) :
    PS X (.Assign [.Name x pos'] e pos) (rdS X.K Ξ (sAsg fa (gName i))) :=
  PS_imp (ps_set hN hi hx he hs hf) fun D σ H ⟨g, s, m, em, sr, q⟩ => by
    refine ⟨g, s, m, em, sr, QR.bind q fun p hp q1 g1 H1 V x1 e1 r1 => ?_⟩
    exact QS_nx e1 ((sr.ext em x1).set r1 i) (QS.later x1 q1)
theorem ss_par2 (i j : Nat) {x y : Str} {px py pt : Pos} {kt k2 pt2} {fs : SA} (hc : X.calm = true) (hN : X.N.Nodup) (ha : PA X [a, b] (rdA X.K Ξ fs)) (hi : X.N[i]? = some x := by rfl) (hj : X.N[j]? = some y := by rfl) (hij : i ≠ j := by decide)
    (hx : X.env.scope.names.lookup x = some .local := by rfl) (hy : X.env.scope.names.lookup y = some .local := by rfl)
    (hw : swappedStores [.Tuple [.Name x px, .Name y py] kt pt] (.Tuple [a, b] k2 pt2) X.env = pure (some [x, y]) := by rfl)
    (hs : swapsWithSole [.Tuple [.Name x px, .Name y py] kt pt] (.Tuple [a, b] k2 pt2) pos.line X.env = pure false := by rfl) :
    PS X (.Assign [.Tuple [.Name x px, .Name y py] kt pt] (.Tuple [a, b] k2 pt2) pos) (rdS X.K Ξ (sPar2 i j fs)) :=
  PS_imp (ps_par hc hN hi hj hij hx hy ha hw hs) fun D σ H ⟨g, s, m, em, sr, q⟩ => by
    refine ⟨g, s, m, em, sr, QR.bind q fun p hp q1 g1 H1 V x1 e1 r1 => ?_⟩
    obtain ⟨xs, m1⟩ := p
    simp only at q1
    split at q1
    · rename_i u v
      cases r1 with
      | cons ra rb => cases rb with
        | cons rb rc =>
          cases rc
          exact ⟨_, _, rfl, QS_nx e1 (((sr.ext em x1).set ra i).set rb j) (QS.later x1 q1)⟩
    · exact q1.elim
theorem ss_par3 (i j l : Nat) {x y z : Str} {px py pz pt : Pos} {kt k2 pt2} {fs : SA} (hc : X.calm = true) (hN : X.N.Nodup) (ha : PA X [a, b, c] (rdA X.K Ξ fs)) (hi : X.N[i]? = some x := by rfl) (hj : X.N[j]? = some y := by rfl) (hl : X.N[l]? = some z := by rfl) (hij : i ≠ j := by decide) (hil : i ≠ l := by decide) (hjl : j ≠ l := by decide)
    (hx : X.env.scope.names.lookup x = some .local := by rfl) (hy : X.env.scope.names.lookup y = some .local := by rfl) (hz : X.env.scope.names.lookup z = some .local := by rfl)
    (hw : swappedStores [.Tuple [.Name x px, .Name y py, .Name z pz] kt pt] (.Tuple [a, b, c] k2 pt2) X.env = pure (some [x, y, z]) := by rfl)
    (hs : swapsWithSole [.Tuple [.Name x px, .Name y py, .Name z pz] kt pt] (.Tuple [a, b, c] k2 pt2) pos.line X.env = pure false := by rfl) :
    PS X (.Assign [.Tuple [.Name x px, .Name y py, .Name z pz] kt pt] (.Tuple [a, b, c] k2 pt2) pos) (rdS X.K Ξ (sPar3 i j l fs)) :=
  PS_imp (ps_par3 hc hN hi hj hl hij hil hjl hx hy hz ha hw hs) fun D σ H ⟨g, s, m, em, sr, q⟩ => by
    refine ⟨g, s, m, em, sr, QR.bind q fun p hp q1 g1 H1 V x1 e1 r1 => ?_⟩
    obtain ⟨xs, m1⟩ := p
    simp only at q1
    split at q1
    · cases r1 with
      | cons ra rb => cases rb with
        | cons rb rc => cases rc with
          | cons rc rd =>
            cases rd
            exact ⟨_, _, _, rfl, QS_nx e1 ((((sr.ext em x1).set ra i).set rb j).set rc l) (QS.later x1 q1)⟩
    · exact q1.elim

/-! ### while -/
theorem ss_while {body : List Stmt} (hp : PassesOwn (model X.prog X.w) X.A X.env X.xe) (hc : PT X c (rdT X.K Ξ ft)) (hb : PSs X body (rdS X.K Ξ f)) : PS X (.While c body [] pos) (rdS X.K Ξ (sWhile ft f)) :=
  PS_imp (ps_while hp hc hb) fun D σ H ⟨g, s, m, em, sr, q⟩ => by
    refine ⟨fun n σ H => ∃ g s m, Emb X.K g m H ∧ Sr X.K g H s σ ∧ QS X.K Ξ g H D (whileF ft f n s m), ⟨FUEL, g, s, m, em, sr, q⟩, ?_⟩
    rintro n σ1 H1 ⟨g1, s1, m1, e1, r1, q1⟩
    cases n with
    | zero => exact q1.elim
    | succ n =>
      refine ⟨g1, s1, m1, e1, r1, QR.bind q1 fun p hp q2 g2 H2 x2 e2 => ?_⟩
      obtain ⟨k, m2⟩ := p
      cases k with
      | false => exact iteF (QS_nx e2 (r1.ext e1 x2) (QS.later x2 q2))
      | true =>
        refine iteT ⟨fun σ' H' => ∃ g s m, Emb X.K g m H' ∧ Sr X.K g H' s σ' ∧ QS X.K Ξ g H' D (whileF ft f n s m), fun σ' H' hN => ⟨n, Nat.lt_succ_self _, hN⟩, ?_⟩
        refine ⟨g2, s1, m2, e2, r1.ext e1 x2, QR.bind (QS.later x2 q2) fun p3 hp3 q3 g3 H3 σ3 x3 e3 r3 => ?_⟩
        obtain ⟨fl, s3, m3⟩ := p3
        cases fl with
        | nx => exact ⟨g3, s3, m3, e3, r3, QS.later x3 q3⟩
        | ct => exact ⟨g3, s3, m3, e3, r3, QS.later x3 q3⟩
        | bk => exact QS_nx e3 r3 (QS.later x3 q3)
        | rt v => exact q3 g3 H3 σ3 x3 e3 r3

/-! ### for -/
/-- the iterator walks these items, whatever the heap becomes -/
structure Wk (K : PySem.W.Frag) (g : Gh) (H : Hp) (xs : List PV) (J : It) : Prop where
  go : ∀ g' m' H' i, Ext g H g' H' → Emb K g' m' H' → i < xs.length → J.go i H' ∧ ∀ x H2, J.yld i H' x H2 → ∃ g2 v, Ext g' H' g2 H2 ∧ Emb K g2 m' H2 ∧ xs[i]? = some v ∧ Rp K g2 H2 v x
  stop : ∀ g' m' H' i, Ext g H g' H' → Emb K g' m' H' → xs.length ≤ i → J.stop i H'
def rdI (K : PySem.W.Frag) (Ξ : XC) (it : SI) : TI := fun σ H R => ∃ g s m, Emb K g m H ∧ Sr K g H s σ ∧ QR K Ξ g H (fun p => ∀ g' H' J, Ext g H g' H' → Emb K g' p.2 H' → Wk K g' H' p.1 J → R J H') (it s m)
theorem PI_imp {tg iter : Expr} {t t' : TI} (h : PI X tg iter t) (i : ∀ σ H R, t' σ H R → t σ H R) : PI X tg iter t' := ⟨fun pins s σ H R I q => h.run pins s σ H R I (i σ H R q)⟩
theorem ss_for {tg iter : Expr} {body : List Stmt} {it : SI} {fg : SG} (hp : PassesOwn (model X.prog X.w) X.A X.env X.xe) (hc : X.calm = true) (hi : PI X tg iter (rdI X.K Ξ it)) (hg : PG X tg (rdG X.K Ξ fg)) (hb : PSs X body (rdS X.K Ξ f))
    (hs : ∀ x, foldedSetIterable iter X.env x = pure x := by intro _; rfl) : PS X (.For tg iter body [] pos) (rdS X.K Ξ (sFor it fg f)) :=
  PS_imp (ps_for hp hc hi hg hb hs) fun D σ H ⟨g, s, m, em, sr, q⟩ => by
    refine ⟨g, s, m, em, sr, QR.bind q fun p hp q1 g1 H1 J x1 e1 wk => ?_⟩
    obtain ⟨xs, m1⟩ := p
    refine ⟨fun i n σ H => ∃ g s m, Ext g1 H1 g H ∧ Emb X.K g m H ∧ Sr X.K g H s σ ∧ n = xs.length - i ∧ QS X.K Ξ g H D (forL fg f (xs.drop i) s m), ⟨xs.length, g1, s, m1, Ext.refl _ _, e1, sr.ext em x1, by simp, QS.later x1 (by simpa using q1)⟩, ?_⟩
    rintro i n σ2 H2 ⟨g2, s2, m2, x2, e2, r2, rfl, q2⟩
    by_cases hlt : i < xs.length
    · obtain ⟨h1, h2⟩ := wk.go g2 m2 H2 i x2 e2 hlt
      refine .inr ⟨h1, fun σ' H' => ∃ g s m, Ext g1 H1 g H' ∧ Emb X.K g m H' ∧ Sr X.K g H' s σ' ∧ QS X.K Ξ g H' D (forL fg f (xs.drop (i + 1)) s m), ?_, ?_⟩
      · rintro σ' H' ⟨g', s', m', hx, he, hr, hq⟩
        exact ⟨xs.length - (i + 1), by omega, g', s', m', hx, he, hr, rfl, hq⟩
      · intro x H3 hy
        obtain ⟨g3, v, x3, e3, hv, rv⟩ := h2 x H3 hy
        have hd : xs.drop i = v :: xs.drop (i + 1) := by
          rw [List.drop_eq_getElem_cons hlt]
          rw [List.getElem?_eq_getElem hlt] at hv
          cases hv; rfl
        rw [hd] at q2
        refine ⟨g3, s2, m2, v, e3, r2.ext e2 x3, rv, QR.bind (QS.later x3 q2) fun p4 hp4 q4 g4 H4 σ4 x4 e4 r4 => ?_⟩
        refine ⟨g4, p4.1, p4.2, e4, r4, QR.bind (QS.later x4 q4) fun p5 hp5 q5 g5 H5 σ5 x5 e5 r5 => ?_⟩
        obtain ⟨fl, s5, m5⟩ := p5
        have xx : Ext g1 H1 g5 H5 := ((x2.trans x3).trans x4).trans x5
        cases fl with
        | nx => exact ⟨g5, s5, m5, xx, e5, r5, QS.later x5 q5⟩
        | ct => exact ⟨g5, s5, m5, xx, e5, r5, QS.later x5 q5⟩
        | bk => exact QS_nx e5 r5 (QS.later x5 q5)
        | rt v => exact q5 g5 H5 σ5 x5 e5 r5
    · have hle : xs.length ≤ i := Nat.le_of_not_lt hlt
      refine .inl ⟨wk.stop g2 m2 H2 i x2 e2 hle, ?_⟩
      rw [List.drop_of_length_le hle] at q2
      exact QS_nx e2 r2 q2

/-! what is walked -/
theorem wk_vl {g : Gh} {H : Hp} {xs : List PV} {a : Addr} {vs : List V} (ha : g.ro a = some (.lst vs)) (r : Rps K g H xs vs) {m : Mm} (em : Emb K g m H) : Wk K g H xs (Itl K a) := by
  refine ⟨fun g' m' H' i x' e' hi => ?_, fun g' m' H' i x' e' hi => ?_⟩
  · have h1 : H' a = some (.lst vs) := (e'.ro _ _ (x'.ro _ _ ha)).1
    have r' := r.ext em x'
    have hlt : i < vs.length := by rw [← r.length]; exact hi
    refine ⟨⟨vs, vs[i], SqL.of h1, List.getElem?_eq_getElem hlt⟩, fun x H2 ⟨e2, hy⟩ => ?_⟩
    subst e2
    have hx := hy vs (SqL.of h1)
    obtain ⟨v, hv, rv⟩ := r'.get' hx
    exact ⟨g', v, Ext.refl _ _, e', hv, rv⟩
  · have h1 : H' a = some (.lst vs) := (e'.ro _ _ (x'.ro _ _ ha)).1
    exact ⟨vs, SqL.of h1, by rw [← r.length]; exact hi⟩
theorem wk_tup {g : Gh} {H : Hp} {xs : List PV} {a : Addr} {vs : List V} (ha : SqT K H a vs) (r : Rps K g H xs vs) {m : Mm} (em : Emb K g m H) : Wk K g H xs (Itt K a) := by
  refine ⟨fun g' m' H' i x' e' hi => ?_, fun g' m' H' i x' e' hi => ?_⟩
  · have h1 := em.sqT x' ha
    have r' := r.ext em x'
    have hlt : i < vs.length := by rw [← r.length]; exact hi
    refine ⟨⟨vs, vs[i], h1, List.getElem?_eq_getElem hlt⟩, fun x H2 ⟨e2, hy⟩ => ?_⟩
    subst e2
    have hx := hy vs h1
    obtain ⟨v, hv, rv⟩ := r'.get' hx
    exact ⟨g', v, Ext.refl _ _, e', hv, rv⟩
  · exact ⟨vs, em.sqT x' ha, by rw [← r.length]; exact hi⟩
theorem rngL_len : ∀ (n : Nat) (lo : Int), (rngL lo n).length = n
  | 0, _ => rfl
  | n + 1, lo => by rw [rngL, List.length_cons, rngL_len n]
theorem rngL_get : ∀ (n : Nat) (lo : Int) (i : Nat), i < n → (rngL lo n)[i]? = some (.int (lo + i))
  | 0, _, i, h => absurd h (Nat.not_lt_zero i)
  | n + 1, lo, 0, _ => by simp [rngL]
  | n + 1, lo, i + 1, h => by
    rw [rngL, List.getElem?_cons_succ, rngL_get n (lo + 1) i (Nat.lt_of_succ_lt_succ h)]
    have : lo + 1 + (i : Int) = lo + ((i + 1 : Nat) : Int) := by omega
    rw [this]
theorem wk_rng {g : Gh} {H : Hp} {lo : Int} {n : Nat} : Wk K g H (rngL lo n) (Itr lo n) := by
  refine ⟨fun g' m' H' i x' e' hi => ?_, fun g' m' H' i x' e' hi => ?_⟩
  · rw [rngL_len] at hi
    refine ⟨hi, fun x H2 ⟨e2, hy⟩ => ?_⟩
    subst e2
    subst hy
    exact ⟨g', _, Ext.refl _ _, e', rngL_get n lo i hi, .int _⟩
  · rw [rngL_len] at hi; exact hi
variable {tg : Expr}
/-- a list, by a value -/
theorem si_list (h : PE X e (rdE X.K Ξ fa)) : PI X tg e (rdI X.K Ξ (iL fa)) :=
  PI_imp (pi_list h) fun σ H R ⟨g, s, m, em, sr, q⟩ => by
    refine ⟨g, s, m, em, sr, QR.bind q fun p hp q1 g1 H1 V x1 e1 r1 => ?_⟩
    obtain ⟨v, m1⟩ := p
    cases v with
    | vl xs => cases r1 with
      | vl ha rr => exact ⟨_, rfl, ⟨_, SqL.of (e1.ro _ _ ha).1⟩, q1 g1 H1 _ x1 e1 (wk_vl ha rr e1)⟩
    | _ => exact q1.elim
theorem si_tup (h : PE X e (rdE X.K Ξ fa)) : PI X tg e (rdI X.K Ξ (iT fa)) :=
  PI_imp (pi_tup h) fun σ H R ⟨g, s, m, em, sr, q⟩ => by
    refine ⟨g, s, m, em, sr, QR.bind q fun p hp q1 g1 H1 V x1 e1 r1 => ?_⟩
    obtain ⟨v, m1⟩ := p
    cases v with
    | tup xs => cases r1 with
      | tup ha rr => exact ⟨_, rfl, ⟨_, ha⟩, q1 g1 H1 _ x1 e1 (wk_tup ha rr e1)⟩
    | _ => exact q1.elim
theorem si_rng1 {p p2 : Pos} (hg : Gl X "range") (hm : X.mg "range" = none) (h : PE X e (rdE X.K Ξ fa)) (hs : starEach [e] X.env = [(false, eval e X.env)] := by rfl) : PI X tg (.Call (.Name "range" p) [e] [] p2) (rdI X.K Ξ (TT.iRng1 fa)) :=
  PI_imp (pi_range1 hg hm (pa_cons h pa_nil hs) hs) fun σ H R ⟨g, s, m, em, sr, q⟩ => by
    refine ⟨g, s, m, em, sr, QR.bind q fun p hp q1 g1 H1 V x1 e1 r1 => ?_⟩
    obtain ⟨v, m1⟩ := p
    cases v with
    | int j =>
      cases r1.int_inv
      simp only at q1
      split at q1
      · rename_i hc
        simp only [Bool.and_eq_true, decide_eq_true_eq] at hc
        have p62 : P62 = 2 ^ 62 := by decide
        rw [p62] at hc
        exact ⟨j, rfl, hc.1, hc.2, q1 g1 H1 _ x1 e1 wk_rng⟩
      · exact q1.elim
    | _ => exact q1.elim
theorem si_rng2 {p p2 : Pos} (hg : Gl X "range") (hm : X.mg "range" = none) (h : PE X a (rdE X.K Ξ fa)) (h' : PE X b (rdE X.K Ξ fb)) (hs : starEach [a, b] X.env = [(false, eval a X.env), (false, eval b X.env)] := by rfl) (hs2 : starEach [b] X.env = [(false, eval b X.env)] := by rfl) : PI X tg (.Call (.Name "range" p) [a, b] [] p2) (rdI X.K Ξ (TT.iRng2 fa fb)) :=
  PI_imp (pi_range2 hg hm (pa_cons h (pa_cons h' pa_nil hs2) (by rw [hs, hs2])) hs hs2) fun σ H R ⟨g, s, m, em, sr, q⟩ => by
    refine ⟨g, s, m, em, sr, QR.bind q fun p hp q1 g1 H1 V x1 e1 r1 => ?_⟩
    refine ⟨g1, s, p.2, e1, sr.ext em x1, QR.bind (QR.later x1 q1 fun _ q g' H' J x => q g' H' J (x1.trans x)) fun p2 hp2 q2 g2 H2 W x2 e2 r2 => ?_⟩
    obtain ⟨v, m1⟩ := p
    obtain ⟨u, m2⟩ := p2
    simp only at q2
    split at q2
    · rename_i i j
      cases r1.int_inv; cases r2.int_inv
      split at q2
      · rename_i hc
        simp only [Bool.and_eq_true, decide_eq_true_eq] at hc
        have p62 : P62 = 2 ^ 62 := by decide
        rw [p62] at hc
        exact ⟨i, j, rfl, ⟨hc.1.1.1, hc.1.1.2, hc.1.2, hc.2⟩, q2 g2 H2 _ x2 e2 wk_rng⟩
      · exact q2.elim
    · exact q2.elim
end
end
end TT
end

section
set_option Elab.async false
set_option linter.all false
set_option autoImplicit false
set_option maxRecDepth 100000
/-! TT: comprehensions, calls, defs -/
namespace TT
open PySem PySem.Spec PyProof.Rows L2
abbrev X0 : XC := fun _ _ _ _ => False
section
variable {X : Cx} {Ξ : XC} {a b c e o : Expr} {es : List Expr} {pos : Pos} {fa fb fc : SE} {ft : ST} {K : PySem.W.Frag}
theorem QR.nx {g : Gh} {H : Hp} {α : Type} {P : α → Prop} {r : Rs α} (h : QR K Ξ g H P r.nx) : QR K X0 g H P r := by
  cases r with
  | ok a => exact h
  | ex e m => exact h.elim
  | no => exact h
theorem QR.nxAt {g g1 : Gh} {H H1 : Hp} {α β : Type} {r : Rs α} {k : α → Rs β} {P : β → Prop} {P' : α → Prop} (h : QR K Ξ g1 H1 P (r.nx.bind k)) (f : ∀ a, r = .ok a → QR K Ξ g1 H1 P (k a) → P' a) : QR K X0 g H P' r := by
  cases r with
  | ok a => exact f a rfl h
  | ex e m => exact h.elim
  | no => exact h

/-! ### comprehensions -/
mutual
theorem Rp.mono {g g' : Gh} {H H' : Hp} (h1 : ∀ n a, g.φ n = some a → g'.φ n = some a) (h2 : ∀ a u, g.ro a = some u → g'.ro a = some u) (h3 : ∀ a xs, SqT K H a xs → SqT K H' a xs) : ∀ {v : PV} {w : V}, Rp K g H v w → Rp K g' H' v w
  | _, _, .non => .non
  | _, _, .bl b => .bl b
  | _, _, .int i => .int i
  | _, _, .str l => .str l
  | _, _, .tup h r => .tup (h3 _ _ h) (Rps.mono h1 h2 h3 r)
  | _, _, .vl h r => .vl (h2 _ _ h) (Rps.mono h1 h2 h3 r)
  | _, _, .fz h r => .fz (sqL_mono h2 h) (Rps.mono h1 h2 h3 r)
  | _, _, .ref h => .ref (h1 _ _ h)
  | _, _, .fn a => .fn a
theorem Rps.mono {g g' : Gh} {H H' : Hp} (h1 : ∀ n a, g.φ n = some a → g'.φ n = some a) (h2 : ∀ a u, g.ro a = some u → g'.ro a = some u) (h3 : ∀ a xs, SqT K H a xs → SqT K H' a xs) : ∀ {v : List PV} {w : List V}, Rps K g H v w → Rps K g' H' v w
  | _, _, .nil => .nil
  | _, _, .cons h r => .cons (Rp.mono h1 h2 h3 h) (Rps.mono h1 h2 h3 r)
end
theorem Emb.other {g : Gh} {m : Mm} {H : Hp} (e : Emb K g m H) {D : Addr} {o : HO} (h1 : ∀ n, g.φ n ≠ some D) (h2 : g.ro D = none) (h3 : ∀ xs, ¬ Rd H D (.tup xs)) (h4 : LamX.Tabs g.T (upd H D o)) : Emb K g m (upd H D o) ∧ ∀ {v w}, Rp K g H v w → Rp K g (upd H D o) v w := by
  have hT : ∀ a xs, SqT K H a xs → SqT K (upd H D o) a xs := fun a xs h => by
    rcases h with h | h
    · have : a ≠ D := fun z => h3 xs (by rw [← z]; exact h)
      rcases h with h | ⟨ob, h⟩
      · exact .inl (.inl (by rw [upd_ne this]; exact h))
      · exact .inl (.inr ⟨ob, by rw [upd_ne this]; exact h⟩)
    · exact .inr h
  have key : ∀ (v : PV) (w : V), Rp K g H v w → Rp K g (upd H D o) v w := fun v w r => r.mono (fun _ _ h => h) (fun _ _ h => h) hT
  have keys : ∀ (v : List PV) (w : List V), Rps K g H v w → Rps K g (upd H D o) v w := fun v w r => r.mono (fun _ _ h => h) (fun _ _ h => h) hT
  refine ⟨⟨fun n ob h => ?_, fun n a h => ?_, e.inj, fun a u h => ?_, e.nt, h4⟩, fun {v w} r => key v w r⟩
  · have q := e.obj n ob h
    cases ob with
    | lst ys =>
      obtain ⟨a, ws, q1, q2, q3⟩ := q
      exact ⟨a, ws, q1, by rw [upd_ne (fun z => h1 n (by rw [← z]; exact q1))]; exact q2, keys _ _ q3⟩
    | dict ys =>
      obtain ⟨a, ws, q1, q2, q3⟩ := q
      exact ⟨a, ws, q1, by rw [upd_ne (fun z => h1 n (by rw [← z]; exact q1))]; exact q2, q3.imp (key _ _)⟩
    | dead => trivial
    | tab P l => exact q
  · obtain ⟨q1, u, q2, q3⟩ := e.dom n a h
    exact ⟨q1, u, by rw [upd_ne (fun z => h1 n (by rw [← z]; exact h))]; exact q2, q3⟩
  · obtain ⟨q1, q2⟩ := e.ro a u h
    exact ⟨by rw [upd_ne (fun z => by rw [z, h2] at h; cases h)]; exact q1, q2⟩
theorem Ext.other {g g' : Gh} {H H' : Hp} {D : Addr} {o : HO} (x : Ext g H g' H') (hD : H D = none) : Ext g H g' (upd H' D o) :=
  ⟨x.phi, x.ro, fun a u h n t => by rw [upd_ne (ne_of_none h hD)]; exact x.fr a u h n t, x.old, x.oldr, x.T⟩
theorem rps_of_rp {g : Gh} {H H' : Hp} (f : ∀ {v w}, Rp K g H v w → Rp K g H' v w) : ∀ {v : List PV} {w : List V}, Rps K g H v w → Rps K g H' v w
  | _, _, .nil => .nil
  | _, _, .cons a b => .cons (f a) (rps_of_rp f b)
theorem sr_of_rp {g : Gh} {H H' : Hp} {s : Sl} {σ : L2.St} (f : ∀ {v w}, Rp K g H v w → Rp K g H' v w) (r : Sr K g H s σ) : Sr K g H' s σ :=
  ⟨r.len, fun i v h => let ⟨w, h1, h2⟩ := r.at_ i v h; ⟨w, h1, f h2⟩⟩
/-- a comprehension's reading, from its function -/
theorem rd_lc {own : List Nat} {it : SI} {fg : SG} {ft : ST} {fe : SE} {tg : TG} {σ : L2.St} {H : Hp} {Q : VK}
    (hw : ∀ (v : V) (σ : L2.St) (H : Hp) (Q : L2.St → Hp → Prop), rdG K X0 fg v (L2.wipe σ own) H Q → tg v (L2.wipe σ own) H fun (σ2 : L2.St) H2 => L2.wipe σ2 own = L2.wipe σ own ∧ Q σ2 H2)
    (h : rdE K Ξ (eLc own it fg ft fe) σ H Q) : tLc (rdI K Ξ it) tg (rdT K X0 ft) (rdE K X0 fe) own σ H Q := by
  obtain ⟨g, s, m, em, sr, q⟩ := h
  refine ⟨g, s, m, em, sr, QR.bind q fun p hp q1 g1 H1 J x1 e1 wk => ?_⟩
  obtain ⟨xs, m1⟩ := p
  intro D hD
  have q1' : QE K Ξ g1 H1 Q ((lcL fg ft fe (TT.wipe s own) xs m1 []).bind fun p => Rs.ok (PV.vl p.1, p.2)) := QE.later x1 q1
  have e0 := e1.other (o := .lst []) (fun n => e1.free hD n) (e1.freeR hD) (fun xs h => by rcases h with h | ⟨ob, h⟩ <;> rw [hD] at h <;> cases h) (tabs_new e1.tab hD)
  refine ⟨fun i n H => ∃ g m acc ws, Ext g1 H1 g H ∧ Emb K g m H ∧ Sr K g H (TT.wipe s own) (L2.wipe σ own) ∧ H D = some (.lst ws) ∧ Rps K g H acc ws ∧ (∀ n, g.φ n ≠ some D) ∧ g.ro D = none ∧ n = xs.length - i ∧
      QE K Ξ g1 H1 Q ((lcL fg ft fe (TT.wipe s own) (xs.drop i) m acc).bind fun p => Rs.ok (PV.vl p.1, p.2)), ⟨xs.length, g1, m1, [], [], (Ext.refl _ _).other hD, e0.1, sr_of_rp e0.2 ((sr.ext em x1).wipe own), upd_same, .nil, fun n => e1.free hD n, e1.freeR hD, by simp, by simpa using q1'⟩, ?_⟩
  rintro i n H2 ⟨g2, m2, acc, ws, x2, e2, r2, hD2, ra, f1, f2, rfl, q2⟩
  by_cases hlt : i < xs.length
  · obtain ⟨h1, h2⟩ := wk.go g2 m2 H2 i x2 e2 hlt
    refine .inr ⟨h1, fun H' => ∃ g m acc ws, Ext g1 H1 g H' ∧ Emb K g m H' ∧ Sr K g H' (TT.wipe s own) (L2.wipe σ own) ∧ H' D = some (.lst ws) ∧ Rps K g H' acc ws ∧ (∀ n, g.φ n ≠ some D) ∧ g.ro D = none ∧
      QE K Ξ g1 H1 Q ((lcL fg ft fe (TT.wipe s own) (xs.drop (i + 1)) m acc).bind fun p => Rs.ok (PV.vl p.1, p.2)), ?_, ?_⟩
    · rintro H' ⟨g', m', acc', ws', hx, he, hr, hd, ha, hf1, hf2, hq⟩
      exact ⟨xs.length - (i + 1), by omega, g', m', acc', ws', hx, he, hr, hd, ha, hf1, hf2, rfl, hq⟩
    · intro x H3 hy
      obtain ⟨g3, v, x3, e3, hv, rv⟩ := h2 x H3 hy
      have hd : xs.drop i = v :: xs.drop (i + 1) := by
        rw [List.drop_eq_getElem_cons hlt]
        rw [List.getElem?_eq_getElem hlt] at hv
        cases hv; rfl
      rw [hd] at q2
      simp only [lcL] at q2
      -- the bind of the whole
      have reb : ∀ {α β γ : Type} (r : Rs α) (k : α → Rs β) (l : β → Rs γ), (r.bind k).bind l = r.bind fun a => (k a).bind l := fun r k l => by cases r <;> rfl
      rw [reb] at q2
      have nL : ∀ {zs : List V}, NT (.lst zs) := fun ps z => nomatch z
      have r3 := r2.ext e2 x3
      have a3 := ra.ext e2 x3
      have d3 := x3.fr _ _ hD2 f1 nL
      have f13 := x3.old _ _ hD2 f1 nL
      have f23 := x3.oldr _ _ hD2 f1 nL f2
      have xx3 := x2.trans x3
      refine hw x σ H3 _ ⟨g3, _, m2, v, e3, r3, rv, QR.nxAt q2 fun p4 hp4 q4 g4 H4 σ4 x4 e4 r4 => ?_⟩
      obtain ⟨s4, m4⟩ := p4
      simp only at q4
      rw [reb] at q4
      have a4 := a3.ext e3 x4
      have d4 := x4.fr _ _ d3 f13 nL
      have f14 := x4.old _ _ d3 f13 nL
      have f24 := x4.oldr _ _ d3 f13 nL f23
      have w4 := r3.ext e3 x4
      have xx4 := xx3.trans x4
      refine ⟨g4, s4, m4, e4, r4, QR.nxAt q4 fun p5 hp5 q5 g5 H5 x5 e5 => ?_⟩
      obtain ⟨k, m5⟩ := p5
      have a5 := a4.ext e4 x5
      have d5 := x5.fr _ _ d4 f14 nL
      have f15 := x5.old _ _ d4 f14 nL
      have f25 := x5.oldr _ _ d4 f14 nL f24
      have w5 := w4.ext e4 x5
      have xx5 := xx4.trans x5
      cases k with
      | false =>
        refine iteF ⟨g5, m5, acc, ws, xx5, e5, w5, d5, a5, f15, f25, ?_⟩
        simpa using q5
      | true =>
        simp only [if_true] at q5
        rw [reb] at q5
        refine iteT ⟨g5, s4, m5, e5, r4.ext e4 x5, QR.nxAt q5 fun p6 hp6 q6 g6 H6 y x6 e6 ry => ?_⟩
        obtain ⟨pv, m6⟩ := p6
        simp only at q6
        have a6 := a5.ext e5 x6
        have d6 := x6.fr _ _ d5 f15 nL
        have f16 := x6.old _ _ d5 f15 nL
        have f26 := x6.oldr _ _ d5 f15 nL f25
        have w6 := w5.ext e5 x6
        have xx6 := xx5.trans x6
        by_cases hl : acc.length < LINE
        · rw [if_pos hl] at q6
          have hno : ∀ xs, ¬ Rd H6 D (.tup xs) := fun xs h => by rcases h with h | ⟨ob, h⟩ <;> rw [d6] at h <;> cases h
          have e7 := e6.other (o := .lst (ws ++ [y])) f16 f26 hno (tabs_wr e6.tab d6 nL (fun _ z => nomatch z))
          refine ⟨ws, d6, by rw [← ra.length]; exact line_lt hl, g6, m6, acc ++ [pv], ws ++ [y], xx6.other hD, e7.1, sr_of_rp e7.2 w6, upd_same, rps_of_rp e7.2 (a6.append (.cons ry .nil)), f16, f26, q6⟩
        · rw [if_neg hl] at q6
          exact q6.elim
  · have hle : xs.length ≤ i := Nat.le_of_not_lt hlt
    refine .inl ⟨wk.stop g2 m2 H2 i x2 e2 hle, ?_⟩
    rw [List.drop_of_length_le hle] at q2
    have q3 : QE K Ξ g1 H1 Q (.ok (.vl acc, m2)) := q2
    have hro : ∀ a u, g2.ro a = some u → (g2.addR D (.lst ws)).ro a = some u := fun a u h => by
      have : a ≠ D := fun z => by subst z; rw [f2] at h; cases h
      show upd g2.ro D _ a = some u
      rw [upd_ne this]; exact h
    have x3 : Ext g1 H1 (g2.addR D (.lst ws)) H2 := ⟨x2.phi, fun a u h => hro a u (x2.ro a u h), x2.fr, x2.old, fun a u h hn ht hr => by
      show upd g2.ro D _ a = none
      rw [upd_ne (ne_of_none h hD)]
      exact x2.oldr a u h hn ht hr, x2.T⟩
    have e3 : Emb K (g2.addR D (.lst ws)) m2 H2 := by
      refine ⟨fun n ob h => ?_, e2.dom, e2.inj, fun a u h => ?_, nt_addR e2.nt, e2.tab⟩
      · have q := e2.obj n ob h
        cases ob with
        | lst ys =>
          obtain ⟨a, us, q1, q2, q3⟩ := q
          exact ⟨a, us, q1, q2, Rps.mono (g := g2) (g' := g2.addR D (.lst ws)) (fun _ _ h => h) hro (fun _ _ h => h) q3⟩
        | dict ys =>
          obtain ⟨a, us, q1, q2, q3⟩ := q
          exact ⟨a, us, q1, q2, RKs.imp (g' := g2.addR D (.lst ws)) (fun r => Rp.mono (g := g2) (g' := g2.addR D (.lst ws)) (fun _ _ h => h) hro (fun _ _ h => h) r) q3⟩
        | dead => trivial
        | tab P l => exact q
      · have h' : upd g2.ro D (.lst ws) a = some u := h
        by_cases ha : a = D
        · subst ha
          rw [upd_same] at h'; cases h'
          exact ⟨hD2, fun n hn => (f1 n hn).elim⟩
        · rw [upd_ne ha] at h'
          exact e2.ro a u h'
    exact q3 _ _ _ x3 e3 (.vl upd_same (Rps.mono (g := g2) (g' := g2.addR D (.lst ws)) (fun _ _ h => h) hro (fun _ _ h => h) ra))
theorem wipe_set {σ : L2.St} {i : Nat} {x : Option V} : ∀ {own : List Nat}, i ∈ own → L2.wipe ((L2.wipe σ own).set i x) own = L2.wipe σ own := by
  intro own hi
  apply List.ext_getElem?
  intro j
  have hw : ∀ (σ : L2.St) (own : List Nat) (j : Nat), (L2.wipe σ own)[j]? = if j ∈ own then (if j < σ.length then some none else none) else σ[j]? := by
    intro σ own
    induction own with
    | nil => intro j; simp [L2.wipe]
    | cons v vs ih =>
      intro j
      unfold L2.wipe
      by_cases hv : v = j
      · subst hv
        simp only [List.mem_cons, true_or, if_true]
        by_cases hl : v < σ.length
        · rw [List.getElem?_set_self (by rw [L2.wipe_length]; exact hl), if_pos hl]
        · rw [List.getElem?_eq_none (by rw [List.length_set, L2.wipe_length]; omega), if_neg hl]
      · rw [List.getElem?_set_ne hv, ih j]
        simp only [List.mem_cons, Ne.symm hv, false_or]
  rw [hw, hw]
  by_cases hj : j ∈ own
  · rw [if_pos hj, if_pos hj, List.length_set, L2.wipe_length]
  · rw [if_neg hj, if_neg hj, List.getElem?_set_ne (fun z => hj (by rw [← z]; exact hi)), hw, if_neg hj]
/-- [e for x in xs if t], one name -/
theorem rd_lcN {own : List Nat} {it : SI} {i : Nat} {ft : ST} {fe : SE} (hi : i ∈ own) {σ : L2.St} {H : Hp} {Q : VK}
    (h : rdE K Ξ (eLc own it (TT.gName i) ft fe) σ H Q) : tLc (rdI K Ξ it) (L2.gName i) (rdT K X0 ft) (rdE K X0 fe) own σ H Q :=
  rd_lc (fun v σ H Q ⟨g, s, m, pv, em, sr, rv, q⟩ =>
    ⟨wipe_set hi, q g H _ (Ext.refl _ _) em (sr.set rv i)⟩) h
theorem se_lc {elt iter : Expr} {ifs : List Expr} {scope : Scope} {own : List (Str × Nat)} {oi : List Nat} {x : Str} {px : Pos} {it : SI} (i : Nat) {fe : SE} (hc : X.calm = true) (hN : X.N.Nodup) (hi : PI X (.Name x px) iter (rdI X.K Ξ it)) (ok : BlkOk X.N X.env.scope scope own)
    (hg : ∀ (s : Shared) (H : Hp) (C : Addr) (cl : List (Str × Addr)) (fp : List Addr), PG (X.blk s H scope (compEnvC scope cl C X.env) fp) (.Name x px) (L2.gName i)) (ht : ∀ (s : Shared) (H : Hp) (C : Addr) (cl : List (Str × Addr)) (fp : List Addr), PTs (X.blk s H scope (compEnvC scope cl C X.env) fp) ifs (rdT X.K X0 ft))
    (he : ∀ (s : Shared) (H : Hp) (C : Addr) (cl : List (Str × Addr)) (fp : List Addr), PE (X.blk s H scope (compEnvC scope cl C X.env) fp) elt (rdE X.K X0 fe)) (hs : ∀ x, foldedSetIterable iter X.env x = pure x := by intro _; rfl) (ho : own.map (·.2) = oi := by rfl) (hm : i ∈ own.map (·.2) := by decide) :
    PE X (.ListComp elt [⟨.Name x px, iter, ifs, 0⟩] scope pos) (rdE X.K Ξ (eLc oi it (TT.gName i) ft fe)) := by
  subst ho
  exact PE_imp (pe_lc hc hN hi ok hg ht he hs) fun σ H Q h => rd_lcN hm h
/-- y = [..] -/
theorem ss_setLc {elt iter : Expr} {ifs : List Expr} {scope : Scope} {own : List (Str × Nat)} {oi : List Nat} {x y : Str} {px py spos : Pos} {it : SI} (iy i : Nat) {fe : SE} (hc : X.calm = true) (hN : X.N.Nodup) (hi : PI X (.Name x px) iter (rdI X.K Ξ it)) (ok : BlkOk X.N X.env.scope scope own)
    (hg : ∀ (s : Shared) (H : Hp) (C : Addr) (cl : List (Str × Addr)) (fp : List Addr), PG (X.blk s H scope (compEnvC scope cl C X.env) fp) (.Name x px) (L2.gName i)) (ht : ∀ (s : Shared) (H : Hp) (C : Addr) (cl : List (Str × Addr)) (fp : List Addr), PTs (X.blk s H scope (compEnvC scope cl C X.env) fp) ifs (rdT X.K X0 ft))
    (he : ∀ (s : Shared) (H : Hp) (C : Addr) (cl : List (Str × Addr)) (fp : List Addr), PE (X.blk s H scope (compEnvC scope cl C X.env) fp) elt (rdE X.K X0 fe)) (hsw : swapsWith (.ListComp elt [⟨.Name x px, iter, ifs, 0⟩] scope pos) (some (.Name y py)) spos.line X.env = pure true)
    (hy : X.N[iy]? = some y := by rfl) (hyl : X.env.scope.names.lookup y = some .local := by rfl) (hs : ∀ x, foldedSetIterable iter X.env x = pure x := by intro _; rfl) (ho : own.map (·.2) = oi := by rfl) (hm : i ∈ own.map (·.2) := by decide) :
    PS X (.Assign [.Name y py] (.ListComp elt [⟨.Name x px, iter, ifs, 0⟩] scope pos) spos) (rdS X.K Ξ (sAsg (eLc oi it (TT.gName i) ft fe) (TT.gName iy))) := by
  subst ho
  exact PS_imp (ps_setLc hc hN hy hyl hsw hi ok hg ht he hs) fun D σ H ⟨g, s, m, em, sr, q⟩ => by
    refine rd_lcN (Ξ := Ξ) hm ⟨g, s, m, em, sr, QR.bind q fun p hp q1 g1 H1 V x1 e1 r1 => ?_⟩
    exact QS_nx e1 ((sr.ext em x1).set r1 iy) (QS.later x1 q1)
theorem sts_nil : PTs X [] (rdT X.K Ξ TT.tYes) := ⟨fun pins s σ H Q I ⟨g, sl, m, em, sr, q⟩ => pts_nil.run pins s σ H Q I (q g H (Ext.refl _ _) em)⟩
theorem sts_one (h : PT X c (rdT X.K Ξ ft)) : PTs X [c] (rdT X.K Ξ ft) := pts_one h

/-! ### defs -/
/-- what a def promises: by the whole memory -/
def spI (K : PySem.W.Frag) (n : Nat) (F : IF) : Sp := fun vs H Q _ => ∃ g m as, as.length = n ∧ Emb K g m H ∧ Rps K g H as vs ∧ QE K X0 g H Q (cI F as m)
/-- .. by values -/
def spP (K : PySem.W.Frag) (n : Nat) (F : PF) : Sp := fun vs H Q _ => ∃ g m as, as.length = n ∧ Emb K g m H ∧ Rps K g H as vs ∧ QE K X0 g H Q (cP F as m)
theorem spI_len {K : PySem.W.Frag} {n : Nat} {F : IF} {vs : List V} {H : Hp} {Q : VK} {E : XK} (h : spI K n F vs H Q E) : vs.length = n := by
  obtain ⟨g, m, as, hl, _, r, _⟩ := h
  rw [← r.length, hl]
theorem start_sr {g : Gh} {H : Hp} {N : List Str} {as : List PV} {vs : List V} (r : Rps K g H as vs) (hl : as.length ≤ N.length) : Sr K g H (startS N.length as) (L2.start N vs) := by
  refine ⟨?_, fun i v h => ?_⟩
  · unfold startS L2.start
    simp [r.length]
  · unfold startS at h
    unfold L2.start
    by_cases hi : i < as.length
    · rw [List.getElem?_append_left (by simpa using hi), List.getElem?_map] at h
      cases q : as[i]? with
      | none => rw [q] at h; cases h
      | some u =>
        rw [q] at h; cases h
        obtain ⟨w, h1, h2⟩ := r.get q
        refine ⟨w, ?_, h2⟩
        rw [List.getElem?_append_left (by simp [← r.length]; exact hi), List.getElem?_map, h1]
        rfl
    · rw [List.getElem?_append_right (by simpa using hi), List.getElem?_replicate] at h
      split at h <;> cases h
/-- from a body's function to the body's reading -/
theorem body_rd {g : Gh} {m : Mm} {H : Hp} {N : List Str} {as : List PV} {vs : List V} {Q : VK} {b : SS} (em : Emb K g m H) (r : Rps K g H as vs) (hN : as.length ≤ N.length) (q : QE K X0 g H Q (cI (bodyI N.length as.length b) as m)) :
    rdS K X0 b { nx := fun _ H' => Q .non H', rt := Q } (L2.start N vs) H := by
  refine ⟨g, startS N.length as, m, em, start_sr r hN, ?_⟩
  unfold cI bodyI at q
  rw [if_pos rfl] at q
  cases hr : b (startS N.length as) m with
  | ok p =>
    obtain ⟨fl, s, m1⟩ := p
    rw [hr] at q
    cases fl with
    | nx => exact fun g1 H1 σ1 x1 e1 r1 => q g1 H1 .non x1 e1 .non
    | rt v => exact fun g1 H1 σ1 x1 e1 r1 V rv => q g1 H1 V x1 e1 rv
    | bk => exact q.elim
    | ct => exact q.elim
  | ex e m1 => rw [hr] at q; exact q.elim
  | no => rw [hr] at q; exact q.elim
section
variable {P : Program} {w : World} {mg : Str → Option Value} {base : Heap}
/-- THE RULE for a def, by its body's function -/
theorem defI {x qual : Str} {st : Stmt} {f : Addr} {fd : FuncData} {N ps : List Str} {k : Nat} {b : SS} (F : Fun K x qual st f fd) (S : FnScope N ps (defScope st)) (hN : ps.length ≤ N.length)
    (hbody : ∀ (cdv : Value) (A : Around) (outer : List Env) (s : Shared) (H : Hp) (E : XK), Room k (A.deeper (envOfC qual (defScope st) s.heap.objs.size f cdv)) →
      PSs (cxOf CX0 P w K mg base N qual (defScope st) f cdv A outer s H E).nox (defBody st) (rdS K X0 b)) : FnOk P w K mg base CX0 (k + 1) f fd ps (spI K ps.length (bodyI N.length ps.length b)) :=
  F.ok S (fun _ _ _ _ h => spI_len h) fun cdv A outer s H vs Q E hr ⟨g, m, as, hl, em, r, q⟩ => ⟨_, hbody cdv A outer s H E hr, body_rd em r (by rw [hl]; exact hN) (by rw [hl]; exact q)⟩
end
end
end TT
end

section
set_option Elab.async false
set_option linter.all false
set_option autoImplicit false
set_option maxRecDepth 100000
/-! TT: defs by values, calls, walks over zip, more built-ins -/
namespace TT
open PySem PySem.Spec PyProof.Rows L2
section
variable {K : PySem.W.Frag} {g g' : Gh} {m m' : Mm} {H H' : Hp}
mutual
/-- a value without refs does not lean on where the memory stands -/
theorem Rp.pure {φ' : Nat → Option Addr} : ∀ {v : PV} {w : V}, v.pu = true → Rp K g H v w → Rp K ⟨φ', g.ro, g.T⟩ H v w
  | _, _, _, .non => .non
  | _, _, _, .bl b => .bl b
  | _, _, _, .int i => .int i
  | _, _, _, .str l => .str l
  | _, _, h, .tup a r => .tup a (Rps.pure (by simpa only [PV.pu] using h) r)
  | _, _, h, .vl a r => .vl a (Rps.pure (by simpa only [PV.pu] using h) r)
  | _, _, h, .fz a r => .fz a (Rps.pure (by simpa only [PV.pu] using h) r)
  | _, _, h, .ref _ => by simp only [PV.pu] at h; cases h
  | _, _, _, .fn a => .fn a
theorem Rps.pure {φ' : Nat → Option Addr} : ∀ {v : List PV} {w : List V}, pus v = true → Rps K g H v w → Rps K ⟨φ', g.ro, g.T⟩ H v w
  | _, _, _, .nil => .nil
  | _, _, h, .cons a r => by
    simp only [pus, Bool.and_eq_true] at h
    exact .cons (Rp.pure h.1 a) (Rps.pure h.2 r)
end
open Classical in
/-- all that lives in the memory is read only from now on -/
noncomputable def roAll (g : Gh) (H : Hp) : Hp := fun a => match g.ro a with
  | some u => some u
  | none => if (∃ n, g.φ n = some a) ∧ ∀ ps, H a ≠ some (.tbl ps) then H a else none
theorem roAll_old {a : Addr} {u : HO} (h : g.ro a = some u) : roAll g H a = some u := by unfold roAll; rw [h]
theorem roAll_new (e : Emb K g m H) {a : Addr} {n : Nat} {u : HO} (h : g.φ n = some a) (hu : H a = some u) (ht : NT u) : roAll g H a = some u := by
  unfold roAll
  cases q : g.ro a with
  | some v =>
    have := (e.ro a v q).1
    rw [hu] at this; cases this; rfl
  | none => simp only; rw [if_pos ⟨⟨n, h⟩, fun ps z => ht ps (by rw [hu] at z; exact Option.some.inj z)⟩, hu]
theorem roAll_inv {a : Addr} {u : HO} (h : roAll g H a = some u) : g.ro a = some u ∨ (g.ro a = none ∧ ((∃ n, g.φ n = some a) ∧ ∀ ps, H a ≠ some (.tbl ps)) ∧ H a = some u) := by
  unfold roAll at h
  split at h
  · rename_i v hv; cases h; exact .inl hv
  · rename_i hv
    split at h
    · rename_i hc; exact .inr ⟨hv, hc, h⟩
    · cases h
theorem frzs_rp (e : Emb K g m H) {f : PV → Option PV} {φ' : Nat → Option Addr} (hf : ∀ v w v', Rp K g H v w → f v = some v' → Rp K ⟨φ', roAll g H, g.T⟩ H v' w) : ∀ {xs : List PV} {ws : List V} {ys : List PV}, Rps K g H xs ws → frz.frzs f xs = some ys → Rps K ⟨φ', roAll g H, g.T⟩ H ys ws
  | [], _, _, .nil, h => by cases h; exact .nil
  | x :: xs, _, ys, .cons a r, h => by
    simp only [frz.frzs] at h
    split at h
    · rename_i y zs h1 h2
      cases h
      exact .cons (hf _ _ _ a h1) (frzs_rp e hf r h2)
    · cases h
theorem frz_rp (e : Emb K g m H) {φ' : Nat → Option Addr} : ∀ (k : Nat) (v : PV) (w : V) (v' : PV), Rp K g H v w → frz k m v = some v' → Rp K ⟨φ', roAll g H, g.T⟩ H v' w
  | 0, v, w, v', r, h => by
    unfold frz at h
    split at h
    · rename_i hp
      cases h
      exact Rp.mono (g := ⟨φ', g.ro, g.T⟩) (g' := ⟨φ', roAll g H, g.T⟩) (fun _ _ h => h) (fun _ _ h => roAll_old h) (fun _ _ h => h) (Rp.pure (φ' := φ') hp r)
    · cases h
  | k + 1, v, w, v', r, h => by
    unfold frz at h
    split at h
    · rename_i hp
      cases h
      exact Rp.mono (g := ⟨φ', g.ro, g.T⟩) (g' := ⟨φ', roAll g H, g.T⟩) (fun _ _ h => h) (fun _ _ h => roAll_old h) (fun _ _ h => h) (Rp.pure (φ' := φ') hp r)
    · split at h
      · rename_i n
        split at h
        · rename_i xs hx
          obtain ⟨a, rfl, hn⟩ := r.ref_inv
          obtain ⟨a', vs, h1, h2, h3⟩ := e.obj _ _ hx
          rw [hn] at h1; cases h1
          cases hq : frz.frzs (frz k m) xs with
          | none => rw [hq] at h; cases h
          | some ys =>
            rw [hq] at h; cases h
            exact .vl (roAll_new e hn h2 (fun _ z => nomatch z)) (frzs_rp e (fun v w v' r h => frz_rp e k v w v' r h) h3 hq)
        · cases h
      · rename_i xs _
        obtain ⟨a, vs, rfl, ha, r1⟩ := r.tup_inv
        cases hq : frz.frzs (frz k m) xs with
        | none => rw [hq] at h; cases h
        | some ys =>
          rw [hq] at h; cases h
          exact .tup ha (frzs_rp e (fun v w v' r h => frz_rp e k v w v' r h) r1 hq)
      · cases h
/-- behind a def that was run in a memory of its own -/
theorem after_own {φ₀ : Gh} (e : Emb K g m H) (h0 : φ₀ = ⟨fun _ => none, g.ro, g.T⟩) {g1 : Gh} {m1 : Mm} {H1 : Hp} (x : Ext φ₀ H g1 H1) (e1 : Emb K g1 m1 H1) :
    Ext g H ⟨g.φ, roAll g1 H1, g.T⟩ H1 ∧ Emb K ⟨g.φ, roAll g1 H1, g.T⟩ m H1 := by
  subst h0
  have fr : ∀ a u, H a = some u → NT u → H1 a = some u := fun a u h => x.fr a u h (fun n z => nomatch z)
  have out : ∀ a u, H a = some u → NT u → ∀ n, g1.φ n ≠ some a := fun a u h => x.old a u h (fun n z => nomatch z)
  have xx : Ext g H ⟨g.φ, roAll g1 H1, g.T⟩ H1 := by
    refine ⟨fun _ _ h => h, fun a u h => roAll_old (x.ro a u h), fun a u h _ t => fr a u h t, fun a u h hn _ => hn, fun a u h hn ht hr => ?_, rfl⟩
    have q := x.oldr a u h (fun n z => nomatch z) ht hr
    show roAll g1 H1 a = none
    cases z : roAll g1 H1 a with
    | none => rfl
    | some v =>
      rcases roAll_inv z with z | ⟨_, ⟨⟨n, z⟩, _⟩, _⟩
      · rw [q] at z; cases z
      · exact (out a u h ht n z).elim
  refine ⟨xx, ⟨fun n o h => ?_, fun n a h => ?_, e.inj, fun a u h => ?_, fun a u h => ?_, by have t := e1.tab; rw [x.T] at t; exact t⟩⟩
  · have q := e.obj n o h
    cases o with
    | lst ys =>
      obtain ⟨a, ws, q1, q2, q3⟩ := q
      exact ⟨a, ws, q1, fr _ _ q2 (fun _ z => nomatch z), q3.ext e xx⟩
    | dict ys =>
      obtain ⟨a, ws, q1, q2, q3⟩ := q
      exact ⟨a, ws, q1, fr _ _ q2 (fun _ z => nomatch z), q3.ext e xx⟩
    | dead => trivial
    | tab P l => exact q
  · obtain ⟨q1, u, q2, q3⟩ := e.dom n a h
    exact ⟨q1, u, fr _ _ q2 (nt_mut q3), q3⟩
  · have h' : roAll g1 H1 a = some u := h
    have key : H1 a = some u := by
      rcases roAll_inv h' with z | ⟨_, _, z⟩
      · exact (e1.ro a u z).1
      · exact z
    refine ⟨key, fun n hn => ?_⟩
    have hn' : g.φ n = some a := hn
    obtain ⟨_, v, hv, hmu⟩ := e.dom n a hn'
    cases hr : g.ro a with
    | some u' => exact (e.ro a u' hr).2 n hn'
    | none =>
      have q := x.oldr a v hv (fun n z => nomatch z) (nt_mut hmu) hr
      rcases roAll_inv h' with z | ⟨_, ⟨⟨k, z⟩, _⟩, _⟩
      · rw [q] at z; cases z
      · exact (out a v hv (nt_mut hmu) k z).elim
  · have h' : roAll g1 H1 a = some u := h
    rcases roAll_inv h' with z | ⟨_, ⟨_, z⟩, z2⟩
    · exact e1.nt a u z
    · exact fun ps z3 => z ps (by rw [z2, z3])
theorem emb_own (e : Emb K g m H) : Emb K ⟨fun _ => none, g.ro, g.T⟩ [] H :=
  ⟨(fun n o h => by simp at h), (fun n a h => nomatch h), (fun n k a h _ => nomatch h), (fun a u h => ⟨(e.ro a u h).1, (fun n z => nomatch z)⟩), e.nt, e.tab⟩
end

/-! ### promises -/
section
variable {P : Program} {w : World} {K : PySem.W.Frag} {mg : Str → Option Value} {base : Heap} {CX : CXT} {k : Nat} {f : Addr} {fd : FuncData} {ps : List Str}
/-- by values, from the body -/
theorem spP_of {n N : Nat} {b : SS} {vs : List V} {H : Hp} {Q : VK} {E : XK} (h : spP K n (bodyP N n b) vs H Q E) : spI K n (bodyI N n b) vs H Q E := by
  obtain ⟨g, m, as, hl, em, r, q⟩ := h
  unfold cP at q
  by_cases hp : pus as = true
  · rw [if_pos hp] at q
    refine ⟨⟨fun _ => none, g.ro, g.T⟩, [], as, hl, emb_own em, Rps.pure hp r, ?_⟩
    unfold bodyP at q
    unfold cI
    cases hr : bodyI N n b as [] with
    | ok p =>
      obtain ⟨v, m1⟩ := p
      rw [hr] at q
      simp only at q
      intro g1 H1 V x1 e1 r1
      cases hf : frz 4 m1 v with
      | none => rw [hf] at q; exact q.elim
      | some v' =>
        rw [hf] at q
        obtain ⟨xx, ee⟩ := after_own em rfl x1 e1
        have r2 := frz_rp (φ' := g.φ) e1 4 v V v' r1 hf
        rw [x1.T] at r2
        exact q ⟨g.φ, roAll g1 H1, g.T⟩ H1 V xx ee r2
    | ex e m1 => rw [hr] at q; exact q.elim
    | no => rw [hr] at q; exact q.elim
  · rw [if_neg hp] at q; exact q.elim
theorem FnOk.toP {n N : Nat} {b : SS} (F : FnOk P w K mg base CX k f fd ps (spI K n (bodyI N n b))) : FnOk P w K mg base CX k f fd ps (spP K n (bodyP N n b)) := F.imp fun _ _ _ _ => spP_of
/-- a mirror of a def by values -/
theorem FnOk.mirP {n : Nat} {F G : PF} (h : FnOk P w K mg base CX k f fd ps (spP K n F)) (i : ∀ as v, as.length = n → G as = .ok v → F as = .ok v) : FnOk P w K mg base CX k f fd ps (spP K n G) :=
  h.imp fun vs H Q E ⟨g, m, as, hl, em, r, q⟩ => ⟨g, m, as, hl, em, r, by
    unfold cP at q ⊢
    split at q
    · rename_i hp
      rw [if_pos hp]
      cases hr : G as with
      | ok v => rw [hr] at q; rw [i as v hl hr]; exact q
      | ex e m => rw [hr] at q; exact q.elim
      | no => rw [hr] at q; exact q.elim
    · exact q.elim⟩
mutual
theorem Rp.belo {g g' : Gh} {H : Hp} (hro : g'.ro = g.ro) : ∀ {v : PV} {w : V}, v.pu = true → Rp K g H v w → Rp K g' H v w
  | _, _, _, .non => .non
  | _, _, _, .bl b => .bl b
  | _, _, _, .int i => .int i
  | _, _, _, .str l => .str l
  | _, _, h, .tup a r => .tup a (Rps.belo hro (by simpa only [PV.pu] using h) r)
  | _, _, h, .vl a r => .vl (by rw [hro]; exact a) (Rps.belo hro (by simpa only [PV.pu] using h) r)
  | _, _, h, .fz a r => .fz (by rw [hro]; exact a) (Rps.belo hro (by simpa only [PV.pu] using h) r)
  | _, _, h, .ref _ => by simp only [PV.pu] at h; cases h
  | _, _, _, .fn a => .fn a
theorem Rps.belo {g g' : Gh} {H : Hp} (hro : g'.ro = g.ro) : ∀ {v : List PV} {w : List V}, pus v = true → Rps K g H v w → Rps K g' H v w
  | _, _, _, .nil => .nil
  | _, _, h, .cons a r => by
    simp only [pus, Bool.and_eq_true] at h
    exact .cons (Rp.belo hro h.1 a) (Rps.belo hro h.2 r)
end
mutual
theorem Rp.dom2 {g g1 : Gh} {H H1 : Hp} (h : ∀ n a, g.φ n = some a → g1.φ n = some a) : ∀ {v : PV} {w w1 : V}, Rp K g H v w → Rp K g1 H1 v w1 → Rp K ⟨g.φ, g1.ro, g.T⟩ H1 v w1
  | _, _, _, _, .non => .non
  | _, _, _, _, .bl b => .bl b
  | _, _, _, _, .int i => .int i
  | _, _, _, _, .str l => .str l
  | _, _, _, .tup _ r, .tup a r1 => .tup a (Rps.dom2 h r r1)
  | _, _, _, .vl _ r, .vl a r1 => .vl a (Rps.dom2 h r r1)
  | _, _, _, .fz _ r, .fz a r1 => .fz a (Rps.dom2 h r r1)
  | _, _, _, .ref q, .ref q1 => .ref (by have := h _ _ q; rw [q1] at this; cases this; exact q)
  | _, _, _, .fn a, .fn _ => .fn a
theorem Rps.dom2 {g g1 : Gh} {H H1 : Hp} (h : ∀ n a, g.φ n = some a → g1.φ n = some a) : ∀ {v : List PV} {w w1 : List V}, Rps K g H v w → Rps K g1 H1 v w1 → Rps K ⟨g.φ, g1.ro, g.T⟩ H1 v w1
  | _, _, _, .nil, .nil => .nil
  | _, _, _, .cons a r, .cons a1 r1 => .cons (Rp.dom2 h a a1) (Rps.dom2 h r r1)
end
theorem RKs.belo {g g' : Gh} {H : Hp} (hro : g'.ro = g.ro) : ∀ {v : List (PV × PV)} {w : List (Key × V)}, pud v = true → RKs K g H v w → RKs K g' H v w
  | _, _, _, .nil => .nil
  | _, _, h, .cons k a r => by
    simp only [pud, Bool.and_eq_true] at h
    exact .cons k (Rp.belo hro h.1.2 a) (RKs.belo hro h.2 r)
theorem RKs.dom2 {g g1 : Gh} {H H1 : Hp} (h : ∀ n a, g.φ n = some a → g1.φ n = some a) : ∀ {v : List (PV × PV)} {w w1 : List (Key × V)}, RKs K g H v w → RKs K g1 H1 v w1 → RKs K ⟨g.φ, g1.ro, g.T⟩ H1 v w1
  | _, _, _, .nil, .nil => .nil
  | _, _, _, .cons k a r, .cons k1 a1 r1 => .cons k1 (Rp.dom2 h a a1) (RKs.dom2 h r r1)
/-- an object as it was, or a list that holds no refs now -/
def Calm1 (m m1 : Mm) : Prop := ∀ (n : Nat) (o : Ob), m1[n]? = some o → m[n]? = some o ∨ (o.pu = true ∧ ∃ xs, m[n]? = some (.lst xs))
/-- the memory's last objects are forgotten -/
theorem Emb.trim {g g1 : Gh} {m m1 gar : Mm} {H H1 : Hp} (e : Emb K g m H) (x : Ext g H g1 H1) (e1 : Emb K g1 (m1 ++ gar) H1) (hl : m1.length = m.length) (hp : Calm1 m m1) :
    ∃ g2, Ext g H g2 H1 ∧ Emb K g2 m1 H1 ∧ ∀ v w, v.pu = true → Rp K g1 H1 v w → Rp K g2 H1 v w := by
  refine ⟨⟨g.φ, g1.ro, g.T⟩, ?_, ⟨fun n o h => ?_, fun n a h => ?_, fun n k a h1 h2 => e.inj n k a h1 h2, fun a u h => ?_, e1.nt, by have t := e1.tab; rw [x.T] at t; exact t⟩, fun v w hv r => Rp.belo (g := g1) (g' := ⟨g.φ, g1.ro, g.T⟩) rfl hv r⟩
  · exact ⟨fun _ _ h => h, x.ro, x.fr, fun a u h hn _ => hn, x.oldr, rfl⟩
  · have hlt : n < m1.length := (List.getElem?_eq_some_iff.mp h).1
    have q := e1.obj n o (by rw [List.getElem?_append_left hlt]; exact h)
    cases o with
    | lst ys =>
      obtain ⟨a, ws, q1, q2, q3⟩ := q
      rcases hp n _ h with z | ⟨z, xs, zx⟩
      · obtain ⟨a', vs, p1, p2, p3⟩ := e.obj n _ z
        have e' := x.phi _ _ p1
        rw [q1] at e'; cases e'
        exact ⟨a, ws, p1, q2, Rps.dom2 x.phi p3 q3⟩
      · obtain ⟨a', vs, p1, p2, p3⟩ := e.obj n _ zx
        have e' := x.phi _ _ p1
        rw [q1] at e'; cases e'
        exact ⟨a, ws, p1, q2, Rps.belo (g := g1) (g' := ⟨g.φ, g1.ro, g.T⟩) rfl (by simpa only [Ob.pu] using z) q3⟩
    | dict ys =>
      obtain ⟨a, ws, q1, q2, q3⟩ := q
      rcases hp n _ h with z | ⟨z, xs, zx⟩
      · obtain ⟨a', vs, p1, p2, p3⟩ := e.obj n _ z
        have e' := x.phi _ _ p1
        rw [q1] at e'; cases e'
        exact ⟨a, ws, p1, q2, RKs.dom2 x.phi p3 q3⟩
      · obtain ⟨a', vs, p1, p2, p3⟩ := e.obj n _ zx
        have e' := x.phi _ _ p1
        rw [q1] at e'; cases e'
        exact ⟨a, ws, p1, q2, RKs.belo (g := g1) (g' := ⟨g.φ, g1.ro, g.T⟩) rfl (by simpa only [Ob.pu] using z) q3⟩
    | dead => trivial
    | tab P l =>
      have q' : g1.T = _ := q
      rw [x.T] at q'
      exact q'
  · have h' : g.φ n = some a := h
    obtain ⟨q1, u, q2, q3⟩ := e1.dom n a (x.phi _ _ h')
    exact ⟨by rw [hl]; exact (e.dom n a h').1, u, q2, q3⟩
  · have h' : g1.ro a = some u := h
    obtain ⟨q1, q2⟩ := e1.ro a u h'
    refine ⟨q1, fun n hn => ?_⟩
    have hn' : g.φ n = some a := hn
    have q := q2 n (x.phi _ _ hn')
    have hlt : n < m1.length := by rw [hl]; exact (e.dom n a hn').1
    rw [List.getElem?_append_left hlt] at q
    exact q
/-- a mirror of a def by the whole memory: its rubbish is forgotten -/
theorem FnOk.mirI {n : Nat} {F G : IF} (h : FnOk P w K mg base CX k f fd ps (spI K n F))
    (i : ∀ as m v m', as.length = n → G as m = .ok (v, m') → ∃ gar, F as m = .ok (v, m' ++ gar) ∧ (gar = [] ∨ (m'.length = m.length ∧ v.pu = true ∧ Calm1 m m'))) : FnOk P w K mg base CX k f fd ps (spI K n G) :=
  h.imp fun vs H Q E ⟨g, m, as, hl, em, r, q⟩ => ⟨g, m, as, hl, em, r, by
    unfold cI at q ⊢
    cases hr : G as m with
    | ok p =>
      obtain ⟨v, m'⟩ := p
      rw [hr] at q
      obtain ⟨gar, hF, hc⟩ := i as m v m' hl hr
      rw [hF]
      intro g1 H1 V x1 e1 r1
      rcases hc with hc | ⟨c1, c2, c3⟩
      · subst hc
        have e1' : Emb K g1 m' H1 := by simpa using e1
        exact q g1 H1 V x1 e1' r1
      · obtain ⟨g2, x2, e2, f2⟩ := em.trim x1 e1 c1 c3
        exact q g2 H1 V x2 e2 (f2 v V c2 r1)
    | ex e m => rw [hr] at q; exact q.elim
    | no => rw [hr] at q; exact q.elim⟩
end

/-! ### calls -/
section
variable {X : Cx} {Ξ : XC} {k : Nat} {f : Addr} {fd : FuncData} {ps : List Str} {x : Str} {p pos : Pos} {e : Expr} {es : List Expr} {fs : SA} {K : PySem.W.Frag}
theorem cI_X0 {g : Gh} {H : Hp} {Q : VK} {F : IF} {as : List PV} {m : Mm} (q : QE K Ξ g H Q (cI F as m)) : QE K X0 g H Q (cI F as m) := by
  unfold cI at q ⊢
  cases h : F as m with
  | ok p => rw [h] at q; exact q
  | ex e m => rw [h] at q; exact q.elim
  | no => rw [h] at q; exact q.elim
theorem cP_X0 {g : Gh} {H : Hp} {Q : VK} {F : PF} {as : List PV} {m : Mm} (q : QE K Ξ g H Q (cP F as m)) : QE K X0 g H Q (cP F as m) := by
  unfold cP at q ⊢
  split at q
  · rename_i hp
    rw [if_pos hp]
    cases h : F as with
    | ok p => rw [h] at q; exact q
    | ex e m => rw [h] at q; exact q.elim
    | no => rw [h] at q; exact q.elim
  · exact q.elim
theorem se_callI {n : Nat} {F : IF} (G : FnOk X.prog X.w X.K X.mg X.base CX0 k f fd ps (spI X.K n F)) (hr : Room k X.A) (hm : X.mg x = some (.ref f)) (hk : PySem.W.keepIn X.K (.ref f) = true) (hb : Binds X.K fd ps []) (ha : PA X (e :: es) (rdA X.K Ξ fs)) (hl : ∀ s m xs m', fs s m = .ok (xs, m') → xs.length = (e :: es).length)
    (hn : (e :: es).length = n := by rfl) (hg : Gl X x := by rfl) (hdb : (x == ("__debug__" : Str)) = false := by decide) (he : starEach (e :: es) X.env = (false, eval e X.env) :: starEach es X.env := by rfl) (hpl : (backTo pos (starEach es X.env)).any (·.1) = false := by rfl) :
    PE X (.Call (.Name x p) (e :: es) [] pos) (rdE X.K Ξ (eN (cI F) fs)) :=
  PE_imp (pe_call G hr hg hm hk hb .nil pass0 ha hdb he hpl) fun σ H Q ⟨g, s, m, em, sr, q⟩ => by
    refine ⟨g, s, m, em, sr, QR.bind q fun p hp q1 g1 H1 V x1 e1 r1 => ?_⟩
    exact ⟨g1, p.2, p.1, by rw [hl s m p.1 p.2 hp, hn], e1, by rw [List.append_nil]; exact r1, cI_X0 (QE.later x1 q1)⟩
theorem se_callI0 {F : IF} (G : FnOk X.prog X.w X.K X.mg X.base CX0 k f fd ps (spI X.K 0 F)) (hr : Room k X.A) (hm : X.mg x = some (.ref f)) (hk : PySem.W.keepIn X.K (.ref f) = true) (hb : Binds X.K fd ps [])
    (hg : Gl X x := by rfl) (hdb : (x == ("__debug__" : Str)) = false := by decide) : PE X (.Call (.Name x p) [] [] pos) (rdE X.K Ξ (eN (cI F) aNil)) :=
  PE_imp (pe_call0 G hr hg hm hk hb .nil pass0 hdb) fun σ H Q ⟨g, s, m, em, sr, q⟩ => ⟨g, m, [], rfl, em, .nil, cI_X0 q⟩
theorem se_callP {n : Nat} {F : PF} (G : FnOk X.prog X.w X.K X.mg X.base CX0 k f fd ps (spP X.K n F)) (hr : Room k X.A) (hm : X.mg x = some (.ref f)) (hk : PySem.W.keepIn X.K (.ref f) = true) (hb : Binds X.K fd ps []) (ha : PA X (e :: es) (rdA X.K Ξ fs)) (hl : ∀ s m xs m', fs s m = .ok (xs, m') → xs.length = (e :: es).length)
    (hn : (e :: es).length = n := by rfl) (hg : Gl X x := by rfl) (hdb : (x == ("__debug__" : Str)) = false := by decide) (he : starEach (e :: es) X.env = (false, eval e X.env) :: starEach es X.env := by rfl) (hpl : (backTo pos (starEach es X.env)).any (·.1) = false := by rfl) :
    PE X (.Call (.Name x p) (e :: es) [] pos) (rdE X.K Ξ (eN (cP F) fs)) :=
  PE_imp (pe_call G hr hg hm hk hb .nil pass0 ha hdb he hpl) fun σ H Q ⟨g, s, m, em, sr, q⟩ => by
    refine ⟨g, s, m, em, sr, QR.bind q fun p hp q1 g1 H1 V x1 e1 r1 => ?_⟩
    exact ⟨g1, p.2, p.1, by rw [hl s m p.1 p.2 hp, hn], e1, by rw [List.append_nil]; exact r1, cP_X0 (QE.later x1 q1)⟩
theorem se_callP0 {F : PF} (G : FnOk X.prog X.w X.K X.mg X.base CX0 k f fd ps (spP X.K 0 F)) (hr : Room k X.A) (hm : X.mg x = some (.ref f)) (hk : PySem.W.keepIn X.K (.ref f) = true) (hb : Binds X.K fd ps [])
    (hg : Gl X x := by rfl) (hdb : (x == ("__debug__" : Str)) = false := by decide) : PE X (.Call (.Name x p) [] [] pos) (rdE X.K Ξ (eN (cP F) aNil)) :=
  PE_imp (pe_call0 G hr hg hm hk hb .nil pass0 hdb) fun σ H Q ⟨g, s, m, em, sr, q⟩ => ⟨g, m, [], rfl, em, .nil, cP_X0 q⟩

/-! ### repr of a truth value -/
theorem call_tReprB : CallR X (.builtin "repr") (rdN X.K Ξ fReprB) := by
  intro pins s σ H xs us Q I r ⟨g, m, as, e, ra, q⟩
  unfold fReprB at q
  split at q
  · cases ra with
    | cons r1 r2 =>
      cases r2
      cases r1.bl_inv
      obtain ⟨u, rfl, rx⟩ := vals1 r
      cases rx
      exact PySem.P.repr_of_bool ⟨.str _, H, I.tok _, ⟨_, rfl⟩, QE.ret e (.str _) q⟩
  · cases ra with
    | cons r1 r2 =>
      cases r2
      cases r1.bl_inv
      obtain ⟨u, rfl, rx⟩ := vals1 r
      cases rx
      exact PySem.P.repr_of_bool ⟨.str _, H, I.tok _, ⟨_, rfl⟩, QE.ret e (.str _) q⟩
  · exact q.elim

/-! ### zip -/
theorem zipP_get : ∀ {xs ys : List PV} {i : Nat}, i < (zipP xs ys).length → ∃ x y, xs[i]? = some x ∧ ys[i]? = some y ∧ (zipP xs ys)[i]? = some (.tup [x, y])
  | x :: xs, y :: ys, 0, _ => ⟨x, y, rfl, rfl, rfl⟩
  | x :: xs, y :: ys, i + 1, h => by
    obtain ⟨u, v, h1, h2, h3⟩ := zipP_get (xs := xs) (ys := ys) (i := i) (by simpa [zipP] using h)
    exact ⟨u, v, by simpa using h1, by simpa using h2, by simpa [zipP] using h3⟩
  | [], _, _, h => by simp [zipP] at h
  | _ :: _, [], _, h => by simp [zipP] at h
theorem zipP_end : ∀ {xs ys : List PV} {i : Nat}, (zipP xs ys).length ≤ i → xs.length ≤ i ∨ ys.length ≤ i
  | x :: xs, y :: ys, 0, h => by simp [zipP] at h
  | x :: xs, y :: ys, i + 1, h => by
    have := zipP_end (xs := xs) (ys := ys) (i := i) (by simpa [zipP] using h)
    simp only [List.length_cons]; omega
  | [], _, _, _ => .inl (by simp)
  | _ :: _, [], _, _ => .inr (by simp)
variable {a b : Expr} {fa fb : SE}
theorem si_zip {p2 tpos : Pos} {elts : List Expr} {kk : Nat} (hg : Gl X "zip") (hm : X.mg "zip" = none) (h : PE X a (rdE X.K Ξ fa)) (h' : PE X b (rdE X.K Ξ fb)) (hs : starEach [a, b] X.env = (false, eval a X.env) :: starEach [b] X.env := by rfl) (hpl : (backTo pos (starEach [b] X.env)).any (·.1) = false := by rfl) (hs2 : starEach [b] X.env = (false, eval b X.env) :: starEach [] X.env := by rfl) :
    PI X (.Tuple elts kk tpos) (.Call (.Name "zip" p2) [a, b] [] pos) (rdI X.K Ξ (iZip fa fb)) :=
  PI_imp (RZ.pi_zipA hg hm (pa_cons h (pa_cons h' pa_nil hs2) hs) hs hpl) fun σ H R ⟨g, s, m, em, sr, q⟩ => by
    refine ⟨g, s, m, em, sr, QR.bind q fun p hp q1 g1 H1 V x1 e1 r1 => ?_⟩
    refine ⟨g1, s, p.2, e1, sr.ext em x1, QR.bind (QR.later x1 q1 fun _ q g' H' J x => q g' H' J (x1.trans x)) fun p2 hp2 q2 g2 H2 W x2 e2 r2 => ?_⟩
    obtain ⟨v, m1⟩ := p
    obtain ⟨u, m2⟩ := p2
    have r1' := r1.ext e1 x2
    simp only at q2
    split at q2
    · rename_i xs ys
      obtain ⟨a1, vs, rfl, ha, ra⟩ := r1'.tup_inv
      obtain ⟨b1, ws, rfl, hb, rb⟩ := r2.tup_inv
      refine ⟨a1, b1, vs, ws, rfl, .inr ⟨ha, hb, q2 g2 H2 _ x2 e2 ⟨fun g' m' H' i x' e' hi => ?_, fun g' m' H' i x' e' hi => ?_⟩⟩⟩
      · obtain ⟨x0, y0, h1, h2, h3⟩ := zipP_get hi
        have ha' := e2.sqT x' ha
        have hb' := e2.sqT x' hb
        obtain ⟨xv, hx, rx⟩ := (ra.ext e2 x').get h1
        obtain ⟨yv, hy, ry⟩ := (rb.ext e2 x').get h2
        refine ⟨⟨vs, ws, xv, yv, ha', hb', hx, hy⟩, fun z H3 ⟨T, x1, y1, hz, hT, hH, f1, f2⟩ => ?_⟩
        subst hz hH
        have ex : x1 = xv := Option.some.inj ((f1 _ ha').symm.trans hx)
        have ey : y1 = yv := Option.some.inj ((f2 _ hb').symm.trans hy)
        subst ex ey
        obtain ⟨n1, n2, n3⟩ := e'.new_tup (xs := [x0, y0]) (vs := [x1, y1]) hT (.cons rx (.cons ry .nil))
        exact ⟨g', _, n1, n2, h3, n3⟩
      · refine ⟨vs, ws, e2.sqT x' ha, e2.sqT x' hb, ?_⟩
        rw [← ra.length, ← rb.length]
        exact zipP_end hi
    · rename_i xs ys
      cases r1' with
      | vl ha ra => cases r2 with
        | vl hb rb =>
          rename_i a1 vs b1 ws
          have hL : ∀ {g' m' H'}, Ext g2 H2 g' H' → Emb X.K g' m' H' → SqL X.K H' a1 vs ∧ SqL X.K H' b1 ws := fun x' e' => ⟨SqL.of (e'.ro _ _ (x'.ro _ _ ha)).1, SqL.of (e'.ro _ _ (x'.ro _ _ hb)).1⟩
          obtain ⟨l1, l2⟩ := hL (Ext.refl _ _) e2
          refine ⟨a1, b1, vs, ws, rfl, .inl ⟨l1, l2, q2 g2 H2 _ x2 e2 ⟨fun g' m' H' i x' e' hi => ?_, fun g' m' H' i x' e' hi => ?_⟩⟩⟩
          · obtain ⟨x0, y0, h1, h2, h3⟩ := zipP_get hi
            obtain ⟨ha', hb'⟩ := hL x' e'
            obtain ⟨xv, hx, rx⟩ := (ra.ext e2 x').get h1
            obtain ⟨yv, hy, ry⟩ := (rb.ext e2 x').get h2
            refine ⟨⟨vs, ws, xv, yv, ha', hb', hx, hy⟩, fun z H3 ⟨T, x1, y1, hz, hT, hH, f1, f2⟩ => ?_⟩
            subst hz hH
            have ex : x1 = xv := Option.some.inj ((f1 _ ha').symm.trans hx)
            have ey : y1 = yv := Option.some.inj ((f2 _ hb').symm.trans hy)
            subst ex ey
            obtain ⟨n1, n2, n3⟩ := e'.new_tup (xs := [x0, y0]) (vs := [x1, y1]) hT (.cons rx (.cons ry .nil))
            exact ⟨g', _, n1, n2, h3, n3⟩
          · obtain ⟨ha', hb'⟩ := hL x' e'
            refine ⟨vs, ws, ha', hb', ?_⟩
            rw [← ra.length, ← rb.length]
            exact zipP_end hi
    · exact q2.elim
end
end TT
end

section
set_option Elab.async false
set_option linter.all false
set_option autoImplicit false
set_option maxRecDepth 100000
/-! TT: x[::-1] of tuples and lists -/
namespace TT
open PySem PySem.Spec PyProof.Rows L2
section
variable {prog : Program} {w : World} {A : Around} {E : Value → Shared → Prop} {s : Shared}
theorem revAll (xs : Array Value) : ((List.range xs.size).filterMap fun (m : Nat) => xs[((xs.size : Int) - 1 + (m : Int) * (-1)).toNat]?).toArray = xs.toList.reverse.toArray := by
  congr 1
  apply List.ext_getElem?
  intro i
  have key : ∀ (n : Nat), n ≤ xs.size → ((List.range n).filterMap fun (m : Nat) => xs[((xs.size : Int) - 1 + (m : Int) * (-1)).toNat]?) = xs.toList.reverse.take n := by
    intro n hn
    induction n with
    | zero => rfl
    | succ n ih =>
      rw [List.range_succ, List.filterMap_append, ih (Nat.le_of_succ_le hn)]
      have hlt : n < xs.toList.reverse.length := by simp; omega
      rw [List.take_succ_eq_append_getElem hlt]
      congr 1
      have e : ((xs.size : Int) - 1 + (n : Int) * (-1)).toNat = xs.size - 1 - n := by omega
      simp only [List.filterMap_cons, List.filterMap_nil, e]
      have hb : xs.size - 1 - n < xs.size := by omega
      rw [Array.getElem?_eq_getElem hb]
      simp [List.getElem_reverse]
  rw [key xs.size (Nat.le_refl _), List.take_of_length_le (by simp)]
theorem sliceApplied_rev {sl : Addr} {vs : Value} {n : Nat} {Q : Int × Int × Nat → Shared → Prop} (hs : s.heap.IsSliceOf sl .none .none vs) (ps : IsPart vs (some (-1))) (h : Q ((n : Int) - 1, -1, n) s) : wpAny (model prog w) A (Builtin.Slice.sliceApplied (.ref sl) (pure (n : Int))) Q E s := by
  obtain ⟨os, hos, hcs, hds⟩ := id hs
  unfold Builtin.Slice.sliceApplied Builtin.Slice.sliceFields
  refine wpAny_bind (wpAny_bind (wpAny_field hos hds (x := .none) rfl (wpAny_bind (wpAny_field hos hds (x := .none) rfl (wpAny_bind (wpAny_field hos hds (x := vs) rfl (wpAny_pure ?_)))))))
  refine wpAny_bind (HT.slicePart_ ps ?_)
  show wpAny _ _ (if ((-1 : Int) == 0) = true then _ else _) _ _ s
  rw [if_neg (by decide)]
  refine wpAny_bind (slicePart_none (wpAny_bind (slicePart_none (wpAny_bind (wpAny_pure ?_)))))
  show wpAny _ _ (match Builtin.Slice.sliceAdjust none none (-1) (n : Int) with | (lo, hi) => pure (lo, (-1 : Int), Builtin.Slice.slicePlaces lo hi (-1))) _ _ s
  have e1 : Builtin.Slice.sliceAdjust none none (-1) (n : Int) = ((n : Int) - 1, -1) := by
    unfold Builtin.Slice.sliceAdjust; rfl
  rw [e1]
  have e2 : Builtin.Slice.slicePlaces ((n : Int) - 1) (-1) (-1) = n := by
    unfold Builtin.Slice.slicePlaces
    rw [if_neg (by decide)]
    split <;> simp <;> omega
  show wpAny _ _ (pure ((n : Int) - 1, (-1 : Int), Builtin.Slice.slicePlaces ((n : Int) - 1) (-1) (-1))) _ _ s
  rw [e2]
  exact wpAny_pure h
theorem getItem_tuple_rev {t sl : Addr} {items : Array Value} {vs : Value} {Q : Value → Shared → Prop} (ht : IsTup s.heap t items) (hs : s.heap.IsSliceOf sl .none .none vs) (ps : IsPart vs (some (-1)))
    (h : Q (.ref s.heap.objs.size) { s with heap := s.heap.push { cls := .type "tuple", data := .seq items.toList.reverse.toArray } })
    (hsz : items.size ≤ sizeLine) : wpAny (model prog w) A (getItem (.ref t) (.ref sl)) Q E s := by
  have htake : sizeOk (.seq items.toList.reverse.toArray) := by
    show items.toList.reverse.toArray.size ≤ sizeLine
    simpa using hsz
  obtain ⟨os, hos, hcs, hds⟩ := id hs
  have hTs : s.TypeIs (.ref sl) "slice" := ⟨os, hos, hcs⟩
  unfold getItem
  try with_reducible refine wpAny_holding ?_
  first | refine wpAny_bind (wpAny_pure ?_) | skip
  refine wpAny_bind (wpAny_sequenceKey ht.typeIs (by decide) ?_)
  refine wpAny_bind (wpAny_callSpecial?_slot (name := Str.ofString "__getitem__") ht.typeIs PyProof.Rows.slot_tuple_getitem
    (wpAny_call_entry PyProof.Rows.slot_tuple_getitem ht.typeIs entry_tuple_getitem ?_ (args_tuple_getitem _ _)))
  show wpAny _ _ (Builtin.Tuple.tupleItemsOf (.ref t) >>= _) _ _ s
  refine wpAny_bind (tupleItemsOf_ ht ?_)
  refine wpAny_bind (wpAny_typeOf hTs ?_)
  rw [if_pos (by decide)]
  refine wpAny_bind (sliceApplied_rev hs ps ?_)
  show wpAny _ _ (if ((((items.size : Int) - 1) == 0 && (-1 : Int) == 1 && items.size == items.size) = true) then _ else _) _ _ s
  rw [if_neg (by intro q; rw [Bool.and_eq_true, Bool.and_eq_true] at q; exact absurd q.1.2 (by decide)), revAll]
  first
    | exact wpAny_bind (m := Builtin.Tuple.tupleExact _) (wpAny_newObj_type (wpAny_pure ⟨_, rfl, wpAny_pure h⟩) htake)
    | exact wpAny_bind (m := Builtin.Tuple.tupleExact _) (wpAny_newObj_type (wpAny_bind (wpAny_pure (wpAny_pure ⟨_, rfl, wpAny_pure h⟩))) htake)
    | exact wpAny_bind (wpAny_bind (m := Builtin.Tuple.tupleExact _) (wpAny_newObj_type (wpAny_pure (wpAny_pure ⟨_, rfl, wpAny_pure h⟩)) htake))
    | exact wpAny_bind (wpAny_bind (m := Builtin.Tuple.tupleExact _) (wpAny_newObj_type (wpAny_pure ⟨_, rfl, wpAny_pure h⟩) htake))
end
section
variable {X : Cx} {Ξ : XC} {fa : SE}
def tRevT (K : PySem.W.Frag) (te : TE) : TE := fun σ H Q => te σ H fun x H1 => ∃ a xs, x = .ref a ∧ SqT K H1 a xs ∧ ∀ p, H1 p = none → Q (.ref p) (upd H1 p (.tup xs.reverse))
theorem pe_revT {e : Expr} {te : TE} {k : Nat} {p1 p2 p3 pos : Pos} (he : PE X e te) : PE X (.Subscript e (.Slice none none (some (.UnaryOp .USub (.Constant (.int 1) k p1) p2)) p3) pos) (tRevT X.K te) := by
  refine ⟨fun pins s σ H Q I h => ?_⟩
  refine Subscript_ (thn (he.run pins s σ H _ I h) fun v s1 ⟨x, H1, I1, r1, q1⟩ => ?_)
  obtain ⟨a, xs, ex, hx, q⟩ := q1
  subst ex
  cases r1
  have hst : PO X (some (.UnaryOp .USub (.Constant (.int 1) k p1) p2)) (tPart (tUn (rU fun i => .int (-i)) (tC (.int 1)))) := po_some (pe_un un_neg pe_int)
  refine wpAny_Slice (thn (po_none.run pins s1 σ H1 (fun o H2 => o = none ∧ H2 = H1) I1 ⟨rfl, rfl⟩) fun vl s2 ⟨l, H2, I2, pl, el, e2⟩ => ?_)
  subst el e2
  refine thn (po_none.run pins s2 σ H2 (fun o H3 => o = none ∧ H3 = H2) I2 ⟨rfl, rfl⟩) fun vu s3 ⟨u, H3, I3, pu, eu, e3⟩ => ?_
  subst eu e3
  refine thn (hst.run pins s3 σ H3 (fun o H4 => o = some (-1) ∧ H4 = H3) I3 ⟨1, rfl, -1, rfl, rfl, rfl⟩) fun vs s4 ⟨o, H4, I4, ps, eo, e4⟩ => ?_
  subst eo e4
  cases pl
  cases pu
  have I5 : Inv X pins σ H4 { s4 with heap := s4.heap.push { cls := .type "slice", data := .fields #[.none, .none, vs] } } := I4.kept (t' := s4.toks) fun b ob q => Heap.get?_push_of_some _ q
  obtain ⟨its, r, ht, hz⟩ := I5.tuple hx
  have hlen := r.length
  show wpAny (model X.prog X.w) X.A (subscriptTail e (.Slice none none (some (.UnaryOp .USub (.Constant (.int 1) k p1) p2)) p3) (.ref a) (.ref s4.heap.objs.size)) (EP X pins σ Q) X.xe { s4 with heap := s4.heap.push { cls := .type "slice", data := .fields #[.none, .none, vs] } }
  refine tail_any (ops := [.ref a, .ref s4.heap.objs.size]) ht.typeIs PyProof.Rows.slot_tuple_getitem.lookup ?_ (by with_unfolding_all rfl)
  refine getItem_tuple_rev ht (Heap.IsSliceOf.new _ .none .none vs) ps ?_ (by rw [List.size_toArray]; omega)
  refine ⟨.ref _, _, I5.laid (t' := s4.toks) (o := .tup xs.reverse) (fun b ob q => Heap.get?_push_of_some _ q) (Nat.le_refl _) ?_, rfl, q _ (I5.hok.fresh (Nat.le_refl _))⟩
  refine ⟨by rw [List.length_reverse]; exact hz, its.reverse, r.reverse, ?_⟩
  have := IsTup.new { s4.heap with objs := s4.heap.objs.push { cls := .type "slice", data := .fields #[.none, .none, vs] } } its.reverse.toArray
  exact this
theorem PE_or {e : Expr} {t t' : TE} (h : PE X e t) (h' : PE X e t') : PE X e (fun σ H Q => t σ H Q ∨ t' σ H Q) := ⟨fun pins s σ H Q I q => q.elim (h.run pins s σ H Q I) (h'.run pins s σ H Q I)⟩
theorem se_revL {e : Expr} {k : Nat} {p1 p2 p3 pos : Pos} (he : PE X e (rdE X.K Ξ fa)) : PE X (.Subscript e (.Slice none none (some (.UnaryOp .USub (.Constant (.int 1) k p1) p2)) p3) pos) (rdE X.K Ξ (e1 oRevL fa)) :=
  PE_imp (pe_revL he) fun σ H Q ⟨g, s, m, em, sr, q⟩ => by
    refine ⟨g, s, m, em, sr, QR.bind q fun p hp q1 g1 H1 V x1 e1 r1 => ?_⟩
    obtain ⟨v, m1⟩ := p
    have q2 : QE X.K Ξ g1 H1 Q (oRevL v m1) := QE.later x1 q1
    unfold oRevL at q2
    split at q2
    · rename_i xs h1
      obtain ⟨a1, vs, rfl, ha, r1'⟩ := e1.look r1 h1
      exact ⟨a1, vs, rfl, SqL.of ha, fun p hp => QE.newL e1 r1'.rev q2 hp⟩
    · exact q2.elim
theorem se_revT {e : Expr} {k : Nat} {p1 p2 p3 pos : Pos} (he : PE X e (rdE X.K Ξ fa)) : PE X (.Subscript e (.Slice none none (some (.UnaryOp .USub (.Constant (.int 1) k p1) p2)) p3) pos) (rdE X.K Ξ (e1 oRevT fa)) :=
  PE_imp (pe_revT he) fun σ H Q ⟨g, s, m, em, sr, q⟩ => by
    refine ⟨g, s, m, em, sr, QR.bind q fun p hp q1 g1 H1 V x1 e1 r1 => ?_⟩
    obtain ⟨v, m1⟩ := p
    have q2 : QE X.K Ξ g1 H1 Q (oRevT v m1) := QE.later x1 q1
    unfold oRevT at q2
    split at q2
    · rename_i xs
      obtain ⟨a1, vs, rfl, ha, r1'⟩ := r1.tup_inv
      exact ⟨a1, vs, rfl, ha, fun p hp => QE.newT e1 r1'.rev q2 hp⟩
    · exact q2.elim
end
end TT
end

section
set_option Elab.async false
set_option linter.all false
set_option autoImplicit false
set_option maxRecDepth 100000
/-! TT: comprehensions whose target is a tuple of names -/
namespace TT
open PySem PySem.Spec PyProof.Rows L2
theorem wipe_get (σ : L2.St) (own : List Nat) : ∀ (j : Nat), (L2.wipe σ own)[j]? = if j ∈ own then (if j < σ.length then some none else none) else σ[j]? := by
  induction own with
  | nil => intro j; simp [L2.wipe]
  | cons v vs ih =>
    intro j
    unfold L2.wipe
    by_cases hv : v = j
    · subst hv
      simp only [List.mem_cons, true_or, if_true]
      by_cases hl : v < σ.length
      · rw [List.getElem?_set_self (by rw [L2.wipe_length]; exact hl), if_pos hl]
      · rw [List.getElem?_eq_none (by rw [List.length_set, L2.wipe_length]; omega), if_neg hl]
    · rw [List.getElem?_set_ne hv, ih j]
      simp only [List.mem_cons, Ne.symm hv, false_or]
theorem wipe_set1 {σ : L2.St} {i : Nat} {x : Option V} {own : List Nat} (hi : i ∈ own) : L2.wipe (σ.set i x) own = L2.wipe σ own := by
  apply List.ext_getElem?
  intro j
  rw [wipe_get, wipe_get, List.length_set]
  by_cases hj : j ∈ own
  · rw [if_pos hj, if_pos hj]
  · rw [if_neg hj, if_neg hj, List.getElem?_set_ne (fun z => hj (by rw [← z]; exact hi))]
theorem wipe_wipe {σ : L2.St} {own : List Nat} : L2.wipe (L2.wipe σ own) own = L2.wipe σ own := by
  apply List.ext_getElem?
  intro j
  rw [wipe_get, wipe_get, L2.wipe_length]
  by_cases hj : j ∈ own
  · rw [if_pos hj, if_pos hj]
  · rw [if_neg hj, if_neg hj]
def tgs : List Nat → TGs
  | [] => gNil
  | i :: is => gCons (L2.gName i) (tgs is)
section
variable {K : PySem.W.Frag} {g : Gh} {H : Hp}
theorem tgs_run : ∀ (is : List Nat) (pvs : List PV) (xs : List V) (s s' : Sl) (σ : L2.St), Sr K g H s σ → Rps K g H pvs xs → gNames is pvs s = some s' →
    ∃ σ', Sr K g H s' σ' ∧ (∀ Q : L2.St → Hp → Prop, Q σ' H → tgs is xs σ H Q) ∧ ∀ own : List Nat, (∀ i ∈ is, i ∈ own) → L2.wipe σ' own = L2.wipe σ own
  | [], [], _, s, s', σ, sr, .nil, h => by
    cases h
    exact ⟨σ, sr, fun Q q => ⟨rfl, q⟩, fun _ _ => rfl⟩
  | [], _ :: _, _, _, _, _, _, _, h => by cases h
  | _ :: _, [], _, _, _, _, _, _, h => by cases h
  | i :: is, pv :: pvs, x :: xs, s, s', σ, sr, .cons r1 r2, h => by
    obtain ⟨σ', h1, h2, h3⟩ := tgs_run is pvs xs _ s' (σ.set i (some x)) (sr.set r1 i) r2 h
    refine ⟨σ', h1, fun Q q => ⟨x, xs, rfl, h2 Q q⟩, fun own ho => ?_⟩
    rw [h3 own fun j hj => ho j (List.mem_cons_of_mem _ hj), wipe_set1 (ho i List.mem_cons_self)]
end
section
variable {X : Cx} {Ξ : XC} {c : Expr} {es : List Expr} {pos : Pos} {ft : ST} {K : PySem.W.Frag}
theorem sgt_nil : PGs X [] (tgs []) := pgs_nil
theorem sgt_cons {is : List Nat} (i : Nat) {x : Str} {p : Pos} (hN : X.N.Nodup) (h2 : PGs X es (tgs is)) (hi : X.N[i]? = some x := by rfl) (hx : Loc X.env.scope x := by first | exact Or.inl rfl | exact Or.inr rfl) (hf : X.fn x = true ∨ X.env.scope.names.lookup x = some .local := by first | exact .inl rfl | exact .inr rfl | assumption)
    (hs : (assignEach (.Name x p :: es) X.env).map (·.2) = assign (.Name x p) X.env :: (assignEach es X.env).map (·.2) := by rfl) : PGs X (.Name x p :: es) (tgs (i :: is)) := pgs_cons (pg_name hN hi hx hf) h2 hs
theorem rd_lcT {own : List Nat} {it : SI} {is : List Nat} {n : Nat} {ft : ST} {fe : SE} (hi : ∀ i ∈ is, i ∈ own) (hn : is.length = n) {σ : L2.St} {H : Hp} {Q : VK}
    (h : rdE K Ξ (eLc own it (TT.gTup is) ft fe) σ H Q) : tLc (rdI K Ξ it) (L2.gTup K n (tgs is)) (rdT K X0 ft) (rdE K X0 fe) own σ H Q :=
  rd_lc (fun v σ H Q ⟨g, s, m, pv, em, sr, rv, q⟩ => by
    unfold TT.gTup at q
    split at q
    · rename_i vs
      obtain ⟨a, ws, rfl, ha, r1⟩ := rv.tup_inv
      split at q
      · rename_i s' hs
        obtain ⟨σ', h1, h2, h3⟩ := tgs_run is vs ws s s' _ sr r1 hs
        refine ⟨a, ws, rfl, ha, by rw [← r1.length, gNames_len _ _ _ _ hs, hn], h2 _ ⟨?_, q g H σ' (Ext.refl _ _) em h1⟩⟩
        rw [h3 own hi, wipe_wipe]
      · exact q.elim
    · exact q.elim) h
theorem se_lcT {elt iter : Expr} {ifs : List Expr} {scope : Scope} {own : List (Str × Nat)} {oi : List Nat} {tes : List Expr} {tk : Nat} {tp : Pos} {it : SI} (is : List Nat) {fe : SE} (hc : X.calm = true) (hN : X.N.Nodup) (hi : PI X (.Tuple tes tk tp) iter (rdI X.K Ξ it)) (ok : BlkOk X.N X.env.scope scope own)
    (hg : ∀ (s : Shared) (H : Hp) (C : Addr) (cl : List (Str × Addr)) (fp : List Addr), PG (X.blk s H scope (compEnvC scope cl C X.env) fp) (.Tuple tes tk tp) (L2.gTup X.K is.length (tgs is))) (ht : ∀ (s : Shared) (H : Hp) (C : Addr) (cl : List (Str × Addr)) (fp : List Addr), PTs (X.blk s H scope (compEnvC scope cl C X.env) fp) ifs (rdT X.K X0 ft))
    (he : ∀ (s : Shared) (H : Hp) (C : Addr) (cl : List (Str × Addr)) (fp : List Addr), PE (X.blk s H scope (compEnvC scope cl C X.env) fp) elt (rdE X.K X0 fe)) (hs : ∀ x, foldedSetIterable iter X.env x = pure x := by intro _; rfl) (ho : own.map (·.2) = oi := by rfl) (hm : ∀ i ∈ is, i ∈ own.map (·.2) := by decide) :
    PE X (.ListComp elt [⟨.Tuple tes tk tp, iter, ifs, 0⟩] scope pos) (rdE X.K Ξ (eLc oi it (TT.gTup is) ft fe)) := by
  subst ho
  exact PE_imp (pe_lc hc hN hi ok hg ht he hs) fun σ H Q h => rd_lcT hm rfl h
theorem ss_setLcT {elt iter : Expr} {ifs : List Expr} {scope : Scope} {own : List (Str × Nat)} {oi : List Nat} {y : Str} {py spos : Pos} {tes : List Expr} {tk : Nat} {tp : Pos} {it : SI} (iy : Nat) (is : List Nat) {fe : SE} (hc : X.calm = true) (hN : X.N.Nodup) (hi : PI X (.Tuple tes tk tp) iter (rdI X.K Ξ it)) (ok : BlkOk X.N X.env.scope scope own)
    (hg : ∀ (s : Shared) (H : Hp) (C : Addr) (cl : List (Str × Addr)) (fp : List Addr), PG (X.blk s H scope (compEnvC scope cl C X.env) fp) (.Tuple tes tk tp) (L2.gTup X.K is.length (tgs is))) (ht : ∀ (s : Shared) (H : Hp) (C : Addr) (cl : List (Str × Addr)) (fp : List Addr), PTs (X.blk s H scope (compEnvC scope cl C X.env) fp) ifs (rdT X.K X0 ft))
    (he : ∀ (s : Shared) (H : Hp) (C : Addr) (cl : List (Str × Addr)) (fp : List Addr), PE (X.blk s H scope (compEnvC scope cl C X.env) fp) elt (rdE X.K X0 fe)) (hsw : swapsWith (.ListComp elt [⟨.Tuple tes tk tp, iter, ifs, 0⟩] scope pos) (some (.Name y py)) spos.line X.env = pure true)
    (hy : X.N[iy]? = some y := by rfl) (hyl : X.env.scope.names.lookup y = some .local := by rfl) (hs : ∀ x, foldedSetIterable iter X.env x = pure x := by intro _; rfl) (ho : own.map (·.2) = oi := by rfl) (hm : ∀ i ∈ is, i ∈ own.map (·.2) := by decide) :
    PS X (.Assign [.Name y py] (.ListComp elt [⟨.Tuple tes tk tp, iter, ifs, 0⟩] scope pos) spos) (rdS X.K Ξ (sAsg (eLc oi it (TT.gTup is) ft fe) (TT.gName iy))) := by
  subst ho
  exact PS_imp (ps_setLc hc hN hy hyl hsw hi ok hg ht he hs) fun D σ H ⟨g, s, m, em, sr, q⟩ => by
    refine rd_lcT (Ξ := Ξ) hm rfl ⟨g, s, m, em, sr, QR.bind q fun p hp q1 g1 H1 V x1 e1 r1 => ?_⟩
    exact QS_nx e1 ((sr.ext em x1).set r1 iy) (QS.later x1 q1)
end

/-! ### what a def of the text is worth to its callers -/
section
variable {P : Program} {w : World} {K : PySem.W.Frag} {mg : Str → Option Value} {base : Heap}
/-- a def by this name keeps this promise, by at most level k -/
def Has (P : Program) (w : World) (K : PySem.W.Frag) (mg : Str → Option Value) (base : Heap) (x : Str) (k : Nat) (sp : Sp) : Prop :=
  ∃ f fd ps, FnOk P w K mg base CX0 k f fd ps sp ∧ mg x = some (.ref f) ∧ PySem.W.keepIn K (.ref f) = true ∧ Binds K fd ps []
theorem Has.mono {x : Str} {j k : Nat} {sp : Sp} (h : Has P w K mg base x j sp) (hk : j ≤ k) : Has P w K mg base x k sp := let ⟨f, fd, ps, a, b, c, d⟩ := h; ⟨f, fd, ps, a.mono hk, b, c, d⟩
theorem Has.toP {x : Str} {k n N : Nat} {b : SS} (h : Has P w K mg base x k (spI K n (bodyI N n b))) : Has P w K mg base x k (spP K n (bodyP N n b)) := let ⟨f, fd, ps, a, b, c, d⟩ := h; ⟨f, fd, ps, TT.FnOk.toP a, b, c, d⟩
theorem Has.mirP {x : Str} {k n : Nat} {F G : PF} (h : Has P w K mg base x k (spP K n F)) (i : ∀ as v, as.length = n → G as = .ok v → F as = .ok v) : Has P w K mg base x k (spP K n G) := let ⟨f, fd, ps, a, b, c, d⟩ := h; ⟨f, fd, ps, TT.FnOk.mirP a i, b, c, d⟩
theorem Has.mirI {x : Str} {k n : Nat} {F G : IF} (h : Has P w K mg base x k (spI K n F)) (i : ∀ as m v m', as.length = n → G as m = .ok (v, m') → ∃ gar, F as m = .ok (v, m' ++ gar) ∧ (gar = [] ∨ (m'.length = m.length ∧ v.pu = true ∧ Calm1 m m'))) : Has P w K mg base x k (spI K n G) := let ⟨f, fd, ps, a, b, c, d⟩ := h; ⟨f, fd, ps, TT.FnOk.mirI a i, b, c, d⟩
/-- a def, by its body -/
theorem has_def {x : Str} {st : Stmt} {f : Addr} {fd : FuncData} {N ps : List Str} {k : Nat} {b : SS} (F : Fun K x x st f fd) (hm : mg x = some (.ref f)) (S : FnScope N ps (defScope st)) (hN : ps.length ≤ N.length)
    (hb : ∀ (kV doc pm : Value) (an : Option Addr) (cdv ct : Value) (us : List Value), us.length = ps.length → bindArgs (PySem.W.fnOf x x (defArgs st) (defBody st) (defScope st) .none kV doc pm an cdv ct) ⟨us, []⟩ = pure (ps.zip us))
    (hbody : ∀ (cdv : Value) (A : Around) (outer : List Env) (s : Shared) (H : Hp) (E : XK), Room k (A.deeper (envOfC x (defScope st) s.heap.objs.size f cdv)) →
      PSs (cxOf CX0 P w K mg base N x (defScope st) f cdv A outer s H E).nox (defBody st) (rdS K X0 b)) : Has P w K mg base x (k + 1) (spI K ps.length (bodyI N.length ps.length b)) :=
  ⟨f, fd, ps, defI F S hN hbody, hm, F.kp, F.binds hb⟩
end
section
variable {X : Cx} {Ξ : XC} {k : Nat} {x : Str} {p pos : Pos} {e : Expr} {es : List Expr} {fs : SA}
theorem sh_callI {n : Nat} {F : IF} (h : Has X.prog X.w X.K X.mg X.base x k (spI X.K n F)) (hr : Room k X.A) (ha : PA X (e :: es) (rdA X.K Ξ fs)) (hl : ∀ s m xs m', fs s m = .ok (xs, m') → xs.length = (e :: es).length)
    (hn : (e :: es).length = n := by rfl) (hg : Gl X x := by rfl) (hdb : (x == ("__debug__" : Str)) = false := by decide) (he : starEach (e :: es) X.env = (false, eval e X.env) :: starEach es X.env := by rfl) (hpl : (backTo pos (starEach es X.env)).any (·.1) = false := by rfl) :
    PE X (.Call (.Name x p) (e :: es) [] pos) (rdE X.K Ξ (eN (cI F) fs)) := let ⟨f, fd, ps, a, b, c, d⟩ := h; se_callI a hr b c d ha hl hn hg hdb he hpl
theorem sh_callI0 {F : IF} (h : Has X.prog X.w X.K X.mg X.base x k (spI X.K 0 F)) (hr : Room k X.A) (hg : Gl X x := by rfl) (hdb : (x == ("__debug__" : Str)) = false := by decide) : PE X (.Call (.Name x p) [] [] pos) (rdE X.K Ξ (eN (cI F) aNil)) := let ⟨f, fd, ps, a, b, c, d⟩ := h; se_callI0 a hr b c d hg hdb
theorem sh_callP {n : Nat} {F : PF} (h : Has X.prog X.w X.K X.mg X.base x k (spP X.K n F)) (hr : Room k X.A) (ha : PA X (e :: es) (rdA X.K Ξ fs)) (hl : ∀ s m xs m', fs s m = .ok (xs, m') → xs.length = (e :: es).length)
    (hn : (e :: es).length = n := by rfl) (hg : Gl X x := by rfl) (hdb : (x == ("__debug__" : Str)) = false := by decide) (he : starEach (e :: es) X.env = (false, eval e X.env) :: starEach es X.env := by rfl) (hpl : (backTo pos (starEach es X.env)).any (·.1) = false := by rfl) :
    PE X (.Call (.Name x p) (e :: es) [] pos) (rdE X.K Ξ (eN (cP F) fs)) := let ⟨f, fd, ps, a, b, c, d⟩ := h; se_callP a hr b c d ha hl hn hg hdb he hpl
theorem sh_callP0 {F : PF} (h : Has X.prog X.w X.K X.mg X.base x k (spP X.K 0 F)) (hr : Room k X.A) (hg : Gl X x := by rfl) (hdb : (x == ("__debug__" : Str)) = false := by decide) : PE X (.Call (.Name x p) [] [] pos) (rdE X.K Ξ (eN (cP F) aNil)) := let ⟨f, fd, ps, a, b, c, d⟩ := h; se_callP0 a hr b c d hg hdb
/-- a constant of the module -/
def HasC (K : PySem.W.Frag) (mg : Str → Option Value) (x : Str) (v : PV) : Prop := ∃ u w, mg x = some u ∧ RelV w u ∧ ∀ g H, Rp K g H v w
theorem sh_glob {v : PV} {pos : Pos} (h : HasC X.K X.mg x v) (hg : Gl X x := by rfl) (hd : (x == ("__debug__" : Str)) = false := by decide) : PE X (.Name x pos) (rdE X.K Ξ (eC v)) := let ⟨u, w, a, b, c⟩ := h; se_glob hg a b c hd
end
theorem bb_len : bootBuiltins "len" = some (.builtin "len") := by decide +kernel
theorem bb_int : bootBuiltins "int" = some (.type "int") := by decide +kernel
theorem bb_str : bootBuiltins "str" = some (.type "str") := by decide +kernel
theorem bb_bool : bootBuiltins "bool" = some (.type "bool") := by decide +kernel
theorem bb_list : bootBuiltins "list" = some (.type "list") := by decide +kernel
theorem bb_tuple : bootBuiltins "tuple" = some (.type "tuple") := by decide +kernel
theorem bb_isinstance : bootBuiltins "isinstance" = some (.builtin "isinstance") := by decide +kernel
theorem bb_min : bootBuiltins "min" = some (.builtin "min") := by decide +kernel
theorem bb_max : bootBuiltins "max" = some (.builtin "max") := by decide +kernel
theorem bb_all : bootBuiltins "all" = some (.builtin "all") := by decide +kernel
theorem bb_repr : bootBuiltins "repr" = some (.builtin "repr") := by decide +kernel
theorem bb_sum : bootBuiltins "sum" = some (.builtin "sum") := by decide +kernel
theorem bb_sorted : bootBuiltins "sorted" = some (.builtin "sorted") := by decide +kernel
end TT
end

section
set_option Elab.async false
set_option linter.all false
set_option autoImplicit false
set_option maxRecDepth 100000
/-! TT: the law's own promise -/
namespace TT
open PySem PySem.Spec PyProof.Rows L2
def spLaw (K : PySem.W.Frag) : Sp := fun vs H Q _ => ∃ (a : Addr) (ns : List Int), vs = [.ref a] ∧ SqL K H a (ns.map V.int) ∧ ns.length ≤ 63 ∧ ∀ H', Q (.bl true) H'
/-- the heap without its tables -/
def ntOf (H : Hp) : Hp := fun a => match H a with
  | some (.tbl _) => none
  | u => u
theorem ntOf_inv {H : Hp} {a : Addr} {u : HO} (h : ntOf H a = some u) : H a = some u ∧ NT u := by
  unfold ntOf at h
  split at h
  · cases h
  · rename_i hn
    exact ⟨h, fun ps z => hn ps (by rw [h, z])⟩
theorem ntOf_sq {K : PySem.W.Frag} {H : Hp} {a : Addr} {xs : List V} (h : SqL K H a xs) : SqL K (ntOf H) a xs := by
  rcases h with (h | ⟨o, h⟩) | h
  · exact .inl (.inl (by unfold ntOf; rw [h]))
  · exact .inl (.inr ⟨o, by unfold ntOf; rw [h]⟩)
  · exact .inr h
theorem rps_ints {K : PySem.W.Frag} {g : Gh} {H : Hp} : ∀ ns : List Int, Rps K g H (ns.map PV.int) (ns.map V.int)
  | [] => .nil
  | n :: r => .cons (.int n) (rps_ints r)
theorem spLaw_of {K : PySem.W.Frag} {F : IF} (h : ∀ ns : List Int, ns.length ≤ 63 → ∃ m, F [.fz (ns.map PV.int)] [] = .ok (.bl true, m)) {vs : List V} {H : Hp} {Q : VK} {E : XK} (q : spLaw K vs H Q E) : spI K 1 F vs H Q E := by
  obtain ⟨a, ns, rfl, hS, hl, q⟩ := q
  refine ⟨⟨fun _ => none, ntOf H, []⟩, [], [.fz (ns.map PV.int)], rfl, ⟨(fun n o h => by simp at h), (fun n a h => nomatch h), (fun n k a h _ => nomatch h), (fun a u h => ⟨(ntOf_inv h).1, (fun n z => nomatch z)⟩), (fun a u h => (ntOf_inv h).2), (fun p hp => by simp at hp)⟩, .cons (.fz (ntOf_sq hS) (rps_ints ns)) .nil, ?_⟩
  obtain ⟨m, hm⟩ := h ns hl
  unfold cI
  rw [hm]
  intro g' H' V x e r
  cases r.bl_inv
  exact q H'
/-- the law's def: its function over every base, from what it has there -/
theorem law_fn {P : Program} {w : World} {K : PySem.W.Frag} {mg : Str → Option Value} {base : Heap} {x : Str} {st : Stmt} {f : Addr} {fd : FuncData} {N : List Str} {p : Str} {k : Nat} {b : SS} (F : Fun K x x st f fd) (S : FnScope N [p] (defScope st)) (hN : 1 ≤ N.length)
    (hbody : ∀ (cdv : Value) (A : Around) (outer : List Env) (s : Shared) (H : Hp) (E : XK), Room k (A.deeper (envOfC x (defScope st) s.heap.objs.size f cdv)) →
      PSs (cxOf CX0 P w K mg base N x (defScope st) f cdv A outer s H E).nox (defBody st) (rdS K X0 b))
    (h : ∀ ns : List Int, ns.length ≤ 63 → ∃ m, bodyI N.length 1 b [.fz (ns.map PV.int)] [] = .ok (.bl true, m)) : FnOk P w K mg base CX0 (k + 1) f fd [p] (spLaw K) :=
  (defI (ps := [p]) F S hN hbody).imp fun _ _ _ _ => spLaw_of h
/-! ### constants of the module -/
theorem HasC.int {K : PySem.W.Frag} {mg : Str → Option Value} {x : Str} {i : Int} {t : Tok} (h : mg x = some (.int i t)) : HasC K mg x (.int i) := ⟨_, .int i, h, ⟨t, rfl⟩, fun _ _ => .int i⟩
theorem HasC.str {K : PySem.W.Frag} {mg : Str → Option Value} {x : Str} {z : Str} {t : Tok} (l : List Nat) (h : mg x = some (.str z t)) (e : z = ⟨l.toArray⟩) : HasC K mg x (.str l) := by
  subst e; exact ⟨_, .str _, h, ⟨t, rfl⟩, fun _ _ => .str l⟩
/-- a value of the written part -/
inductive KV1 (K : PySem.W.Frag) : PV → Value → Prop
  | non : KV1 K .non .none
  | bl (b : Bool) : KV1 K (.bl b) (.bool b)
  | int (i : Int) (t : Tok) : KV1 K (.int i) (.int i t)
  | str (l : List Nat) (t : Tok) : KV1 K (.str l) (.str ⟨l.toArray⟩ t)
inductive KVs (K : PySem.W.Frag) (R : PV → Value → Prop) : List PV → List Value → Prop
  | nil : KVs K R [] []
  | cons {x : PV} {xs : List PV} {u : Value} {us : List Value} : R x u → KVs K R xs us → KVs K R (x :: xs) (u :: us)
theorem kv1_rp {K : PySem.W.Frag} {g : Gh} {H : Hp} {x : PV} {u : Value} (h : KV1 K x u) : ∃ v, RelV v u ∧ Rp K g H x v := by
  cases h with
  | non => exact ⟨.non, rfl, .non⟩
  | bl b => exact ⟨.bl b, rfl, .bl b⟩
  | int i t => exact ⟨.int i, ⟨t, rfl⟩, .int i⟩
  | str l t => exact ⟨.str _, ⟨t, rfl⟩, .str l⟩
/-- a tuple of the written part whose items are R -/
def KTup (K : PySem.W.Frag) (R : PV → Value → Prop) (xs : List PV) (a : Addr) : Prop := ∃ (oc : Value) (od : Option Addr) (us : List Value) (n : Nat) (sl : Array (Option Value)), oc = .type "tuple" ∧ K.lookup a = some ⟨oc, od, .seq us.toArray n, sl⟩ ∧ us.length ≤ 1000 ∧ KVs K R xs us
theorem ktup_rp {K : PySem.W.Frag} {R : PV → Value → Prop} (hR : ∀ x u, R x u → ∃ v, RelV v u ∧ ∀ g H, Rp K g H x v) {xs : List PV} {a : Addr} (h : KTup K R xs a) : ∀ g H, Rp K g H (.tup xs) (.ref a) := by
  obtain ⟨oc, od, us, n, sl, rfl, hl, hs, hk⟩ := h
  have : ∃ vs, Vals vs us ∧ ∀ g H, Rps K g H xs vs := by
    clear hl hs
    induction hk with
    | nil => exact ⟨[], .nil, fun _ _ => .nil⟩
    | cons h1 _ ih =>
      obtain ⟨vs, a, b⟩ := ih
      obtain ⟨v, c, d⟩ := hR _ _ h1
      exact ⟨v :: vs, .cons c a, fun g H => .cons (d g H) (b g H)⟩
  obtain ⟨vs, hv, hr⟩ := this
  intro g H
  refine .tup (.inr ⟨_, us.toArray, n, hl, rfl, rfl, ?_, ?_⟩) (hr g H)
  · rw [List.size_toArray, sizeLine_eq]; omega
  · simpa using hv
theorem HasC.tup {K : PySem.W.Frag} {mg : Str → Option Value} {x : Str} {a : Addr} {xs : List PV} (h : mg x = some (.ref a)) (k : KTup K (KV1 K) xs a) : HasC K mg x (.tup xs) :=
  ⟨_, .ref a, h, rfl, ktup_rp (fun x u h => by
    cases h with
    | non => exact ⟨.non, rfl, fun _ _ => .non⟩
    | bl b => exact ⟨.bl b, rfl, fun _ _ => .bl b⟩
    | int i t => exact ⟨.int i, ⟨t, rfl⟩, fun _ _ => .int i⟩
    | str l t => exact ⟨.str _, ⟨t, rfl⟩, fun _ _ => .str l⟩) k⟩
/-- a tuple of tuples -/
def KT2 (K : PySem.W.Frag) : PV → Value → Prop := fun x u => KV1 K x u ∨ ∃ xs a, x = .tup xs ∧ u = .ref a ∧ KTup K (KV1 K) xs a
theorem HasC.tup2 {K : PySem.W.Frag} {mg : Str → Option Value} {x : Str} {a : Addr} {xs : List PV} (h : mg x = some (.ref a)) (k : KTup K (KT2 K) xs a) : HasC K mg x (.tup xs) :=
  ⟨_, .ref a, h, rfl, ktup_rp (fun x u h => by
    have base : ∀ (x : PV) (u : Value), KV1 K x u → ∃ v, RelV v u ∧ ∀ g H, Rp K g H x v := fun x u h => by
      cases h with
      | non => exact ⟨.non, rfl, fun _ _ => .non⟩
      | bl b => exact ⟨.bl b, rfl, fun _ _ => .bl b⟩
      | int i t => exact ⟨.int i, ⟨t, rfl⟩, fun _ _ => .int i⟩
      | str l t => exact ⟨.str _, ⟨t, rfl⟩, fun _ _ => .str l⟩
    rcases h with h | ⟨xs, a, rfl, rfl, h⟩
    · exact base x u h
    · exact ⟨.ref a, rfl, ktup_rp base h⟩) k⟩
end TT
end

section
set_option Elab.async false
set_option linter.all false
set_option autoImplicit false
set_option maxRecDepth 100000
/-! TT: unpacking of lists, texts searched, calls with keywords -/
namespace TT
open PySem PySem.Spec PyProof.Rows L2
section
variable {X : Cx} {Ξ : XC} {a b c e o : Expr} {es : List Expr} {pos : Pos} {fa fb fc : SE} {ft : ST} {K : PySem.W.Frag}
/-- a, b, .. = a list -/
theorem sg_seq {is : List Nat} {k : Nat} (n : Nat) (hc : X.calm = true) (h : PGs X es (rdGs X.K Ξ is)) (hl : is.length = n := by rfl) (hn : (assignEach es X.env).length = n := by rfl) (hst : (assignEach es X.env).findIdx? (·.1) = none := by rfl) : PG X (.Tuple es k pos) (rdG X.K Ξ (gUnp is)) :=
  PG_imp (pg_unl hc h hn hst) fun v σ H Q ⟨g, s, m, pv, em, sr, rv, q⟩ => by
    unfold gUnp at q
    split at q
    · rename_i vs hv
      obtain ⟨a, ws, rfl, ha, r1⟩ := em.look rv hv
      split at q
      · rename_i s' hs
        have hlen : vs.length = n := by rw [← hl]; exact gNames_len _ _ _ _ hs
        exact ⟨a, ws, rfl, SqL.of ha, by rw [← r1.length]; exact hlen, g, s, m, vs, em, sr, r1, s', hs, fun σ' sr' => q g H σ' (Ext.refl _ _) em sr'⟩
      · exact q.elim
    · exact q.elim
/-! ### a sign in a text of two -/
theorem occ2 (p q c : Nat) : Builtin.Str.occurrences ⟨#[p, q]⟩ ⟨#[c]⟩ 0 2 1 = if c = p then [0] else if c = q then [1] else [] := by
  have one : ∀ x y : Nat, ((#[x] : Array Nat) == #[y]) = decide (y = x) := fun x y => by
    by_cases h : y = x
    · subst h; simp
    · rw [decide_eq_false h]
      exact beq_eq_false_iff_ne.mpr fun z => h (by injection z with z; injection z with z; exact z.symm)
  have s0 : Builtin.Str.subAt ⟨#[p, q]⟩ ⟨#[c]⟩ 0 = decide (c = p) := one p c
  have s1 : Builtin.Str.subAt ⟨#[p, q]⟩ ⟨#[c]⟩ 1 = decide (c = q) := one q c
  have l1 : (⟨#[c]⟩ : Str).length = 1 := rfl
  rw [StrLaws.occ_eq]
  have lr : List.range' 0 (2 + 1 - 0) = [0, 1, 2] := rfl
  rw [lr]
  simp only [List.forIn_cons, List.forIn_nil, StrLaws.occBody, s0, s1, l1]
  by_cases h : c = p
  · simp [h]
  · by_cases h' : c = q
    · subst h'; simp [h]
    · simp [h, h']
theorem mt_tIndexS : MtR X "str.index" (rdM X.K Ξ mIndexS) := by
  refine MtR_imp mt_sindex fun x xs H Q ⟨g, m, a, as, e, ra, rs, q⟩ => ?_
  unfold mIndexS at q
  split at q
  · rename_i p r c
    cases ra.str_inv
    cases rs with
    | cons r1 r2 =>
      cases r2
      cases r1.str_inv
      have := occ2 p r c
      by_cases h : c = p
      · rw [if_pos h] at q this
        exact ⟨_, _, 0, [], rfl, rfl, this, QE.ret e (.int 0) q⟩
      · rw [if_neg h] at q this
        by_cases h' : c = r
        · rw [if_pos h'] at q this
          exact ⟨_, _, 1, [], rfl, rfl, this, QE.ret e (.int 1) q⟩
        · rw [if_neg h'] at q; exact q.elim
  · exact q.elim
theorem mt_tFindS : MtR X "str.find" (rdM X.K Ξ mFindS) := by
  refine MtR_imp mt_find fun x xs H Q ⟨g, m, a, as, e, ra, rs, q⟩ => ?_
  unfold mFindS at q
  split at q
  · rename_i p r c
    cases ra.str_inv
    cases rs with
    | cons r1 r2 =>
      cases r2
      cases r1.str_inv
      have := occ2 p r c
      refine ⟨_, _, rfl, rfl, ?_⟩
      have hf : Txt.find ⟨#[p, r]⟩ ⟨#[c]⟩ = if c = p then 0 else if c = r then 1 else -1 := by
        show (match Builtin.Str.occurrences ⟨#[p, r]⟩ ⟨#[c]⟩ 0 2 1 with | i :: _ => (i : Int) | [] => -1) = _
        rw [this]
        by_cases h : c = p
        · rw [if_pos h, if_pos h]; rfl
        · by_cases h' : c = r
          · rw [if_neg h, if_neg h, if_pos h', if_pos h']; rfl
          · rw [if_neg h, if_neg h, if_neg h', if_neg h']
      show Q (.int (Txt.find ⟨#[p, r]⟩ ⟨#[c]⟩)) H
      rw [hf]
      exact QE.ret e (.int _) q
  · exact q.elim
end
/-! ### calls with keywords -/
section
variable {P : Program} {w : World} {K : PySem.W.Frag} {mg : Str → Option Value} {base : Heap}
def HasK (P : Program) (w : World) (K : PySem.W.Frag) (mg : Str → Option Value) (base : Heap) (x : Str) (k n : Nat) (ks : List Str) (sp : Sp) : Prop :=
  ∃ f fd ps, FnOk P w K mg base CX0 k f fd ps sp ∧ mg x = some (.ref f) ∧ PySem.W.keepIn K (.ref f) = true ∧ KBn K fd ps n ks (fun us ws => us ++ ws) (fun vs zs => vs ++ zs)
def HasD (P : Program) (w : World) (K : PySem.W.Frag) (mg : Str → Option Value) (base : Heap) (x : Str) (k : Nat) (ds : List PV) (sp : Sp) : Prop :=
  ∃ f fd ps us zs, FnOk P w K mg base CX0 k f fd ps sp ∧ mg x = some (.ref f) ∧ PySem.W.keepIn K (.ref f) = true ∧ Binds K fd ps us ∧ Vals zs us ∧ ∀ g H, Rps K g H ds zs
theorem HasK.toP {x : Str} {k n N j : Nat} {ks : List Str} {b : SS} (h : HasK P w K mg base x k j ks (spI K n (bodyI N n b))) : HasK P w K mg base x k j ks (spP K n (bodyP N n b)) := let ⟨f, fd, ps, a, b, c, d⟩ := h; ⟨f, fd, ps, TT.FnOk.toP a, b, c, d⟩
theorem HasD.toP {x : Str} {k n N : Nat} {ds : List PV} {b : SS} (h : HasD P w K mg base x k ds (spI K n (bodyI N n b))) : HasD P w K mg base x k ds (spP K n (bodyP N n b)) := let ⟨f, fd, ps, us, zs, a, b, c, d, e⟩ := h; ⟨f, fd, ps, us, zs, TT.FnOk.toP a, b, c, d, e⟩
theorem hasK_fn {x : Str} {st : Stmt} {f : Addr} {fd : FuncData} {ps : List Str} {k : Nat} {sp : Sp} (n : Nat) (ks : List Str) (a : FnOk P w K mg base CX0 k f fd ps sp) (F : Fun K x x st f fd) (hm : mg x = some (.ref f))
    (hb : ∀ (kV doc pm : Value) (an : Option Addr) (cdv ct : Value) (us ws : List Value), us.length = n → ws.length = ks.length → bindArgs (PySem.W.fnOf x x (defArgs st) (defBody st) (defScope st) .none kV doc pm an cdv ct) ⟨us, ks.zip ws⟩ = pure (ps.zip (us ++ ws))) : HasK P w K mg base x k n ks sp := by
  refine ⟨f, fd, ps, a, hm, F.kp, ⟨fun s us ws _ l1 l2 => ?_, fun r1 r2 => r1.append r2⟩⟩
  obtain ⟨oc, od, kV, doc, pm, an, cdv, ct, osl, rfl, lk, hcd⟩ := F.ex
  exact .of_eq (hb kV doc pm an cdv ct us ws l1 l2)
theorem funD_mk {x qual : Str} {st : Stmt} {f D : Addr} {oc : Value} {od an : Option Addr} {osl : Array (Option Value)} {doc pm cdv ct : Value} {kws : List (Str × V)} (l : K.lookup f = some ⟨oc, od, .func (PySem.W.fnOf x qual (defArgs st) (defBody st) (defScope st) .none (.ref D) doc pm an cdv ct), osl⟩)
    (c : PySem.W.codeIn K cdv qual = true) (k : PySem.W.keepIn K (.ref f) = true) (d : ∀ q ∈ kws, ∃ u, PySem.W.nsIn K D q.1 = some (some u) ∧ RelV q.2 u) : FunD K x qual (defArgs st) (defBody st) (defScope st) [] kws f (PySem.W.fnOf x qual (defArgs st) (defBody st) (defScope st) .none (.ref D) doc pm an cdv ct) :=
  ⟨⟨oc, od, .none, .ref D, doc, pm, an, cdv, ct, osl, rfl, l, c, .inl ⟨rfl, rfl⟩, .inr ⟨D, rfl, d⟩⟩, k⟩
theorem hasD_fn {x : Str} {st : Stmt} {f : Addr} {fd : FuncData} {ps : List Str} {k : Nat} {sp : Sp} {kws : List (Str × V)} {ds : List PV} (n : Nat) (a : FnOk P w K mg base CX0 k f fd ps sp) (hm : mg x = some (.ref f)) (F : FunD K x x (defArgs st) (defBody st) (defScope st) [] kws f fd) (hk : kws ≠ []) (hn : n + kws.length = ps.length)
    (hc : ∀ (D : Addr) (doc pm : Value) (an : Option Addr) (cdv ct : Value) (us ks : List Value), us.length = n → ks.length = kws.length →
      KwChain D ((kws.map (·.1)).zip ks) (bindArgs (PySem.W.fnOf x x (defArgs st) (defBody st) (defScope st) .none (.ref D) doc pm an cdv ct) ⟨us, []⟩) (ps.zip (us ++ ks))) (hd : ∀ g H, Rps K g H ds (kws.map (·.2))) : HasD P w K mg base x k ds sp := by
  obtain ⟨us, hv, hb⟩ := F.binds0 n hk hn hc
  exact ⟨f, fd, ps, us, _, a, hm, F.kp, hb, hv, hd⟩
end
section
variable {X : Cx} {Ξ : XC} {k : Nat} {x : Str} {p pos kpos : Pos} {e : Expr} {es : List Expr} {kws : List Keyword} {fs gs : SA} {fa : SE} {nm : Option Str}
theorem PK_imp {t t' : TA} (h : PK X kws t) (f : ∀ σ H Q, t' σ H Q → t σ H Q) : PK X kws t' := ⟨fun pos pins s σ H Q I q => h.run pos pins s σ H Q I (f σ H Q q)⟩
theorem sk_nil : PK X [] (rdA X.K Ξ aNil) := PK_imp pk_nil fun σ H Q ⟨g, s, m, em, sr, q⟩ => q g H [] (Ext.refl _ _) em .nil
theorem sk_cons (ha : PE X e (rdE X.K Ξ fa)) (hr : PK X kws (rdA X.K Ξ gs)) : PK X (⟨nm, e, kpos⟩ :: kws) (rdA X.K Ξ (aCons fa gs)) :=
  PK_imp (pk_cons ha hr) fun σ H Q ⟨g, s, m, em, sr, q⟩ => by
    refine ⟨g, s, m, em, sr, QR.bind q fun p hp q1 g1 H1 V x1 e1 r1 => ?_⟩
    refine ⟨g1, s, p.2, e1, sr.ext em x1, QR.bind (QA.later x1 q1) fun p2 hp2 q2 g2 H2 W x2 e2 r2 => ?_⟩
    exact q2 g2 H2 _ x2 e2 (.cons (r1.ext e1 x2) r2)
theorem al_kcons {fa : SE} {f : SA} {n : Nat} (h : ∀ s m xs m', f s m = .ok (xs, m') → xs.length = n) : ∀ s m xs m', aCons fa f s m = .ok (xs, m') → xs.length = n + 1 := fun s m xs m' he => by
  obtain ⟨p, h1, h2⟩ := Rs.bind_eq_ok he
  obtain ⟨p2, h3, h4⟩ := Rs.bind_eq_ok h2
  cases h4
  rw [List.length_cons, h _ _ _ _ h3]
theorem al_knil : ∀ s m xs m', aNil s m = .ok (xs, m') → xs.length = 0 := fun s m xs m' h => by cases h; rfl
theorem sh_callK {n : Nat} {ks : List Str} {F : PF} (N : Nat) (h : HasK X.prog X.w X.K X.mg X.base x k n ks (spP X.K N F)) (hr : Room k X.A) (ha : PA X (e :: es) (rdA X.K Ξ fs)) (hl : ∀ s m xs m', fs s m = .ok (xs, m') → xs.length = (e :: es).length)
    (hkw : PK X kws (rdA X.K Ξ gs)) (hl2 : ∀ s m xs m', gs s m = .ok (xs, m') → xs.length = ks.length)
    (hn : (e :: es).length = n := by rfl) (hN : n + ks.length = N := by rfl) (hg : Gl X x := by rfl) (hall : (backToKw pos (keywordEach kws X.env)).all (·.1.isSome) = true := by rfl) (hks : (backToKw pos (keywordEach kws X.env)).filterMap (·.1) = ks := by rfl)
    (hdb : (x == ("__debug__" : Str)) = false := by decide) (he : starEach (e :: es) X.env = (false, eval e X.env) :: starEach es X.env := by rfl)
    (hpl : ((backTo pos (starEach (e :: es) X.env)).any (·.1) || (backToKw pos (keywordEach kws X.env)).any (·.1.isNone)) = false := by rfl) :
    PE X (.Call (.Name x p) (e :: es) kws pos) (rdE X.K Ξ (eNK (cP F) fs gs)) := by
  obtain ⟨f, fd, ps, a, b, c, d⟩ := h
  refine PE_imp (pe_callN a hr hg b c d pass0 ha hkw hall hks hdb he hpl) fun σ H Q ⟨g, s, m, em, sr, q⟩ => ?_
  refine ⟨g, s, m, em, sr, QR.bind q fun p hp q1 g1 H1 V x1 e1 r1 => ?_⟩
  refine ⟨g1, s, p.2, e1, sr.ext em x1, QR.bind (QE.later x1 q1) fun p2 hp2 q2 g2 H2 W x2 e2 r2 => ?_⟩
  have l1 := hl _ _ _ _ hp
  have l2 := hl2 _ _ _ _ hp2
  refine ⟨by rw [← r1.length, l1, hn], by rw [← r2.length, l2], g2, p2.2, p.1 ++ p2.1, by rw [List.length_append, l1, l2, hn, hN], e2, (r1.ext e1 x2).append r2, cP_X0 (QE.later x2 q2)⟩
theorem sh_callD {ds : List PV} {F : PF} (N : Nat) (h : HasD X.prog X.w X.K X.mg X.base x k ds (spP X.K N F)) (hr : Room k X.A) (ha : PA X (e :: es) (rdA X.K Ξ fs)) (hl : ∀ s m xs m', fs s m = .ok (xs, m') → xs.length = (e :: es).length)
    (hN : (e :: es).length + ds.length = N := by rfl) (hg : Gl X x := by rfl)
    (hdb : (x == ("__debug__" : Str)) = false := by decide) (he : starEach (e :: es) X.env = (false, eval e X.env) :: starEach es X.env := by rfl) (hpl : (backTo pos (starEach es X.env)).any (·.1) = false := by rfl) :
    PE X (.Call (.Name x p) (e :: es) [] pos) (rdE X.K Ξ (eND (cP F) fs ds)) := by
  obtain ⟨f, fd, ps, us, zs, a, b, c, d, hv, hz⟩ := h
  refine PE_imp (pe_call a hr hg b c d hv pass0 ha hdb he hpl) fun σ H Q ⟨g, s, m, em, sr, q⟩ => ?_
  refine ⟨g, s, m, em, sr, QR.bind q fun p hp q1 g1 H1 V x1 e1 r1 => ?_⟩
  exact ⟨g1, p.2, p.1 ++ ds, by rw [List.length_append, hl _ _ _ _ hp, hN], e1, r1.append (hz _ _), cP_X0 (QE.later x1 q1)⟩
end
end TT
end

section
set_option Elab.async false
set_option linter.all false
set_option autoImplicit false
set_option maxRecDepth 100000
/-! TT: x[lo::st] of lists -/
namespace TT
open PySem PySem.Spec PyProof.Rows L2
inductive F2 {α β : Type} (R : α → β → Prop) : List α → List β → Prop
  | nil : F2 R [] []
  | cons {x : α} {y : β} {xs : List α} {ys : List β} : R x y → F2 R xs ys → F2 R (x :: xs) (y :: ys)
theorem pick_len {α β : Type} {xs : List α} {ys : List β} (h : xs.length = ys.length) {R : α → β → Prop} (g : ∀ (i : Nat) x y, xs[i]? = some x → ys[i]? = some y → R x y) : ∀ is : List Nat, F2 R (is.filterMap fun i => xs[i]?) (is.filterMap fun i => ys[i]?)
  | [] => .nil
  | i :: is => by
    have ih := pick_len h g is
    cases hx : xs[i]? with
    | none =>
      have hy : ys[i]? = none := by rw [List.getElem?_eq_none_iff] at hx ⊢; omega
      simp only [List.filterMap_cons, hx, hy]; exact ih
    | some x =>
      have hlt : i < ys.length := by have := (List.getElem?_eq_some_iff.mp hx).1; omega
      have hy : ys[i]? = some ys[i] := List.getElem?_eq_getElem hlt
      simp only [List.filterMap_cons, hx, hy]; exact .cons (g i x _ hx hy) ih
theorem vals_of {xs : List V} {us : List Value} (h : F2 RelV xs us) : Vals xs us := by
  induction h with
  | nil => exact .nil
  | cons a _ ih => exact .cons a ih
theorem vals_step {xs : List V} {us : List Value} (r : Vals xs us) (lo st : Int) : Vals (stepL xs lo st) (stepL us lo st) := by
  unfold stepL
  rw [← r.length]
  refine vals_of (pick_len r.length (fun i x y hx hy => ?_) _)
  obtain ⟨u, h1, h2⟩ := r.get hx
  rw [hy] at h1; cases h1
  exact h2
theorem rps_of {K : PySem.W.Frag} {g : Gh} {H : Hp} {xs : List PV} {us : List V} (h : F2 (Rp K g H) xs us) : Rps K g H xs us := by
  induction h with
  | nil => exact .nil
  | cons a _ ih => exact .cons a ih
theorem rps_step {K : PySem.W.Frag} {g : Gh} {H : Hp} {xs : List PV} {us : List V} (r : Rps K g H xs us) (lo st : Int) : Rps K g H (stepL xs lo st) (stepL us lo st) := by
  unfold stepL
  rw [← r.length]
  refine rps_of (pick_len r.length (fun i x y hx hy => ?_) _)
  obtain ⟨u, h1, h2⟩ := r.get hx
  rw [hy] at h1; cases h1
  exact h2
theorem pick_step {items : Array Value} {lo st : Int} (h0 : 0 ≤ lo) (h1 : lo ≤ items.size) (hs : 0 < st) : slicePick items (some lo) none (some st) = (stepL items.toList lo st).toArray := by
  have hb : sliceBounds (some lo) none (some st) items.size = (lo, (items.size : Int), st) := by
    simp only [sliceBounds, Option.getD_some]
    rw [if_neg (by omega : ¬ lo < 0)]
    simp only [gt_iff_lt, hs, if_true]
    congr 1
    omega
  unfold slicePick
  rw [hb]
  unfold stepL stepIdx sliceRange
  simp only [gt_iff_lt, hs, if_true, Array.length_toList]
  congr 1
  congr 1
  funext i
  simp
theorem step_len {α : Type} (xs : List α) (lo st : Int) (h0 : 0 ≤ lo) (h1 : lo ≤ xs.length) (hs : 0 < st) : (stepL xs lo st).length ≤ xs.length := by
  unfold stepL
  refine Nat.le_trans (List.length_filterMap_le _ _) ?_
  unfold stepIdx
  rw [List.length_map, List.length_range]
  split
  · have := ceilDiv_le ((xs.length : Int) - lo) st (by omega) (by omega)
    omega
  · omega
section
variable {X : Cx} {Ξ : XC} {fa fb : SE}
def tStep (K : PySem.W.Frag) (st : Int) (te ti : TE) : TE := fun σ H Q => te σ H fun x H1 => ∃ a, x = .ref a ∧ ti σ H1 fun y H2 => ∃ lo, y = .int lo ∧ ∃ xs, SqL K H2 a xs ∧ 0 ≤ lo ∧ lo ≤ xs.length ∧ ∀ p, H2 p = none → Q (.ref p) (upd H2 p (.lst (stepL xs lo st)))
theorem pe_step {e i : Expr} {te ti : TE} {st : Int} {k : Nat} {p1 p3 pos : Pos} (hs : 0 < st) (he : PE X e te) (hi : PE X i ti) : PE X (.Subscript e (.Slice (some i) none (some (.Constant (.int st) k p1)) p3) pos) (tStep X.K st te ti) := by
  refine ⟨fun pins s σ H Q I h => ?_⟩
  refine Subscript_ (thn (he.run pins s σ H _ I h) fun v s1 ⟨x, H1, I1, r1, q1⟩ => ?_)
  obtain ⟨a, ex, q⟩ := q1
  subst ex
  cases r1
  have hst : PO X (some (.Constant (.int st) k p1)) (tPart (tC (.int st))) := po_some pe_int
  have hlo : PO X (some i) (tPart ti) := po_some hi
  refine wpAny_Slice (thn (hlo.run pins s1 σ H1 (fun o H2 => match o with | some lo => ∃ xs, SqL X.K H2 a xs ∧ 0 ≤ lo ∧ lo ≤ xs.length ∧ ∀ p, H2 p = none → Q (.ref p) (upd H2 p (.lst (stepL xs lo st))) | none => False) I1 q) fun vl s2 ⟨l, H2, I2, pl, hq⟩ => ?_)
  obtain _ | lo := l
  · exact hq.elim
  obtain ⟨xs, hx, l0, l1, q⟩ := hq
  refine thn (po_none.run pins s2 σ H2 (fun o H3 => o = none ∧ H3 = H2) I2 ⟨rfl, rfl⟩) fun vu s3 ⟨u, H3, I3, pu, eu, e3⟩ => ?_
  subst eu e3
  refine thn (hst.run pins s3 σ H3 (fun o H4 => o = some st ∧ H4 = H3) I3 ⟨st, rfl, rfl, rfl⟩) fun vs s4 ⟨o, H4, I4, ps, eo, e4⟩ => ?_
  subst eo e4
  have I5 : Inv X pins σ H4 { s4 with heap := s4.heap.push { cls := .type "slice", data := .fields #[vl, vu, vs] } } := I4.kept (t' := s4.toks) fun b ob q => Heap.get?_push_of_some _ q
  obtain ⟨its, r, ht, hz⟩ := I5.list hx
  have hlen := r.length
  show wpAny (model X.prog X.w) X.A (subscriptTail e (.Slice (some i) none (some (.Constant (.int st) k p1)) p3) (.ref a) (.ref s4.heap.objs.size)) (EP X pins σ Q) X.xe { s4 with heap := s4.heap.push { cls := .type "slice", data := .fields #[vl, vu, vs] } }
  refine tail_any (ops := [.ref a, .ref s4.heap.objs.size]) ht.isList.typeIs (PySem.slot_list_getitem.lookup) ?_ (by with_unfolding_all rfl)
  refine wpAny_getItem_list_slice ht.isList (Heap.IsSliceOf.new _ vl vu vs) pl pu ps (by intro z; cases z; omega) ?_ (by rw [List.size_toArray]; omega)
  rw [pick_step l0 (by rw [List.size_toArray]; omega) hs]
  refine ⟨.ref _, _, I5.laid (t' := s4.toks) (o := .lst (stepL xs lo st)) (fun b ob q => Heap.get?_push_of_some _ q) (Nat.le_refl _) ?_, rfl, q _ (I5.hok.fresh (Nat.le_refl _))⟩
  exact ⟨Nat.le_trans (step_len xs lo st l0 l1 hs) hz, _, 0, vals_step r lo st, Heap.get?_push_size _ rfl⟩
theorem se_slS {e i : Expr} {st : Int} {k : Nat} {p1 p3 pos : Pos} (he : PE X e (rdE X.K Ξ fa)) (hi : PE X i (rdE X.K Ξ fb)) (hs : 0 < st := by decide) : PE X (.Subscript e (.Slice (some i) none (some (.Constant (.int st) k p1)) p3) pos) (rdE X.K Ξ (eSlS fb st fa)) :=
  PE_imp (pe_step hs he hi) fun σ H Q ⟨g, s, m, em, sr, q⟩ => by
    refine ⟨g, s, m, em, sr, QR.bind q fun p hp q1 g1 H1 V x1 e1 r1 => ?_⟩
    obtain ⟨v, m1⟩ := p
    simp only at q1
    cases v with
    | ref n =>
      obtain ⟨a1, rfl, hn⟩ := r1.ref_inv
      refine ⟨a1, rfl, g1, s, m1, e1, sr.ext em x1, QR.bind (QE.later x1 q1) fun p2 hp2 q3 g2 H2 W x2 e2 r2 => ?_⟩
      obtain ⟨l, m2⟩ := p2
      have q4 : QE X.K Ξ g2 H2 Q (oStep st n l m2) := QE.later x2 q3
      unfold oStep at q4
      split at q4
      · rename_i i
        split at q4
        · rename_i xs hm
          split at q4
          · rename_i hc
            simp only [Bool.and_eq_true, decide_eq_true_eq] at hc
            cases r2.int_inv
            obtain ⟨a2, vs, h1, h2, h3⟩ := e2.obj _ _ hm
            rw [x2.phi _ _ hn] at h1; cases h1
            exact ⟨_, rfl, vs, SqL.of h2, hc.1, by rw [← h3.length]; exact hc.2, fun p hp => QE.newL e2 (rps_step h3 _ _) q4 hp⟩
          · exact q4.elim
        · exact q4.elim
      · exact q4.elim
    | _ => exact q1.elim
end
end TT
end

section
set_option Elab.async false
set_option linter.all false
set_option autoImplicit false
set_option maxRecDepth 100000
/-! TT: dicts whose keys are texts and whole numbers -/
namespace TT
open PySem PySem.Spec PyProof.Rows L2
theorem keyOf_ok {k : PV} (h : keyOk k = true) : ∃ k', keyOf k = some k' := by
  cases k <;> first | exact ⟨_, rfl⟩ | cases h
theorem keyOf_eq {a b : PV} {a' b' : Key} (ha : keyOf a = some a') (hb : keyOf b = some b') : keyEq a b = decide (a' = b') := by
  cases a <;> cases b <;> simp only [keyOf] at ha hb <;> cases ha <;> cases hb
  · rename_i i j
    simp only [keyEq, Sum.inl.injEq]
  · rfl
  · rfl
  · rename_i x y
    have : (Sum.inr (⟨x.toArray⟩ : Str) : Key) = Sum.inr ⟨y.toArray⟩ ↔ x = y := by
      constructor
      · intro h; injection h with h; injection h with h; simpa using h
      · intro h; rw [h]
    simp only [keyEq, this]
section
variable {K : PySem.W.Frag} {g g' : Gh} {m m' : Mm} {H H' : Hp}
theorem rp_key {k : PV} {v : V} {k' : Key} (r : Rp K g H k v) (h : keyOf k = some k') : v = kV k' := by
  cases r <;> simp only [keyOf] at h <;> cases h <;> rfl
theorem RKs.find {k : PV} {k' : Key} (hk : keyOf k = some k') : ∀ {kvs : List (PV × PV)} {vs : List (Key × V)}, RKs K g H kvs vs → ∀ x, dFind kvs k = some x → ∃ v, valV vs k' = some v ∧ Rp K g H x v
  | _, _, .nil, x, h => by simp [dFind] at h
  | _, _, .cons (k := a) (x := y) (k' := a') (v := w) (xs := r) (vs := rs) ka rv rest, x, h => by
    have e := keyOf_eq ka hk
    by_cases c : a' = k'
    · have e1 : keyEq a k = true := by rw [e]; simp [c]
      have : dFind ((a, y) :: r) k = some y := by simp [dFind, List.find?_cons, e1]
      rw [this] at h; cases h
      exact ⟨w, valV_pos c, rv⟩
    · have e1 : keyEq a k = false := by rw [e]; simp [c]
      have : dFind ((a, y) :: r) k = dFind r k := by simp [dFind, List.find?_cons, e1]
      rw [this] at h
      obtain ⟨v, h1, h2⟩ := RKs.find hk rest x h
      exact ⟨v, by rw [valV_neg c]; exact h1, h2⟩
theorem RKs.any {k : PV} {k' : Key} (hk : keyOf k = some k') : ∀ {kvs : List (PV × PV)} {vs : List (Key × V)}, RKs K g H kvs vs → (kvs.any fun p => keyEq p.1 k) = (vs.any fun p => decide (p.1 = k'))
  | _, _, .nil => rfl
  | _, _, .cons ka rv rest => by simp only [List.any_cons, keyOf_eq ka hk, RKs.any hk rest]
theorem RKs.repl {k : PV} {k' : Key} {x : PV} {v : V} (hk : keyOf k = some k') (r : Rp K g H x v) : ∀ {kvs : List (PV × PV)} {vs : List (Key × V)}, RKs K g H kvs vs → RKs K g H (kvs.map fun p => if keyEq p.1 k = true then (p.1, x) else p) (vs.map fun p => if p.1 = k' then (p.1, v) else p)
  | _, _, .nil => .nil
  | _, _, .cons (k' := a') ka rv rest => by
    rw [List.map_cons, List.map_cons]
    have e := keyOf_eq ka hk
    by_cases c : a' = k'
    · rw [if_pos (by rw [e]; simp [c]), if_pos c]; exact .cons ka r (RKs.repl hk r rest)
    · rw [if_neg (by rw [e]; simp [c]), if_neg c]; exact .cons ka rv (RKs.repl hk r rest)
theorem RKs.snoc {k : PV} {k' : Key} {x : PV} {v : V} (hk : keyOf k = some k') (r : Rp K g H x v) : ∀ {kvs : List (PV × PV)} {vs : List (Key × V)}, RKs K g H kvs vs → RKs K g H (kvs ++ [(k, x)]) (vs ++ [(k', v)])
  | _, _, .nil => .cons hk r .nil
  | _, _, .cons ka rv rest => .cons ka rv (RKs.snoc hk r rest)
theorem RKs.put {k : PV} {k' : Key} {x : PV} {v : V} (hk : keyOf k = some k') (r : Rp K g H x v) {kvs : List (PV × PV)} {vs : List (Key × V)} (h : RKs K g H kvs vs) : RKs K g H (dPut kvs k x) (putK vs k' v) := by
  unfold dPut putK
  rw [h.any hk]
  split
  · exact h.repl hk r
  · exact h.snoc hk r
theorem RKs.merge {more : List (PV × PV)} {ms : List (Key × V)} (r : RKs K g H more ms) : ∀ {kvs : List (PV × PV)} {vs : List (Key × V)}, RKs K g H kvs vs → RKs K g H (dMerge kvs more) (mergeK vs ms) := by
  induction r with
  | nil => intro kvs vs h; exact h
  | cons ka rv _ ih => intro kvs vs h; exact ih (h.put ka rv)
theorem RKs.length : ∀ {kvs : List (PV × PV)} {vs : List (Key × V)}, RKs K g H kvs vs → kvs.length = vs.length
  | _, _, .nil => rfl
  | _, _, .cons _ _ r => by rw [List.length_cons, List.length_cons, RKs.length r]
inductive RPs (K : PySem.W.Frag) (g : Gh) (H : Hp) : List (PV × PV) → List (V × V) → Prop
  | nil : RPs K g H [] []
  | cons {a b : PV} {c d : V} {xs : List (PV × PV)} {ys : List (V × V)} : Rp K g H a c → Rp K g H b d → RPs K g H xs ys → RPs K g H ((a, b) :: xs) ((c, d) :: ys)
theorem RPs.keys : ∀ {xs : List (PV × PV)} {ys : List (V × V)}, RPs K g H xs ys → xs.all (fun p => keyOk p.1) = true → ∃ kvs : List (Key × V), ys = kvs.map (fun kv => (kV kv.1, kv.2)) ∧ RKs K g H xs kvs
  | _, _, .nil, _ => ⟨[], rfl, .nil⟩
  | _, _, .cons ra rb r, h => by
    simp only [List.all_cons, Bool.and_eq_true] at h
    obtain ⟨k', hk⟩ := keyOf_ok h.1
    obtain ⟨kvs, e, q⟩ := RPs.keys r h.2
    refine ⟨(k', _) :: kvs, ?_, .cons hk rb q⟩
    rw [List.map_cons, e, rp_key ra hk]
theorem RPs.ext (e : Emb K g m H) (x : Ext g H g' H') : ∀ {xs : List (PV × PV)} {ys : List (V × V)}, RPs K g H xs ys → RPs K g' H' xs ys
  | _, _, .nil => .nil
  | _, _, .cons a b r => .cons (a.ext e x) (b.ext e x) (RPs.ext e x r)
/-- an object that stands comes into the memory -/
theorem Emb.adopt (e : Emb K g m H) {p : Addr} {u : HO} {ob : Ob} (hp : H p = some u) (mu : Mut (some u)) (hn : ∀ n, g.φ n ≠ some p) (hr : g.ro p = none) (ho : ROb K (g.addP m.length p) H m.length ob) :
    Emb K (g.addP m.length p) (m ++ [ob]) H ∧ ∀ {v w}, Rp K g H v w → Rp K (g.addP m.length p) H v w := by
  have hφ : ∀ n a, g.φ n = some a → (g.addP m.length p).φ n = some a := fun n a h => by
    have : n ≠ m.length := fun z => by subst z; rw [e.fresh_id] at h; cases h
    show (if n = m.length then some p else g.φ n) = some a
    rw [if_neg this]; exact h
  have key : ∀ (v : PV) (w : V), Rp K g H v w → Rp K (g.addP m.length p) H v w := fun v w r => r.mono hφ (fun _ _ h => h) (fun _ _ h => h)
  have keys : ∀ (v : List PV) (w : List V), Rps K g H v w → Rps K (g.addP m.length p) H v w := fun v w r => r.mono hφ (fun _ _ h => h) (fun _ _ h => h)
  refine ⟨⟨fun n o h => ?_, fun n a h => ?_, fun n k a h1 h2 => ?_, fun a u' h => ?_, e.nt, e.tab⟩, fun {v w} r => key v w r⟩
  · by_cases hlt : n < m.length
    · rw [List.getElem?_append_left hlt] at h
      have q := e.obj n o h
      cases o with
      | lst ys =>
        obtain ⟨a, ws, h1, h2, h3⟩ := q
        exact ⟨a, ws, hφ _ _ h1, h2, keys _ _ h3⟩
      | dict ys =>
        obtain ⟨a, ws, h1, h2, h3⟩ := q
        exact ⟨a, ws, hφ _ _ h1, h2, h3.imp fun r => key _ _ r⟩
      | dead => trivial
      | tab P l => exact q
    · have hle : m.length ≤ n := Nat.le_of_not_lt hlt
      rw [List.getElem?_append_right hle] at h
      have h0 : n - m.length = 0 := by
        cases hk : n - m.length with
        | zero => rfl
        | succ j => rw [hk] at h; simp at h
      rw [h0] at h
      have hnm : n = m.length := by omega
      simp at h
      subst h
      subst hnm
      exact ho
  · have h' : (if n = m.length then some p else g.φ n) = some a := h
    rw [List.length_append, List.length_singleton]
    split at h'
    · cases h'
      exact ⟨by omega, u, hp, mu⟩
    · obtain ⟨h1, u', h2, h3⟩ := e.dom n a h'
      exact ⟨by omega, u', h2, h3⟩
  · have h1' : (if n = m.length then some p else g.φ n) = some a := h1
    have h2' : (if k = m.length then some p else g.φ k) = some a := h2
    split at h1' <;> split at h2'
    · omega
    · cases h1'; exact (hn _ h2').elim
    · cases h2'; exact (hn _ h1').elim
    · exact e.inj n k a h1' h2'
  · obtain ⟨h1, h2⟩ := e.ro a u' h
    refine ⟨h1, fun n hn' => ?_⟩
    have hn'' : (if n = m.length then some p else g.φ n) = some a := hn'
    split at hn''
    · cases hn''
      have h' : g.ro p = some u' := h
      rw [hr] at h'; cases h'
    · have q := h2 n hn''
      have : n < m.length := (e.dom n a hn'').1
      rw [List.getElem?_append_left this]; exact q
theorem Ext.adopt {g0 : Gh} {H0 : Hp} (x : Ext g0 H0 g H) (e : Emb K g m H) {p : Addr} (hp : H0 p = none) : Ext g0 H0 (g.addP m.length p) H :=
  ⟨fun n a h => by
    have h' := x.phi n a h
    have : n ≠ m.length := fun z => by subst z; rw [e.fresh_id] at h'; cases h'
    show (if n = m.length then some p else g.φ n) = some a
    rw [if_neg this]; exact h', x.ro, x.fr, fun a u h hn ht n => by
    show (if n = m.length then some p else g.φ n) ≠ some a
    split
    · intro z; cases z; rw [hp] at h; cases h
    · exact x.old a u h hn ht n, x.oldr, x.T⟩
/-- a dict in the memory is written -/
theorem Emb.wr_dict (e : Emb K g m H) {n : Nat} {a : Addr} {xs ys : List (PV × PV)} {ws : List (Key × V)} (hm : m[n]? = some (.dict xs)) (ha : g.φ n = some a) (r : RKs K g H ys ws) :
    Ext g H g (upd H a (.dK ws)) ∧ Emb K g (m.set n (.dict ys)) (upd H a (.dK ws)) := by
  have x : Ext g H g (upd H a (.dK ws)) := ⟨fun _ _ h => h, fun _ _ h => h, fun b u h hb _ => by
    rw [upd_ne (fun z => hb n (by rw [z]; exact ha))]; exact h, fun _ _ _ h _ => h, fun _ _ _ _ _ h => h, rfl⟩
  have hlt : n < m.length := (List.getElem?_eq_some_iff.mp hm).1
  obtain ⟨a0, vs0, p1, p2, _⟩ := e.obj n _ hm
  rw [ha] at p1; cases p1
  refine ⟨x, fun k o h => ?_, fun k b h => ?_, e.inj, fun b u h => ?_, e.nt, tabs_wr e.tab p2 (fun ps z => nomatch z) (fun ps z => nomatch z)⟩
  · by_cases hk : n = k
    · subst hk
      rw [List.getElem?_set_self hlt] at h
      cases h
      exact ⟨a, ws, ha, upd_same, r.ext e x⟩
    · rw [List.getElem?_set_ne hk] at h
      have q := e.obj k o h
      cases o with
      | lst zs =>
        obtain ⟨b, us, h1, h2, h3⟩ := q
        refine ⟨b, us, h1, ?_, h3.ext e x⟩
        rw [upd_ne (fun z => hk (e.inj n k a ha (by rw [← z]; exact h1)))]
        exact h2
      | dict zs =>
        obtain ⟨b, us, h1, h2, h3⟩ := q
        refine ⟨b, us, h1, ?_, h3.ext e x⟩
        rw [upd_ne (fun z => hk (e.inj n k a ha (by rw [← z]; exact h1)))]
        exact h2
      | dead => trivial
      | tab P l => exact q
  · obtain ⟨h1, u, h2, h3⟩ := e.dom k b h
    rw [List.length_set]
    by_cases hb : b = a
    · subst hb; exact ⟨h1, _, upd_same, trivial⟩
    · exact ⟨h1, u, by rw [upd_ne hb]; exact h2, h3⟩
  · obtain ⟨h1, h2⟩ := e.ro b u h
    have hb : b ≠ a := fun z => by
      subst z
      have := h2 n ha
      rw [hm] at this; cases this
    refine ⟨by rw [upd_ne hb]; exact h1, fun k hk => ?_⟩
    have q := h2 k hk
    have hkn : n ≠ k := fun z => by subst z; rw [hm] at q; cases q
    rw [List.getElem?_set_ne hkn]; exact q
end
section
variable {X : Cx} {Ξ : XC} {o i e value : Expr} {pos pos' : Pos} {fa fb fc : SE}
/-- d[k] -/
theorem se_dget (hu : X.A.units + 1 < cLine) (ho : PE X o (rdE X.K Ξ fa)) (hi : PE X i (rdE X.K Ξ fb)) (hs : NoSl i := by exact fun _ _ => rfl) : PE X (.Subscript o i pos) (rdE X.K Ξ (e2 oDGet fa fb)) :=
  PE_imp (pe_dget hu ho hi hs) fun σ H Q h => by
    obtain ⟨g, s, m, em, sr, q⟩ := h
    refine ⟨g, s, m, em, sr, QR.bind q fun p hp q1 g1 H1 V x1 e1 r1 => ?_⟩
    refine ⟨g1, s, p.2, e1, sr.ext em x1, QR.bind (QE.later x1 q1) fun p2 hp2 q2 g2 H2 W x2 e2 r2 => ?_⟩
    have q3 : QE X.K Ξ g2 H2 Q (oDGet p.1 p2.1 p2.2) := QE.later x2 q2
    have r1' := r1.ext e1 x2
    unfold oDGet at q3
    split at q3
    · rename_i n hn
      rw [hn] at r1'
      obtain ⟨a, rfl, ha⟩ := r1'.ref_inv
      split at q3
      · rename_i kvs hm
        split at q3
        · rename_i hk
          split at q3
          · rename_i v hv
            obtain ⟨a2, vs, h1, h2, h3⟩ := e2.obj _ _ hm
            rw [ha] at h1; cases h1
            obtain ⟨k', hk'⟩ := keyOf_ok hk
            obtain ⟨w, hw, rw'⟩ := h3.find hk' v hv
            refine ⟨a, w, rfl, ?_, QE.ret e2 rw' q3⟩
            rw [rp_key r2 hk', ← hw]
            exact DGet.k h2
          · exact q3.elim
        · exact q3.elim
      · exact q3.elim
    · exact q3.elim
/-- d[k] = v -/
theorem ss_dset (hu : X.A.units + 1 < cLine) (hv : PE X value (rdE X.K Ξ fc)) (ho : PE X o (rdE X.K Ξ fa)) (hi : PE X i (rdE X.K Ξ fb)) (hs : swapsWith value (some (.Subscript o i pos')) pos.line X.env = pure false := by rfl) : PS X (.Assign [.Subscript o i pos'] value pos) (rdS X.K Ξ (sDSet fc fa fb)) :=
  PS_imp (ps_dput hu ho hi hv hs) fun D σ H h => by
    obtain ⟨g, s, m, em, sr, q⟩ := h
    refine ⟨g, s, m, em, sr, QR.bind q fun p hp q1 g1 H1 V x1 e1 r1 => ?_⟩
    refine ⟨g1, s, p.2, e1, sr.ext em x1, QR.bind (QS.later x1 q1) fun p2 hp2 q2 g2 H2 W x2 e2 r2 => ?_⟩
    refine ⟨g2, s, p2.2, e2, (sr.ext em x1).ext e1 x2, QR.bind (QS.later x2 q2) fun p3 hp3 q3 g3 H3 U x3 e3 r3 => ?_⟩
    have q4 : QS X.K Ξ g3 H3 D ((oDSet p2.1 p3.1 p.1 p3.2).bind fun m4 => .ok (.nx, s, m4)) := QS.later x3 q3
    have r1' := (r1.ext e1 x2).ext e2 x3
    have r2' := r2.ext e2 x3
    have sr' := ((sr.ext em x1).ext e1 x2).ext e2 x3
    unfold oDSet at q4
    split at q4
    · rename_i n hn
      rw [hn] at r2'
      obtain ⟨a, rfl, ha⟩ := r2'.ref_inv
      split at q4
      · rename_i kvs hm
        split at q4
        · rename_i hk
          simp only [Bool.and_eq_true, decide_eq_true_eq] at hk
          obtain ⟨a2, vs, h1, h2, h3⟩ := e3.obj _ _ hm
          rw [ha] at h1; cases h1
          obtain ⟨k', hk'⟩ := keyOf_ok hk.1
          obtain ⟨x4, e4⟩ := e3.wr_dict hm ha (h3.put hk' r1')
          refine ⟨a, _, rfl, ?_, q4 _ _ σ x4 e4 (sr'.ext e3 x4)⟩
          rw [rp_key r3 hk']
          exact DPut.k h2 (by rw [← h3.length]; exact line_lt hk.2)
        · exact q4.elim
      · exact q4.elim
    · exact q4.elim
/-! ### displays -/
abbrev trsOf (K : PySem.W.Frag) (Ξ : XC) (L : List (SE × SE)) : List (TE × TE) := L.map fun p => (rdE K Ξ p.1, rdE K Ξ p.2)
theorem tp_of {K : PySem.W.Frag} : ∀ (L : List (SE × SE)) {σ : L2.St} {H : Hp} {Q : List (V × V) → Hp → Prop} {g : Gh} {s : Sl} {m : Mm}, Emb K g m H → Sr K g H s σ →
    QR K Ξ g H (fun p => ∀ g' H' Vs, Ext g H g' H' → Emb K g' p.2 H' → RPs K g' H' p.1 Vs → Q Vs H') (pairsOf L s m) → tPairs (trsOf K Ξ L) σ H Q
  | [], σ, H, Q, g, s, m, em, sr, q => q g H [] (Ext.refl _ _) em .nil
  | (fa, fb) :: L, σ, H, Q, g, s, m, em, sr, q => by
    refine ⟨g, s, m, em, sr, QR.bind q fun p hp q1 g1 H1 V x1 e1 r1 => ?_⟩
    have q1' := QR.later (P' := fun p2 => ∀ g' H' Vs, Ext g1 H1 g' H' → Emb K g' p2.2 H' → RPs K g' H' p2.1 Vs → Q Vs H') x1 q1 fun _ h g' H' Vs x => h g' H' Vs (x1.trans x)
    refine ⟨g1, s, p.2, e1, sr.ext em x1, QR.bind q1' fun p2 hp2 q2 g2 H2 W x2 e2 r2 => ?_⟩
    have q2' := QR.later (P' := fun p3 => ∀ g' H' Vs, Ext g2 H2 g' H' → Emb K g' p3.2 H' → RPs K g' H' p3.1 Vs → Q Vs H') x2 q2 fun _ h g' H' Vs x => h g' H' Vs (x2.trans x)
    refine tp_of L e2 ((sr.ext em x1).ext e1 x2) (QR.bind q2' fun p3 hp3 q3 g3 H3 Vs x3 e3 r3 => ?_)
    exact q3 g3 H3 _ x3 e3 (.cons ((r1.ext e1 x2).ext e2 x3) (r2.ext e2 x3) r3)
theorem se_dict {keys : List (Option Expr)} {values : List Expr} (L : List (SE × SE)) (h : PPs X pos keys values (trsOf X.K Ξ L)) (hall : keys.all (·.isSome) = true := by rfl) (hl : keys.length = values.length := by rfl) (h0 : keys ≠ [] := by intro z; cases z) (h15 : keys.length ≤ 15 := by decide) :
    PE X (.Dict keys values pos) (rdE X.K Ξ (eDict L)) :=
  PE_imp (pe_disp h hall hl h0 h15) fun σ H Q ⟨g, s, m, em, sr, q⟩ p hp => by
    have hf := em.free hp
    have hr := em.freeR hp
    obtain ⟨e0, tr⟩ := em.other (D := p) (o := .dK []) hf hr (fun xs z => by
      rcases z with z | ⟨o, z⟩ <;> rw [hp] at z <;> cases z) (tabs_new em.tab hp)
    have x0 : Ext g H g (upd H p (.dK [])) := Ext.newTup hp fun ⟨n, z⟩ => hf n z
    refine tp_of L e0 (sr_of_rp (fun r => tr r) sr) (QR.bindAt x0 q fun pr hpr q1 g1 H1 Vs x1 e1 r1 => ?_)
    have hp1 : H1 p = some (.dK []) := x1.fr p _ upd_same hf (fun _ z => nomatch z)
    have hf1 : ∀ n, g1.φ n ≠ some p := x1.old p _ upd_same hf (fun _ z => nomatch z)
    have hr1 : g1.ro p = none := x1.oldr p _ upd_same hf (fun _ z => nomatch z) hr
    refine ⟨hp1, ?_⟩
    have q2 : QE X.K Ξ g H Q (if pr.1.all (fun p => keyOk p.1) && decide (pr.1.length ≤ 15) then .ok (.ref pr.2.length, pr.2 ++ [.dict (dMerge [] pr.1)]) else .no) := q1
    by_cases hc : (pr.1.all (fun p => keyOk p.1) && decide (pr.1.length ≤ 15)) = true
    · rw [if_pos hc] at q2
      simp only [Bool.and_eq_true, decide_eq_true_eq] at hc
      obtain ⟨kvs, rfl, rk⟩ := r1.keys hc.1
      refine ⟨kvs, rfl, by rw [← rk.length]; exact hc.2, ?_⟩
      obtain ⟨e2, tr2⟩ := e1.other (D := p) (o := .dK (mergeK [] kvs)) hf1 hr1 (fun xs z => by
        rcases z with z | ⟨o, z⟩ <;> rw [hp1] at z <;> cases z) (tabs_wr e1.tab hp1 (fun _ z => nomatch z) (fun _ z => nomatch z))
      have x2 : Ext g H g1 (upd H1 p (.dK (mergeK [] kvs))) := Ext.other (x0.trans x1) hp
      have rk2 : RKs X.K g1 (upd H1 p (.dK (mergeK [] kvs))) (dMerge [] pr.1) (mergeK [] kvs) := (RKs.merge rk .nil).imp fun r => tr2 r
      have hφ : ∀ n a, g1.φ n = some a → (g1.addP pr.2.length p).φ n = some a := fun n a h => by
        have : n ≠ pr.2.length := fun z => by subst z; rw [e1.fresh_id] at h; cases h
        show (if n = pr.2.length then some p else g1.φ n) = some a
        rw [if_neg this]; exact h
      obtain ⟨e3, tr3⟩ := e2.adopt (p := p) (u := .dK (mergeK [] kvs)) (ob := .dict (dMerge [] pr.1)) upd_same trivial hf1 hr1 ⟨p, _, by show (if pr.2.length = pr.2.length then some p else _) = some p; rw [if_pos rfl], upd_same, rk2.imp fun r => r.mono hφ (fun _ _ h => h) (fun _ _ h => h)⟩
      exact q2 _ _ _ (x2.adopt e2 hp) e3 (.ref (by show (if pr.2.length = pr.2.length then some p else _) = some p; rw [if_pos rfl]))
    · rw [if_neg hc] at q2; exact q2.elim
end
end TT
end

section
set_option Elab.async false
set_option linter.all false
set_option autoImplicit false
set_option maxRecDepth 100000
/-! TT: exceptions: raise, defs that raise, lambdas handed to a def that tells what was raised -/
namespace TT
open PySem PySem.Spec PyProof.Rows L2
def exNames : List Str := ["TurnError", "InvalidRule", "InvalidHistory", "InvalidNumber", "InvalidAsks", "InvalidLog", "InvalidPart", "InvalidIndex", "InvalidToken", "NothingToUndo", "TooMany", "InvalidText"]
abbrev exN (c : Nat) : Str := exNames.getD c ""
/-- the fields of an exception in its dict -/
inductive FsOk (K : PySem.W.Frag) (g : Gh) (H : Hp) : List PV → Option Addr → Prop
  | nil : FsOk K g H [] none
  | one {x : PV} {v : V} {f : Str} {d : Addr} : H d = some (.xd [(f, v)]) → Rp K g H x v → FsOk K g H [x] (some d)
/-- what is wished of an exception -/
def XofE (K : PySem.W.Frag) (mg : Str → Option Value) (E : XK) : XC := fun e _ g H => match e with
  | .mk c fs => ∀ C d, mg (exN c) = some (.ref C) → FsOk K g H fs d → E (.ref C) d H
/-- an own class of exceptions -/
structure ExCls (K : PySem.W.Frag) (mg : Str → Option Value) (x : Str) (C : Addr) : Prop where
  g : mg x = some (.ref C)
  x : PySem.W.excIn K C [.type "ValueError", .type "Exception", .type "BaseException", .type "object"] "ValueError.__new__" = true
  k : PySem.W.keepIn K (.ref C) = true
  b : PySem.W.subIn K (.ref C) (.type "BaseException") = some true
  t : PySem.W.typeIn K (.ref C) = some (.type "type")
def HasE (K : PySem.W.Frag) (mg : Str → Option Value) (x : Str) : Prop := ∃ C, ExCls K mg x C
section
variable {X : Cx} {j : Nat} {p p2 pos pos' : Pos} {x msg : Str}
theorem ss_raise {E : XK} (c : Nat) (h : HasE X.K X.mg x) (hx : exN c = x) (hc : X.calm = true) (tk : Takes X (fun cls d _ H => E cls d H)) (hg : Gl X x := by rfl) (hdb : (x == ("__debug__" : Str)) = false := by decide) :
    PS X (.Raise (some (.Call (.Name x p) [.Constant (.str msg) j p2] [] pos')) none pos) (rdS X.K (XofE X.K X.mg E) (sRaise c)) := by
  obtain ⟨C, h⟩ := h
  refine PS_imp (ps_raise hc tk (pmk_own PySem.F.excBase_ValueError h.x h.g h.k (raises_own h.b h.t) hg hdb)) fun D σ H ⟨g, s, m, em, sr, q⟩ => ?_
  exact q g H (Ext.refl _ _) em C none (by rw [hx]; exact h.g) .nil
end

/-! ### defs that raise, by values -/
section
variable {K : PySem.W.Frag} {mg : Str → Option Value} {g g1 : Gh} {H H1 : Hp}
theorem FsOk.own {φ' : Nat → Option Addr} {T : List (Addr × Str)} {fs : List PV} {d : Option Addr} (hp : pus fs = true) (h : FsOk K g1 H1 fs d) : FsOk K ⟨φ', roAll g1 H1, T⟩ H1 fs d := by
  cases h with
  | nil => exact .nil
  | one a r =>
    simp only [pus, Bool.and_eq_true] at hp
    exact .one a (Rp.mono (g := ⟨φ', g1.ro, g1.T⟩) (g' := ⟨φ', roAll g1 H1, T⟩) (fun _ _ h => h) (fun _ _ h => roAll_old h) (fun _ _ h => h) (Rp.pure (φ' := φ') hp.1 r))
def spXI (K : PySem.W.Frag) (mg : Str → Option Value) (n : Nat) (F : IF) : Sp := fun vs H Q E => ∃ g m as, as.length = n ∧ Emb K g m H ∧ Rps K g H as vs ∧ QE K (XofE K mg E) g H Q (F as m)
def spX (K : PySem.W.Frag) (mg : Str → Option Value) (n : Nat) (F : PF) : Sp := fun vs H Q E => ∃ g m as, as.length = n ∧ Emb K g m H ∧ Rps K g H as vs ∧ QE K (XofE K mg E) g H Q (cX F as m)
theorem spXI_len {n : Nat} {F : IF} {vs : List V} {H : Hp} {Q : VK} {E : XK} (h : spXI K mg n F vs H Q E) : vs.length = n := by
  obtain ⟨g, m, as, hl, _, r, _⟩ := h
  rw [← r.length, hl]
theorem spX_of {n N : Nat} {b : SS} {vs : List V} {H : Hp} {Q : VK} {E : XK} (h : spX K mg n (bodyP N n b) vs H Q E) : spXI K mg n (bodyI N n b) vs H Q E := by
  obtain ⟨g, m, as, hl, em, r, q⟩ := h
  unfold cX at q
  by_cases hp : pus as = true
  · rw [if_pos hp] at q
    refine ⟨⟨fun _ => none, g.ro, g.T⟩, [], as, hl, emb_own em, Rps.pure hp r, ?_⟩
    unfold bodyP at q
    cases hr : bodyI N n b as [] with
    | ok p =>
      obtain ⟨v, m1⟩ := p
      rw [hr] at q
      simp only at q
      intro g1 H1 V x1 e1 r1
      cases hf : frz 4 m1 v with
      | none => rw [hf] at q; exact q.elim
      | some v' =>
        rw [hf] at q
        obtain ⟨xx, ee⟩ := after_own em rfl x1 e1
        have r2 := frz_rp (φ' := g.φ) e1 4 v V v' r1 hf
        rw [x1.T] at r2
        exact q ⟨g.φ, roAll g1 H1, g.T⟩ H1 V xx ee r2
    | ex e m1 =>
      rw [hr] at q
      obtain ⟨c, fs⟩ := e
      simp only at q
      by_cases hf : pus fs = true
      · rw [if_pos hf] at q
        intro g1 H1 x1 e1 C d hm hF
        obtain ⟨xx, ee⟩ := after_own em rfl x1 e1
        exact q _ _ xx ee C d hm (hF.own hf)
      · rw [if_neg hf] at q; exact q.elim
    | no => rw [hr] at q; exact q.elim
  · rw [if_neg hp] at q; exact q.elim
theorem body_rdX {Ξ : XC} {m : Mm} {N : List Str} {as : List PV} {vs : List V} {Q : VK} {b : SS} (em : Emb K g m H) (r : Rps K g H as vs) (hN : as.length ≤ N.length) (q : QE K Ξ g H Q (bodyI N.length as.length b as m)) :
    rdS K Ξ b { nx := fun _ H' => Q .non H', rt := Q } (L2.start N vs) H := by
  refine ⟨g, startS N.length as, m, em, start_sr r hN, ?_⟩
  unfold bodyI at q
  rw [if_pos rfl] at q
  cases hr : b (startS N.length as) m with
  | ok p =>
    obtain ⟨fl, s, m1⟩ := p
    rw [hr] at q
    cases fl with
    | nx => exact fun g1 H1 σ1 x1 e1 r1 => q g1 H1 .non x1 e1 .non
    | rt v => exact fun g1 H1 σ1 x1 e1 r1 V rv => q g1 H1 V x1 e1 rv
    | bk => exact q.elim
    | ct => exact q.elim
  | ex e m1 => rw [hr] at q; exact q
  | no => rw [hr] at q; exact q.elim
variable {P : Program} {w : World} {base : Heap}
theorem defX {x qual : Str} {st : Stmt} {f : Addr} {fd : FuncData} {N ps : List Str} {k : Nat} {b : SS} (F : Fun K x qual st f fd) (S : FnScope N ps (defScope st)) (hN : ps.length ≤ N.length)
    (hbody : ∀ (cdv : Value) (A : Around) (outer : List Env) (s : Shared) (H : Hp) (E : XK), Room k (A.deeper (envOfC qual (defScope st) s.heap.objs.size f cdv)) →
      PSs (cxOf (L2.CX P w) P w K mg base N qual (defScope st) f cdv A outer s H E) (defBody st) (rdS K (XofE K mg E) b)) : FnOk P w K mg base (L2.CX P w) (k + 1) f fd ps (spXI K mg ps.length (bodyI N.length ps.length b)) :=
  F.okX S (fun _ _ _ _ h => spXI_len h) fun cdv A outer s H vs Q E hr ⟨g, m, as, hl, em, r, q⟩ => ⟨_, hbody cdv A outer s H E hr, body_rdX em r (by rw [hl]; exact hN) (by rw [hl]; exact q)⟩
/-- a def that raises stands there -/
def HasX (P : Program) (w : World) (K : PySem.W.Frag) (mg : Str → Option Value) (base : Heap) (x : Str) (k : Nat) (sp : Sp) : Prop :=
  ∃ f fd ps, FnOk P w K mg base (L2.CX P w) k f fd ps sp ∧ mg x = some (.ref f) ∧ PySem.W.keepIn K (.ref f) = true ∧ Binds K fd ps []
theorem HasX.toX {x : Str} {k n N : Nat} {b : SS} (h : HasX P w K mg base x k (spXI K mg n (bodyI N n b))) : HasX P w K mg base x k (spX K mg n (bodyP N n b)) := let ⟨f, fd, ps, a, b, c, d⟩ := h; ⟨f, fd, ps, a.imp fun _ _ _ _ => spX_of, b, c, d⟩
theorem has_defX {x : Str} {st : Stmt} {f : Addr} {fd : FuncData} {N ps : List Str} {k : Nat} {b : SS} (F : Fun K x x st f fd) (hm : mg x = some (.ref f)) (S : FnScope N ps (defScope st)) (hN : ps.length ≤ N.length)
    (h : ∀ (kV doc pm : Value) (an : Option Addr) (cdv ct : Value) (us : List Value), us.length = ps.length → bindArgs (PySem.W.fnOf x x (defArgs st) (defBody st) (defScope st) .none kV doc pm an cdv ct) ⟨us, []⟩ = pure (ps.zip us))
    (hbody : ∀ (cdv : Value) (A : Around) (outer : List Env) (s : Shared) (H : Hp) (E : XK), Room k (A.deeper (envOfC x (defScope st) s.heap.objs.size f cdv)) →
      PSs (cxOf (L2.CX P w) P w K mg base N x (defScope st) f cdv A outer s H E) (defBody st) (rdS K (XofE K mg E) b)) : HasX P w K mg base x (k + 1) (spXI K mg ps.length (bodyI N.length ps.length b)) :=
  ⟨f, fd, ps, defX F S hN hbody, hm, F.kp, F.binds h⟩
end
section
variable {X : Cx} {k : Nat} {x : Str} {p pos : Pos} {e : Expr} {es : List Expr} {fs : SA}
theorem sh_callX {n : Nat} {F : PF} {E : XK} (h : HasX X.prog X.w X.K X.mg X.base x k (spX X.K X.mg n F)) (hr : Room k X.A) (tk : Takes X (fun cls d _ H => E cls d H)) (ha : PA X (e :: es) (rdA X.K (XofE X.K X.mg E) fs)) (hl : ∀ s m xs m', fs s m = .ok (xs, m') → xs.length = (e :: es).length)
    (hn : (e :: es).length = n := by rfl) (hg : Gl X x := by rfl) (hdb : (x == ("__debug__" : Str)) = false := by decide) (he : starEach (e :: es) X.env = (false, eval e X.env) :: starEach es X.env := by rfl) (hpl : (backTo pos (starEach es X.env)).any (·.1) = false := by rfl) :
    PE X (.Call (.Name x p) (e :: es) [] pos) (rdE X.K (XofE X.K X.mg E) (eN (cX F) fs)) := by
  obtain ⟨f, fd, ps, G, hm, hk, hb⟩ := h
  refine PE_imp (pe_callS (E := fun _ => E) G hr hg hm hk hb (fun σ => passAt tk σ) ha hdb he hpl) fun σ H Q ⟨g, s, m, em, sr, q⟩ => ?_
  refine ⟨g, s, m, em, sr, QR.bind q fun p hp q1 g1 H1 V x1 e1 r1 => ?_⟩
  exact ⟨g1, p.2, p.1, by rw [hl s m p.1 p.2 hp, hn], e1, r1, QE.later x1 q1⟩
end

/-! ### what is told of an exception -/
section
variable {X : Cx} {p1 p2 p3 p4 pos : Pos} {K : PySem.W.Frag}
def HasSub (K : PySem.W.Frag) (mg : Str → Option Value) (x y : Str) (b : Bool) : Prop := ∀ D C, mg x = some (.ref D) → mg y = some (.ref C) → PySem.W.kitOne K (.ref D) (.ref C) = some b
/-- the slot of the exception, where the slots are as many as they should be -/
def rAt (a : Addr) (i L : Nat) (σ : L2.St) : Prop := σ.length = L → σ[i]? = some (some (.ref a))
def rTold (a : Addr) (i L : Nat) (v : Str) : TE := fun σ H Q => rAt a i L σ ∧ Q (.str v) H
def rToldT (a : Addr) (i L : Nat) (b : Bool) : TT := fun σ H Q => rAt a i L σ ∧ Q b H
def rToldS (a : Addr) (i L : Nat) (v : Str) : TS := fun D σ H => rAt a i L σ ∧ D.rt (.str v) H
theorem told_str {a : Addr} {i L j : Nat} {v : Str} : PE X (.Constant (.str v) j pos) (rTold a i L v) := PE_imp pe_str fun σ H Q h => h.2
theorem told_is {a D C : Addr} {i : Nat} {oe : Obj} {pn : List (Addr × Obj)} {en cn : Str} {b : Bool} (hs : PySem.W.kitOne X.K (.ref D) (.ref C) = some b) (hC : X.mg cn = some (.ref C)) (ec : ExcC X.K D) (hz : Zc (.ref D) none oe) (hf : ∃ vs, oe.data = .fields vs)
    (hi : X.N[i]? = some en) (hbi : X.mg "isinstance" = none) (hgi : Gl (X.suite a ((a, oe) :: pn)) "isinstance") (hgc : Gl (X.suite a ((a, oe) :: pn)) cn) (hv : Vis X.env.scope en) (hd : (en == ("__debug__" : Str)) = false) (hcd : (en == ("__classdict__" : Str)) = false) (hdc : (cn == ("__debug__" : Str)) = false)
    (he1 : starEach [(.Name en p2 : Expr), .Name cn p3] X.env = (false, eval (.Name en p2) X.env) :: starEach [.Name cn p3] X.env) (he2 : starEach [(.Name cn p3 : Expr)] X.env = (false, eval (.Name cn p3) X.env) :: starEach [] X.env) (hpl : (backTo pos (starEach [(.Name cn p3 : Expr)] X.env)).any (·.1) = false) :
    PT (X.suite a ((a, oe) :: pn)) (.Call (.Name "isinstance" p1) [.Name en p2, .Name cn p3] [] pos) (rToldT a i X.N.length b) := by
  have hE := pe_callB (X := X.suite a ((a, oe) :: pn)) (p := p1) (pos := pos) (call_isE (pn := pn) ec hz hf) hgi hbi (by decide +kernel) (pa_cons (pe_var (X := X.suite a ((a, oe) :: pn)) (pos := p2) hi hv hd hcd) (pa_cons (pe_glob (X := X.suite a ((a, oe) :: pn)) (v := .ref C) (pos := p3) hgc hC rfl hdc) pa_nil he2) he1) (by decide) (by decide) he1 hpl
  refine ⟨fun pins s σ H Q I ⟨h1, h2⟩ => ?_⟩
  refine (pt_val hE (fun _ => rfl)).run pins s σ H Q I ?_
  exact ⟨.ref a, h1 I.len, ⟨.ref C, .ref C, b, rfl, fun u r => r, hs, b, rfl, h2⟩⟩
end
end TT
end

section
set_option Elab.async false
set_option linter.all false
set_option autoImplicit false
set_option maxRecDepth 100000
/-! TT: lambdas handed to a def that tells what was raised -/
namespace TT
open PySem PySem.Spec PyProof.Rows L2
section
variable {X : Cx} {a : Addr} {i L : Nat} {b : Bool} {v1 v2 : Str} {pos : Pos} {test A B : Expr} {sA rest : List Stmt}
theorem told_ite (ht : PT X test (rToldT a i L b)) (hA : PE X A (rTold a i L v1)) (hB : PE X B (rTold a i L v2)) : PE X (.IfExp test A B pos) (rTold a i L (if b = true then v1 else v2)) :=
  PE_imp (pe_ifExp ht hA hB) fun σ H Q ⟨h1, h2⟩ => ⟨h1, by
    cases b with
    | true => exact iteT ⟨h1, h2⟩
    | false => exact iteF ⟨h1, h2⟩⟩
theorem told_ret (hA : PE X A (rTold a i L v1)) : PSs X [.Return (some A) pos] (rToldS a i L v1) := PSs_imp (pss_one (ps_ret hA)) fun D σ H h => h
theorem told_sif (ht : PT X test (rToldT a i L b)) (hA : PSs X sA (rToldS a i L v1)) (hB : PSs X rest (rToldS a i L v2)) : PSs X (.If test sA [] pos :: rest) (rToldS a i L (if b = true then v1 else v2)) :=
  PSs_imp (pss_cons (ps_if ht hA pss_nil) hB) fun D σ H ⟨h1, h2⟩ => ⟨h1, by
    cases b with
    | true => exact iteT ⟨h1, h2⟩
    | false => exact iteF ⟨h1, h2⟩⟩
end
/-- what the def makes of the lambda -/
def TTold (mg : Str → Option Value) (t : Told) (els : List Nat) (cs : List Nat) : (XK → Hp → VK → Prop) → Hp → VK → Prop := fun tl H Q =>
  tl (fun cls d H' => ∃ c D, c ∈ cs ∧ cls = .ref D ∧ d = none ∧ mg (exN c) = some (.ref D) ∧ Q (.str ⟨(t.ev c).toArray⟩) H') H (fun _ H' => Q (.str ⟨els.toArray⟩) H')
theorem told_gives {X : Cx} {Ng : List Str} {x a xT en : Str} {sg : Scope} {g CT : Addr} {cdg : Value} {q : Str} {i j : Nat} {b₀ : Stmt} {suite : List Stmt} {t : Told} {els cs : List Nat} {elsS : Str} {p1 p2 p3 p4 p5 p6 p7 p8 : Pos}
    (hN : Ng.Nodup) (hi : Ng[i]? = some en) (hln : sg.names.lookup en = some .local) (hgT : sg.names.lookup xT = some .globalImplicit) (hmT : X.mg xT = some (.ref CT)) (hdT : (xT == ("__debug__" : Str)) = false) (h0 : ∀ f : Addr, (L2.start Ng [V.ref f])[0]? = some (some (V.ref f)))
    (hels : elsS = ⟨els.toArray⟩) (hexm : ∀ c ∈ cs, ∀ D, X.mg (exN c) = some (.ref D) → PySem.W.exmOne X.K (.ref D) (.ref CT) = some true)
    (hsu : ∀ (Y : Cx), Y.K = X.K → Y.mg = X.mg → Y.N = Ng → Y.env.scope = sg → ∀ c ∈ cs, ∀ D, X.mg (exN c) = some (.ref D) → ∀ (a : Addr) (oe : Obj) (pn : List (Addr × Obj)), Zc (.ref D) none oe → (∃ vs, oe.data = .fields vs) → PSs (Y.suite a ((a, oe) :: pn)) (b₀ :: suite) (rToldS a i Ng.length ⟨(t.ev c).toArray⟩)) :
    LamX.GivesTo X Ng x sg g cdg [.Try [.Expr (.Call (.Name a p1) [] [] p2) p3] [.ExceptHandler (some (.Name xT p4)) (some en) (b₀ :: suite) p5] [] [] p6, .Return (some (.Constant (.str elsS) j p7)) p8] a q (TTold X.mg t els cs) := by
  intro f c' s H Q tl act hc h
  have hil : i < Ng.length := (List.getElem?_eq_some_iff.mp hi).1
  have hgl : Gl (cxOf C8.CX0 X.prog X.w X.K X.mg X.base Ng x sg g cdg X.A X.stack s H C8.E0).nox xT := hgT
  refine ⟨_, pss_cons (ps_try_as (X := (cxOf C8.CX0 X.prog X.w X.K X.mg X.base Ng x sg g cdg X.A X.stack s H C8.E0).nox) (c := .ref CT) (i := i)
      (tb := fun W D σ H => ∃ Ech : XK, (∀ cls d σ' H', Ech cls d H' → W cls d σ' H') ∧ σ[0]? = some (some (.ref f)) ∧ H c' = some (LamX.CodeO c' q) ∧ tl Ech H fun _ H' => D.nx σ H')
      (ts := fun a cls d D σ H => ∃ c Dc, c ∈ cs ∧ cls = .ref Dc ∧ d = none ∧ X.mg (exN c) = some (.ref Dc) ∧ rToldS a i Ng.length ⟨(t.ev c).toArray⟩ D σ H)
      rfl rfl hN hi hln ⟨hgl, hdT, .inl hmT⟩ LamX.takes0 (fun W pn xe tk _ => ?_) (fun a oe cls d pn hz hf => ?_)) (pss_one (ps_ret pe_str)), ?_⟩
  · refine ⟨fun pins s' σ H' D I h' => ?_⟩
    obtain ⟨Ech, hW, h1, h2, h3⟩ := h'
    have hp := act W pn xe Ech p1 p2 tk hW
    have hq := pss_one (ps_expr (pos := p3) hp)
    exact hq.run pins s' σ H' D I ⟨h1, h2, h3⟩
  · refine ⟨fun pins s' σ H' D I h' => ?_⟩
    obtain ⟨c, Dc, hc', rfl, rfl, hm, h1⟩ := h'
    exact (hsu (cxOf C8.CX0 X.prog X.w X.K X.mg X.base Ng x sg g cdg X.A X.stack s H C8.E0).nox rfl rfl rfl rfl c hc' Dc hm a oe pn hz hf).run pins s' σ H' D I h1
  · refine ⟨fun cls d H' => ∃ c D, c ∈ cs ∧ cls = .ref D ∧ d = none ∧ X.mg (exN c) = some (.ref D) ∧ Q (.str ⟨(t.ev c).toArray⟩) H', fun cls d σ' H' ⟨c, D, k1, k2, k3, k4, k5⟩ => ?_, h0 f, hc, ?_⟩
    · subst k2
      refine ⟨true, hexm c k1 D k4, fun _ a _ => ⟨c, D, k1, rfl, k3, k4, fun hl => ?_, k5⟩, fun z => nomatch z⟩
      rw [List.length_set] at hl
      exact List.getElem?_set_self (by rw [hl]; exact hil)
    · subst hels
      exact h
/-- a def that tells what was raised stands there -/
structure ToldAt (K : PySem.W.Frag) (mg : Str → Option Value) (x : Str) (t : Told) (els cs : List Nat) : Prop where
  ex : ∃ (g : Addr) (Ng : List Str) (a : Str) (sg : Scope) (pg : Arguments) (bg : List Stmt) (dV kV doc pm cdv ct oc : Value) (an od : Option Addr) (osl : Array (Option Value)),
    mg x = some (.ref g) ∧ PySem.W.keepIn K (.ref g) = true ∧ K.lookup g = some ⟨oc, od, .func (PySem.W.fnOf x x pg bg sg dV kV doc pm an cdv ct), osl⟩ ∧ PySem.W.codeIn K cdv x = true ∧
    L2.Binds K (PySem.W.fnOf x x pg bg sg dV kV doc pm an cdv ct) [a] [] ∧ FnScope Ng [a] sg ∧ Ng[0]? = some a ∧ Vis sg a ∧ (a == ("__debug__" : Str)) = false ∧ (a == ("__classdict__" : Str)) = false ∧
    ∀ (X : Cx) (q : Str), X.K = K → X.mg = mg → LamX.GivesTo X Ng x sg g cdv bg a q (TTold mg t els cs)
theorem Emb.extN {K : PySem.W.Frag} {g : Gh} {m : Mm} {H H1 : Hp} (e : Emb K g m H) (x : LamX.ExtN H H1) (t : LamX.Tabs g.T H1) : Ext g H g H1 ∧ Emb K g m H1 := by
  have xx : Ext g H g H1 := ⟨fun _ _ h => h, fun _ _ h => h, fun a u h _ n => x a u h n, fun _ _ _ h _ => h, fun _ _ _ _ _ h => h, rfl⟩
  refine ⟨xx, ⟨fun n o h => ?_, fun n a h => ?_, e.inj, fun a u h => ?_, e.nt, t⟩⟩
  · have q := e.obj n o h
    cases o with
    | lst ys =>
      obtain ⟨a, ws, h1, h2, h3⟩ := q
      exact ⟨a, ws, h1, x _ _ h2 (fun _ z => nomatch z), h3.ext e xx⟩
    | dict ys =>
      obtain ⟨a, ws, h1, h2, h3⟩ := q
      exact ⟨a, ws, h1, x _ _ h2 (fun _ z => nomatch z), h3.ext e xx⟩
    | dead => trivial
    | tab P l => exact q
  · obtain ⟨h1, u, h2, h3⟩ := e.dom n a h
    exact ⟨h1, u, x _ _ h2 (nt_mut h3), h3⟩
  · obtain ⟨h1, h2⟩ := e.ro a u h
    exact ⟨x _ _ h1 (e.nt a u h), h2⟩
section
variable {X : Cx} {Ξ : XC}
theorem se_told {x : Str} {c P : Addr} {k : Nat} {q : List Nat} {params : Arguments} {body : Expr} {scope : Scope} {t : Told} {els cs : List Nat} {B : SE} {p lpos pos : Pos} (h : ToldAt X.K X.mg x t els cs) (TB : LamX.TabB X.base X.mg c P) (hcode : X.env.code = .ref c) (hr : Room (k + 2) X.A)
    (hbody : ∀ (A : Around) (outer : List Env) (s : Shared) (H : Hp) (E : XK) (f c' : Addr), Room k (A.deeper (LamX.lamEnv X scope s.heap.objs.size f c')) → PE (LamX.lamCx X A outer s H E scope f c') body (rdE X.K (XofE X.K X.mg E) B))
    (hq : X.env.qual ++ "<lambda>" = ⟨q.toArray⟩ := by rfl) (L : LamX.LamS X.env.scope scope := by exact LamX.lamS_by rfl) (hdef : defaultsOf params X.env = ([], []) := by rfl)
    (hbind : ∀ (q : Str) (cl : List (Str × Addr)) (pm cv ctv : Value), bindArgs (PySem.W.kla_fn "<lambda>" q params body scope cl pm cv ctv) ⟨[], []⟩ = pure [] := by intro _ _ _ _ _; rfl) (hg : Gl X x := by rfl) (hdb : (x == ("__debug__" : Str)) = false := by decide) :
    PE X (.Call (.Name x p) [.Lambda params body scope lpos] [] pos) (rdE X.K Ξ (eTold P q t els cs B)) := by
  obtain ⟨g, Ng, a, sg, pg, bg, dV, kV, doc, pm, cdv, ct, oc, an, od, osl, hm, hk, lk, hcd, hb, S, hN0, hva, hda, hca, hG⟩ := h.ex
  refine PE_imp (LamX.pe_lamcall (T := [(P, ⟨q.toArray⟩)]) (TT := TTold X.mg t els cs) (t := fun E => rdE X.K (XofE X.K X.mg E) B) hg hm hk lk hcd hb S hN0 hva (hG X _ rfl rfl) TB hcode (by rw [hq]; exact List.mem_singleton.mpr rfl) (fun p hp _ => by rw [hq]; cases List.mem_singleton.mp hp; rfl) hr L hdef hbind hbody hdb hda hca) fun σ H Q ⟨gh, s, m, em, sr, q1⟩ => ?_
  unfold eTold at q1
  split at q1
  · rename_i P' q' hm0
    split at q1
    · rename_i hh
      obtain ⟨rfl, rfl⟩ := hh
      have hT : gh.T = [(P', ⟨q'.toArray⟩)] := em.obj 0 _ hm0
      refine ⟨by rw [← hT]; exact em.tab, fun H1 eN T1 => ?_⟩
      obtain ⟨xx, ee⟩ := em.extN eN (by rw [hT]; exact T1)
      refine ⟨gh, s, m, ee, sr.ext em xx, ?_⟩
      cases hB : B s m with
      | ok pr =>
        obtain ⟨v, m'⟩ := pr
        rw [hB] at q1
        intro g2 H2 V x2 e2 r2
        exact q1 g2 H2 _ (xx.trans x2) e2 (.str els)
      | ex e m' =>
        rw [hB] at q1
        obtain ⟨cc, fs⟩ := e
        cases fs with
        | cons _ _ => exact q1.elim
        | nil =>
          by_cases hc : cs.contains cc = true
          · have q2 : QE X.K Ξ gh H Q (.ok (.str (t.ev cc), m')) := by
              have q3 := q1
              simp only at q3
              rw [if_pos hc] at q3
              exact q3
            intro g2 H2 x2 e2 C d hmC hF
            refine ⟨cc, C, by simpa using hc, rfl, ?_, hmC, q2 g2 H2 _ (xx.trans x2) e2 (.str _)⟩
            cases hF; rfl
          · have q3 := q1
            simp only at q3
            rw [if_neg hc] at q3
            exact q3.elim
      | no => rw [hB] at q1; exact q1.elim
    · exact q1.elim
  · exact q1.elim
end
section
variable {X : Cx} {Ξ : XC} {k : Nat} {x : Str} {p pos : Pos} {e : Expr} {es : List Expr} {fs : SA}
theorem cP_cX {K : PySem.W.Frag} {mg : Str → Option Value} {E : XK} {g : Gh} {H : Hp} {Q : VK} {F : PF} {as : List PV} {m : Mm} (q : QE K Ξ g H Q (cP F as m)) : QE K (XofE K mg E) g H Q (cX F as m) := by
  unfold cP at q
  unfold cX
  split at q
  · rename_i hp
    rw [if_pos hp]
    cases h : F as with
    | ok p => rw [h] at q; exact q
    | ex e m => rw [h] at q; exact q.elim
    | no => rw [h] at q; exact q.elim
  · exact q.elim
/-- the call of a def that may raise, where it does not -/
theorem sh_callXP {n : Nat} {F : PF} (h : HasX X.prog X.w X.K X.mg X.base x k (spX X.K X.mg n F)) (hr : Room k X.A) (ha : PA X (e :: es) (rdA X.K Ξ fs)) (hl : ∀ s m xs m', fs s m = .ok (xs, m') → xs.length = (e :: es).length)
    (hn : (e :: es).length = n := by rfl) (hg : Gl X x := by rfl) (hdb : (x == ("__debug__" : Str)) = false := by decide) (he : starEach (e :: es) X.env = (false, eval e X.env) :: starEach es X.env := by rfl) (hpl : (backTo pos (starEach es X.env)).any (·.1) = false := by rfl) :
    PE X (.Call (.Name x p) (e :: es) [] pos) (rdE X.K Ξ (eN (cP F) fs)) := by
  obtain ⟨f, fd, ps, G, hm, hk, hb⟩ := h
  refine PE_imp (pe_call G hr hg hm hk hb .nil passL ha hdb he hpl) fun σ H Q ⟨g, s, m, em, sr, q⟩ => ?_
  refine ⟨g, s, m, em, sr, QR.bind q fun p hp q1 g1 H1 V x1 e1 r1 => ?_⟩
  exact ⟨g1, p.2, p.1, by rw [hl s m p.1 p.2 hp, hn], e1, by rw [List.append_nil]; exact r1, cP_cX (QE.later x1 q1)⟩
end

/-! ### the law's own promise, with a table -/
def spLawT (K : PySem.W.Frag) (Pt : Addr) : Sp := fun vs H Q _ => ∃ (a : Addr) (ns : List Int), vs = [.ref a] ∧ SqL K H a (ns.map V.int) ∧ ns.length ≤ 63 ∧ H Pt = some (.tbl #[]) ∧ ∀ H', Q (.bl true) H'
theorem spLawT_of {K : PySem.W.Frag} {Pt : Addr} {q : List Nat} {F : IF} (h : ∀ ns : List Int, ns.length ≤ 63 → ∃ m, F [.fz (ns.map PV.int)] [.tab Pt q] = .ok (.bl true, m)) {vs : List V} {H : Hp} {Q : VK} {E : XK} (z : spLawT K Pt vs H Q E) : spI K 1 F vs H Q E := by
  obtain ⟨a, ns, rfl, hS, hl, hP, z⟩ := z
  refine ⟨⟨fun _ => none, ntOf H, [(Pt, ⟨q.toArray⟩)]⟩, [.tab Pt q], [.fz (ns.map PV.int)], rfl, ⟨(fun n o h => ?_), (fun n a h => nomatch h), (fun n k a h _ => nomatch h), (fun a u h => ⟨(ntOf_inv h).1, (fun n z => nomatch z)⟩), (fun a u h => (ntOf_inv h).2), (fun p hp => ?_)⟩, .cons (.fz (ntOf_sq hS) (rps_ints ns)) .nil, ?_⟩
  · cases n with
    | zero => simp at h; subst h; rfl
    | succ n => simp at h
  · cases List.mem_singleton.mp hp
    exact LamX.TabS.nil hP
  · obtain ⟨m, hm⟩ := h ns hl
    unfold cI
    rw [hm]
    intro g' H' V x e r
    cases r.bl_inv
    exact z H'
theorem law_fnT {P : Program} {w : World} {K : PySem.W.Frag} {mg : Str → Option Value} {base : Heap} {x : Str} {st : Stmt} {f c Pt : Addr} {N : List Str} {p : Str} {k : Nat} {b : SS} {q : List Nat} {oc kV doc pm ct : Value} {od an : Option Addr} {osl : Array (Option Value)}
    (lk : K.lookup f = some ⟨oc, od, .func (PySem.W.fnOf x x (defArgs st) (defBody st) (defScope st) .none kV doc pm an (.ref c) ct), osl⟩) (hcd : PySem.W.codeIn K (.ref c) x = true) (S : FnScope N [p] (defScope st)) (hN : 1 ≤ N.length)
    (hbody : ∀ (A : Around) (outer : List Env) (s : Shared) (H : Hp) (E : XK), Room k (A.deeper (envOfC x (defScope st) s.heap.objs.size f (.ref c))) →
      PSs (cxOf CX0 P w K mg base N x (defScope st) f (.ref c) A outer s H E).nox (defBody st) (rdS K X0 b))
    (h : ∀ ns : List Int, ns.length ≤ 63 → ∃ m, bodyI N.length 1 b [.fz (ns.map PV.int)] [.tab Pt q] = .ok (.bl true, m)) : FnOk P w K mg base CX0 (k + 1) f (PySem.W.fnOf x x (defArgs st) (defBody st) (defScope st) .none kV doc pm an (.ref c) ct) [p] (spLawT K Pt) := by
  refine fn_of lk hcd S (fun vs H Q E z => ?_) fun A outer s H vs Q E hr z => ?_
  · obtain ⟨a, ns, rfl, _⟩ := z; rfl
  · obtain ⟨g, m, as, hl, em, r, q⟩ := spLawT_of h z
    exact ⟨_, (hbody A outer s H E hr).nox, body_rd em r (by rw [hl]; exact hN) (by rw [hl]; exact q)⟩
end TT
end

section
set_option Elab.async false
set_option linter.all false
set_option autoImplicit false
set_option maxRecDepth 100000
/-! TT: defs as values, called by a name that holds one -/
namespace TT
open PySem PySem.Spec PyProof.Rows L2
/-- v(..), v one of these defs -/
def eCallV (tbl : List (Nat × ON)) (f : SE) (args : SA) : SE := fun s m => (f s m).bind fun (v, m1) => match v with
  | .fn a => (match tbl.lookup a with
    | some G => (args s m1).bind fun (xs, m2) => G xs m2
    | none => .no)
  | _ => .no
/-- a def that may raise stands at a, with the values of what is left out -/
def CalV (P : Program) (w : World) (K : PySem.W.Frag) (mg : Str → Option Value) (base : Heap) (x : Str) (a : Addr) (k : Nat) (ds : List PV) (sp : Sp) : Prop :=
  ∃ fd ps us zs, FnOk P w K mg base (L2.CX P w) k a fd ps sp ∧ mg x = some (.ref a) ∧ PySem.W.keepIn K (.ref a) = true ∧ Binds K fd ps us ∧ Vals zs us ∧ ∀ g H, Rps K g H ds zs
section
variable {P : Program} {w : World} {K : PySem.W.Frag} {mg : Str → Option Value} {base : Heap}
theorem CalV.toX {x : Str} {a : Addr} {k n N : Nat} {ds : List PV} {b : SS} (h : CalV P w K mg base x a k ds (spXI K mg n (bodyI N n b))) : CalV P w K mg base x a k ds (spX K mg n (bodyP N n b)) :=
  let ⟨fd, ps, us, zs, c, r⟩ := h; ⟨fd, ps, us, zs, c.imp fun _ _ _ _ => spX_of, r⟩
theorem cal_def {x : Str} {st : Stmt} {a : Addr} {fd : FuncData} {ps : List Str} {k : Nat} {sp : Sp} (c : FnOk P w K mg base (L2.CX P w) k a fd ps sp) (F : Fun K x x st a fd) (hm : mg x = some (.ref a))
    (h : ∀ (kV doc pm : Value) (an : Option Addr) (cdv ct : Value) (us : List Value), us.length = ps.length → bindArgs (PySem.W.fnOf x x (defArgs st) (defBody st) (defScope st) .none kV doc pm an cdv ct) ⟨us, []⟩ = pure (ps.zip us)) : CalV P w K mg base x a k [] sp :=
  ⟨fd, ps, [], [], c, hm, F.kp, F.binds h, .nil, fun _ _ => .nil⟩
theorem CalV.hasX {x : Str} {a : Addr} {k : Nat} {sp : Sp} (h : CalV P w K mg base x a k [] sp) : HasX P w K mg base x k sp := by
  obtain ⟨fd, ps, us, zs, c, hm, kp, hb, hv, hz⟩ := h
  have h0 : zs = [] := by
    have := (hz ⟨fun _ => none, fun _ => none, []⟩ fun _ => none).length
    cases zs with
    | nil => rfl
    | cons _ _ => cases this
  subst h0
  cases hv
  exact ⟨a, fd, ps, c, hm, kp, hb⟩
theorem cal_defD {x : Str} {st : Stmt} {f : Addr} {fd : FuncData} {ps : List Str} {k : Nat} {sp : Sp} {kws : List (Str × V)} {ds : List PV} (n : Nat) (a : FnOk P w K mg base (L2.CX P w) k f fd ps sp) (hm : mg x = some (.ref f)) (F : FunD K x x (defArgs st) (defBody st) (defScope st) [] kws f fd) (hk : kws ≠ []) (hn : n + kws.length = ps.length)
    (hc : ∀ (D : Addr) (doc pm : Value) (an : Option Addr) (cdv ct : Value) (us ks : List Value), us.length = n → ks.length = kws.length →
      KwChain D ((kws.map (·.1)).zip ks) (bindArgs (PySem.W.fnOf x x (defArgs st) (defBody st) (defScope st) .none (.ref D) doc pm an cdv ct) ⟨us, []⟩) (ps.zip (us ++ ks))) (hd : ∀ g H, Rps K g H ds (kws.map (·.2))) : CalV P w K mg base x f k ds sp := by
  obtain ⟨us, hv, hb⟩ := F.binds0 n hk hn hc
  exact ⟨fd, ps, us, _, a, hm, F.kp, hb, hv, hd⟩
end
section
variable {X : Cx} {Ξ : XC} {j : Nat} {x : Str} {p pos : Pos} {e : Expr} {es : List Expr} {fs : SA}
theorem se_fnv {a : Addr} {k : Nat} {ds : List PV} {sp : Sp} (h : CalV X.prog X.w X.K X.mg X.base x a k ds sp) (hg : Gl X x := by rfl) (hd : (x == ("__debug__" : Str)) = false := by decide) : PE X (.Name x pos) (rdE X.K Ξ (eC (.fn a))) := by
  obtain ⟨fd, ps, us, zs, c, hm, _⟩ := h
  exact PE_imp (pe_glob (v := .ref a) hg hm rfl hd) fun σ H Q ⟨g, s, m, em, sr, q⟩ => q g H _ (Ext.refl _ _) em (.fn a)
/-- each def of the table -/
def TblOk (X : Cx) (j n : Nat) (tbl : List (Nat × ON)) : Prop := ∀ a G, (a, G) ∈ tbl → ∃ (k : Nat) (x : Str) (ds : List PV) (N : Nat) (F : PF), k ≤ j ∧ n + ds.length = N ∧ CalV X.prog X.w X.K X.mg X.base x a k ds (spX X.K X.mg N F) ∧ G = fun xs m => cX F (xs ++ ds) m
theorem tbl_nil {n : Nat} : TblOk X j n [] := fun _ _ h => nomatch h
theorem tbl_cons {n : Nat} {tbl : List (Nat × ON)} {a : Addr} {k N : Nat} {y : Str} {ds : List PV} {F : PF} (h : CalV X.prog X.w X.K X.mg X.base y a k ds (spX X.K X.mg N F)) (hk : k ≤ j) (hn : n + ds.length = N) (ht : TblOk X j n tbl) : TblOk X j n ((a, fun xs m => cX F (xs ++ ds) m) :: tbl) := fun b G hm => by
  rcases List.mem_cons.mp hm with z | z
  · cases z
    exact ⟨k, y, ds, N, F, hk, hn, h, rfl⟩
  · exact ht b G z
theorem lookup_mem {α : Type} : ∀ {l : List (Nat × α)} {a : Nat} {v : α}, l.lookup a = some v → (a, v) ∈ l
  | (b, w) :: l, a, v, h => by
    rw [List.lookup_cons] at h
    split at h
    · rename_i hb
      cases h
      rw [beq_iff_eq.mp hb]; exact List.mem_cons_self
    · exact List.mem_cons_of_mem _ (lookup_mem h)
theorem se_callV {tbl : List (Nat × ON)} {n : Nat} {E : XK} (i : Nat) (ok : TblOk X j n tbl) (hr : Room j X.A) (tk : Takes X (fun cls d _ H => E cls d H)) (ha : PA X (e :: es) (rdA X.K (XofE X.K X.mg E) fs)) (hl : ∀ s m xs m', fs s m = .ok (xs, m') → xs.length = (e :: es).length)
    (hn : (e :: es).length = n := by rfl) (hN : X.N[i]? = some x := by rfl) (hv : Vis X.env.scope x := by first | exact Or.inl rfl | exact Or.inr (Or.inl rfl) | exact Or.inr (Or.inr rfl)) (hd : (x == ("__debug__" : Str)) = false := by decide) (hcd : (x == ("__classdict__" : Str)) = false := by decide)
    (he : starEach (e :: es) X.env = (false, eval e X.env) :: starEach es X.env := by rfl) (hpl : (backTo pos (starEach es X.env)).any (·.1) = false := by rfl) :
    PE X (.Call (.Name x p) (e :: es) [] pos) (rdE X.K (XofE X.K X.mg E) (eCallV tbl (eVar i) fs)) := by
  refine ⟨fun pins s σ H Q I ⟨g, sl, m, em, sr, q⟩ => ?_⟩
  unfold eCallV eVar at q
  cases hsl : sl[i]? with
  | none => rw [hsl] at q; exact q.elim
  | some o =>
    cases o with
    | none => rw [hsl] at q; exact q.elim
    | some v =>
      rw [hsl] at q
      simp only [Rs.bind_ok] at q
      obtain ⟨wv, hσ, rv⟩ := sr.at_ i v hsl
      cases v with
      | fn a =>
        cases rv
        cases htb : tbl.lookup a with
        | none => simp only [htb] at q; exact q.elim
        | some G =>
          obtain ⟨k, y, ds, N, F, hk, hN2, ⟨fd, ps, us, zs, c, hm, kp, hb, hvz, hz⟩, hG⟩ := ok a G (lookup_mem htb)
          have name := (pe_var (X := X) (pos := p) hN hv hd hcd).run pins s σ H (fun v H1 => v = .ref a ∧ H1 = H) I ⟨.ref a, hσ, rfl, rfl⟩
          simp only [htb, hG] at q
          have args : rdA X.K (XofE X.K X.mg E) fs σ H fun vs H1 => spX X.K X.mg N F (vs ++ zs) H1 Q E := by
            refine ⟨g, sl, m, em, sr, QR.bind q fun pr hp q1 g1 H1 V x1 e1 r1 => ?_⟩
            exact ⟨g1, pr.2, pr.1 ++ ds, by rw [List.length_append, hl _ _ _ _ hp, hn, hN2], e1, r1.append (hz _ _), QE.later x1 q1⟩
          refine wpAny_Call_Name_kw (thn name fun u s1 ⟨v, H1, I1, r1, q1⟩ => ?_)
          obtain ⟨rfl, rfl⟩ := q1
          cases r1
          have step := fun (I1 : Inv X pins σ H1 s1) => ha.run pos pins s1 σ H1 _ I1 args
          refine PySem.W.callWith_K (h₀ := X.base) I1.ok.mod.kin kp (thn (step I1) fun vs2 s2 ⟨ws, H2, I2, r2, q2⟩ => ⟨I2.kIn, ?_⟩) he hpl
          exact run_fn (X := X) c (hr.mono hk) hb hvz (passes_call tk fun _ _ _ _ h => h) I2 r2 q2
      | _ => exact q.elim
end
theorem ss_nevers {X : Cx} {Ξ : XC} {sts : List Stmt} : PSs X sts (rdS X.K Ξ sNever) := ⟨fun pins s σ H D I ⟨g, sl, m, em, sr, q⟩ => q.elim⟩
end TT
end

section
set_option linter.all false
set_option autoImplicit false
/-! TT: equations for simp -/
namespace TT
section
variable {s : Sl} {m : Mm} {a b c : SE} {v w : PV} {i : Nat} {t u : ST} {f h : SS} {r : SA}
@[simp] theorem eVar_ap : eVar i s m = (match s[i]? with | some (some v) => .ok (v, m) | _ => .no) := rfl
@[simp] theorem eC_ap : eC v s m = .ok (v, m) := rfl
@[simp] theorem e1_ap {f : O1} : e1 f a s m = (a s m).bind fun p => f p.1 p.2 := rfl
@[simp] theorem e2_ap {f : O2} : e2 f a b s m = (a s m).bind fun p => (b s p.2).bind fun q => f p.1 q.1 q.2 := rfl
@[simp] theorem aNil_ap : aNil s m = .ok ([], m) := rfl
@[simp] theorem aCons_ap : aCons a r s m = (a s m).bind fun p => (r s p.2).bind fun q => .ok (p.1 :: q.1, q.2) := rfl
@[simp] theorem eN_ap {f : ON} : eN f r s m = (r s m).bind fun p => f p.1 p.2 := rfl
@[simp] theorem eTup_ap : eTup r s m = (r s m).bind fun p => .ok (.tup p.1, p.2) := rfl
@[simp] theorem eLst_ap : eLst r s m = (r s m).bind fun p => .ok (.vl p.1, p.2) := rfl
@[simp] theorem eLstM_ap : eLstM r s m = (r s m).bind fun p => .ok (.ref p.2.length, p.2 ++ [.lst p.1]) := rfl
@[simp] theorem eIf_ap : eIf t a b s m = (t s m).bind fun p => if p.1 = true then a s p.2 else b s p.2 := rfl
@[simp] theorem eM_ap {g : Tag} {f : PV → List PV → Mm → Rs (PV × Mm)} : eM g f a r s m = (a s m).bind fun p => if tyOk p.2 g p.1 = true then (r s p.2).bind fun q => f p.1 q.1 q.2 else .no := rfl
@[simp] theorem eSlL_ap : eSlL a b s m = (b s m).bind fun p => (a s p.2).bind fun q => match q.1 with
  | .int i => oSlice (some i) none p.1 q.2
  | _ => .no := rfl
@[simp] theorem eSlH_ap : eSlH a b s m = (b s m).bind fun p => (a s p.2).bind fun q => match q.1 with
  | .int i => oSlice none (some i) p.1 q.2
  | _ => .no := rfl
@[simp] theorem eSlLH_ap : eSlLH a b c s m = (c s m).bind fun p => (a s p.2).bind fun q => match q.1 with
  | .int i => (b s q.2).bind fun z => match z.1 with
    | .int j => oSlice (some i) (some j) p.1 z.2
    | _ => .no
  | _ => .no := rfl
@[simp] theorem asB_bl {k : Bool} : asB (.bl k) m = .ok (k, m) := rfl
@[simp] theorem eAnd_ap : eAnd a b s m = (a s m).bind fun p => match p.1 with
  | .bl true => b s p.2
  | .bl false => .ok (.bl false, p.2)
  | _ => .no := rfl
@[simp] theorem eOr_ap : eOr a b s m = (a s m).bind fun p => match p.1 with
  | .bl false => b s p.2
  | .bl true => .ok (.bl true, p.2)
  | _ => .no := rfl
@[simp] theorem eNot_ap : eNot a s m = (a s m).bind fun p => match p.1 with
  | .bl b => .ok (.bl (!b), p.2)
  | _ => .no := rfl
@[simp] theorem tV_ap : tV a s m = (a s m).bind fun p => asB p.1 p.2 := rfl
@[simp] theorem tAnd_ap : tAnd t u s m = (t s m).bind fun p => if p.1 = true then u s p.2 else .ok (false, p.2) := rfl
@[simp] theorem tOr_ap : tOr t u s m = (t s m).bind fun p => if p.1 = true then .ok (true, p.2) else u s p.2 := rfl
@[simp] theorem tNot_ap : tNot t s m = (t s m).bind fun p => .ok (!p.1, p.2) := rfl
@[simp] theorem tT_ap : tT a s m = (a s m).bind fun p => match tru p.2 p.1 with
  | some b => .ok (b, p.2)
  | none => .no := rfl
@[simp] theorem tYes_ap : tYes s m = .ok (true, m) := rfl
@[simp] theorem tru_bl {k : Bool} : tru m (.bl k) = some k := rfl
@[simp] theorem tru_non : tru m .non = some false := rfl
@[simp] theorem tru_int {i : Int} : tru m (.int i) = some (i != 0) := rfl
@[simp] theorem gName_ap : gName i v s m = .ok (s.set i (some v), m) := rfl
@[simp] theorem gNames_nil : gNames [] [] s = some s := rfl
@[simp] theorem gNames_cons {is : List Nat} {vs : List PV} : gNames (i :: is) (v :: vs) s = gNames is vs (s.set i (some v)) := rfl
@[simp] theorem gTup_ap {is : List Nat} {vs : List PV} : gTup is (.tup vs) s m = (match gNames is vs s with | some s' => .ok (s', m) | none => .no) := rfl
@[simp] theorem gSub_ap : gSub a b v s m = (a s m).bind fun p => (b s p.2).bind fun q => (oSet p.1 q.1 v q.2).bind fun m3 => .ok (s, m3) := rfl
@[simp] theorem sSkip_ap : sSkip s m = .ok (.nx, s, m) := rfl
@[simp] theorem sSeq_ap : sSeq f h s m = (f s m).bind fun p => match p.1 with
  | .nx => h p.2.1 p.2.2
  | g => .ok (g, p.2.1, p.2.2) := rfl
@[simp] theorem sExpr_ap : sExpr a s m = (a s m).bind fun p => .ok (.nx, s, p.2) := rfl
@[simp] theorem sAsg_ap {g : SG} : sAsg a g s m = (a s m).bind fun p => (g p.1 s p.2).bind fun q => .ok (.nx, q.1, q.2) := rfl
@[simp] theorem sRet_ap : sRet a s m = (a s m).bind fun p => .ok (.rt p.1, s, p.2) := rfl
@[simp] theorem sRetN_ap : sRetN s m = .ok (.rt .non, s, m) := rfl
@[simp] theorem sIf_ap : sIf t f h s m = (t s m).bind fun p => if p.1 = true then f s p.2 else h s p.2 := rfl
@[simp] theorem sBreak_ap : sBreak s m = .ok (.bk, s, m) := rfl
@[simp] theorem sCont_ap : sCont s m = .ok (.ct, s, m) := rfl
@[simp] theorem sPar2_ap {i j : Nat} : sPar2 i j r s m = (r s m).bind fun p => match p.1 with
  | [x, y] => .ok (.nx, (s.set i (some x)).set j (some y), p.2)
  | _ => .no := rfl
@[simp] theorem sPar3_ap {i j l : Nat} : sPar3 i j l r s m = (r s m).bind fun p => match p.1 with
  | [x, y, z] => .ok (.nx, ((s.set i (some x)).set j (some y)).set l (some z), p.2)
  | _ => .no := rfl
theorem sFor_ap {it : SI} {g : SG} : sFor it g f s m = (it s m).bind fun p => forL g f p.1 s p.2 := rfl
@[simp] theorem forL_nil {g : SG} : forL g f [] s m = .ok (.nx, s, m) := rfl
theorem forL_cons {g : SG} {xs : List PV} : forL g f (v :: xs) s m = (g v s m).bind fun p => (f p.1 p.2).bind fun q => match q.1 with
  | .nx => forL g f xs q.2.1 q.2.2
  | .ct => forL g f xs q.2.1 q.2.2
  | .bk => .ok (.nx, q.2.1, q.2.2)
  | .rt v => .ok (.rt v, q.2.1, q.2.2) := rfl
@[simp] theorem iL_ap : iL a s m = (a s m).bind fun p => match p.1 with
  | .vl xs => .ok (xs, p.2)
  | _ => .no := rfl
@[simp] theorem iT_ap : iT a s m = (a s m).bind fun p => match p.1 with
  | .tup xs => .ok (xs, p.2)
  | _ => .no := rfl
@[simp] theorem iZip_ap : iZip a b s m = (a s m).bind fun p => (b s p.2).bind fun q => match p.1, q.1 with
  | .tup xs, .tup ys => .ok (zipP xs ys, q.2)
  | .vl xs, .vl ys => .ok (zipP xs ys, q.2)
  | _, _ => .no := rfl
@[simp] theorem iRng1_ap : iRng1 a s m = (a s m).bind fun p => match p.1 with
  | .int j => if (decide (-P62 ≤ j) && decide (j < P62)) = true then .ok (rngL 0 j.toNat, p.2) else .no
  | _ => .no := rfl
theorem eLc_ap {own : List Nat} {it : SI} {g : SG} : eLc own it g t a s m = (it s m).bind fun p => (lcL g t a (wipe s own) p.1 p.2 []).bind fun q => .ok (.vl q.1, q.2) := rfl
@[simp] theorem look_non : look1 m .non = .non := rfl
@[simp] theorem look_bl {k : Bool} : look1 m (.bl k) = .bl k := rfl
@[simp] theorem look_int {k : Int} : look1 m (.int k) = .int k := rfl
@[simp] theorem look_str {k : List Nat} : look1 m (.str k) = .str k := rfl
@[simp] theorem look_tup {k : List PV} : look1 m (.tup k) = .tup k := rfl
@[simp] theorem look_vl {k : List PV} : look1 m (.vl k) = .vl k := rfl
@[simp] theorem look_fz {k : List PV} : look1 m (.fz k) = .fz k := rfl
theorem look_ref {n : Nat} {k : List PV} (h : m[n]? = some (.lst k)) : look1 m (.ref n) = .vl k := by simp [look1, h]
/-! operators -/
@[simp] theorem oAdd_int {i j : Int} : oAdd (.int i) (.int j) m = .ok (.int (i + j), m) := rfl
@[simp] theorem oSub_int {i j : Int} : oSub (.int i) (.int j) m = .ok (.int (i - j), m) := rfl
theorem oAdd_tup {x y : List PV} : oAdd (.tup x) (.tup y) m = if x.length + y.length ≤ LINE then .ok (.tup (x ++ y), m) else .no := rfl
theorem oAdd_vl {x y : List PV} : oAdd (.vl x) (.vl y) m = if x.length + y.length ≤ LINE then .ok (.vl (x ++ y), m) else .no := rfl
theorem oAdd_str {x y : List Nat} : oAdd (.str x) (.str y) m = if x.length + y.length ≤ LINE then .ok (.str (x ++ y), m) else .no := rfl
theorem oMul_int {i j : Int} : oMul (.int i) (.int j) m = if (within64 i || within64 j) = true then .ok (.int (i * j), m) else .no := rfl
theorem oFDiv_int {i j : Int} : oFDiv (.int i) (.int j) m = if (decide (0 < j) && decide (j < 1073741824)) = true then .ok (.int (i / j), m) else .no := rfl
theorem oMod_int {i j : Int} : oMod (.int i) (.int j) m = if decide (0 < j) = true then .ok (.int (i % j), m) else .no := rfl
@[simp] theorem oNeg_int {i : Int} : oNeg (.int i) m = .ok (.int (-i), m) := rfl
@[simp] theorem oLt_int {i j : Int} : oLt (.int i) (.int j) m = .ok (.bl (decide (i < j)), m) := rfl
@[simp] theorem oLe_int {i j : Int} : oLe (.int i) (.int j) m = .ok (.bl (decide (i ≤ j)), m) := rfl
@[simp] theorem oGt_int {i j : Int} : oGt (.int i) (.int j) m = .ok (.bl (decide (j < i)), m) := rfl
@[simp] theorem oGe_int {i j : Int} : oGe (.int i) (.int j) m = .ok (.bl (decide (j ≤ i)), m) := rfl
@[simp] theorem oIs_non {neg : Bool} : oIs neg .non .non m = .ok (.bl (!neg), m) := rfl
@[simp] theorem oIs_bl {neg : Bool} {k : Bool} : oIs neg .non (.bl k) m = .ok (.bl neg, m) := rfl
@[simp] theorem oIs_int {neg : Bool} {k : Int} : oIs neg .non (.int k) m = .ok (.bl neg, m) := rfl
@[simp] theorem oIs_str {neg : Bool} {k : List Nat} : oIs neg .non (.str k) m = .ok (.bl neg, m) := rfl
@[simp] theorem oIs_tup {neg : Bool} {k : List PV} : oIs neg .non (.tup k) m = .ok (.bl neg, m) := rfl
@[simp] theorem oIs_vl {neg : Bool} {k : List PV} : oIs neg .non (.vl k) m = .ok (.bl neg, m) := rfl
@[simp] theorem fInt_int {i : Int} : fInt [.int i] m = .ok (.int i, m) := rfl
@[simp] theorem fInt_bl {k : Bool} : fInt [.bl k] m = .ok (.int (b2i k), m) := rfl
@[simp] theorem fLen_vl {xs : List PV} : fLen [.vl xs] m = .ok (.int xs.length, m) := rfl
@[simp] theorem fLen_fz {xs : List PV} : fLen [.fz xs] m = .ok (.int xs.length, m) := rfl
@[simp] theorem fLen_tup {xs : List PV} : fLen [.tup xs] m = .ok (.int xs.length, m) := rfl
@[simp] theorem fMin_int {i j : Int} : fMin [.int i, .int j] m = .ok (.int (if j < i then j else i), m) := rfl
@[simp] theorem fMax_int {i j : Int} : fMax [.int i, .int j] m = .ok (.int (if j > i then j else i), m) := rfl
@[simp] theorem fList_tup {xs : List PV} : fList [.tup xs] m = .ok (.vl xs, m) := rfl
@[simp] theorem fList_vl {xs : List PV} : fList [.vl xs] m = .ok (.vl xs, m) := rfl
@[simp] theorem fTuple_tup {xs : List PV} : fTuple [.tup xs] m = .ok (.tup xs, m) := rfl
@[simp] theorem fTuple_vl {xs : List PV} : fTuple [.vl xs] m = .ok (.tup xs, m) := rfl
/-! eq -/
@[simp] theorem sh_non {n : Nat} : PV.sh n .non = true := by cases n <;> rfl
@[simp] theorem sh_bl {n : Nat} {k : Bool} : PV.sh n (.bl k) = true := by cases n <;> rfl
@[simp] theorem sh_int {n : Nat} {k : Int} : PV.sh n (.int k) = true := by cases n <;> rfl
@[simp] theorem sh_str {n : Nat} {k : List Nat} : PV.sh n (.str k) = true := by cases n <;> rfl
@[simp] theorem sh_tup {n : Nat} {k : List PV} : PV.sh (n + 1) (.tup k) = k.all (PV.sh n) := rfl
@[simp] theorem sh_vl {n : Nat} {k : List PV} : PV.sh (n + 1) (.vl k) = k.all (PV.sh n) := rfl
theorem oEq_of (h1 : (look1 m v).sh DEP = true) (h2 : (look1 m w).sh DEP = true) : oEq v w m = .ok (.bl (PV.eqv (look1 m v) (look1 m w)), m) := by simp [oEq, h1, h2]
theorem oNe_of (h1 : (look1 m v).sh DEP = true) (h2 : (look1 m w).sh DEP = true) : oNe v w m = .ok (.bl (!PV.eqv (look1 m v) (look1 m w)), m) := by simp [oNe, h1, h2]
end
end TT
namespace TT
section
variable {m : Mm} {a b : PV} {i j : Int} {p q : Bool} {x y : List Nat} {xs ys : List PV}
@[simp] theorem eqv_int : PV.eqv (.int i) (.int j) = (i == j) := rfl
@[simp] theorem eqv_bl : PV.eqv (.bl p) (.bl q) = (p == q) := rfl
@[simp] theorem eqv_str : PV.eqv (.str x) (.str y) = (x == y) := rfl
@[simp] theorem eqv_blint : PV.eqv (.bl p) (.int j) = (b2i p == j) := rfl
@[simp] theorem eqv_intbl : PV.eqv (.int i) (.bl q) = (i == b2i q) := rfl
@[simp] theorem eqv_tup : PV.eqv (.tup xs) (.tup ys) = PV.eqvs xs ys := rfl
@[simp] theorem eqv_vl : PV.eqv (.vl xs) (.vl ys) = PV.eqvs xs ys := rfl
@[simp] theorem eqvs_nil : PV.eqvs [] [] = true := rfl
@[simp] theorem eqvs_cons : PV.eqvs (a :: xs) (b :: ys) = (PV.eqv a b && PV.eqvs xs ys) := rfl
@[simp] theorem eqvs_nc : PV.eqvs [] (b :: ys) = false := rfl
@[simp] theorem eqvs_cn : PV.eqvs (a :: xs) [] = false := rfl
@[simp] theorem eqv_nn : PV.eqv .non .non = true := rfl
@[simp] theorem eqv_ni : PV.eqv .non (.int j) = false := rfl
@[simp] theorem eqv_in : PV.eqv (.int j) .non = false := rfl
@[simp] theorem eqv_ns : PV.eqv .non (.str x) = false := rfl
@[simp] theorem eqv_sn : PV.eqv (.str x) .non = false := rfl
@[simp] theorem eqv_nb : PV.eqv .non (.bl q) = false := rfl
@[simp] theorem eqv_bn : PV.eqv (.bl q) .non = false := rfl
@[simp] theorem eqv_nt : PV.eqv .non (.tup xs) = false := rfl
@[simp] theorem eqv_tn : PV.eqv (.tup xs) .non = false := rfl
@[simp] theorem eqv_nv : PV.eqv .non (.vl xs) = false := rfl
@[simp] theorem eqv_vn : PV.eqv (.vl xs) .non = false := rfl
@[simp] theorem eqv_is : PV.eqv (.int i) (.str x) = false := rfl
@[simp] theorem eqv_si : PV.eqv (.str x) (.int i) = false := rfl
@[simp] theorem eqv_it : PV.eqv (.int i) (.tup xs) = false := rfl
@[simp] theorem eqv_ti : PV.eqv (.tup xs) (.int i) = false := rfl
@[simp] theorem eqv_iv : PV.eqv (.int i) (.vl xs) = false := rfl
@[simp] theorem eqv_vi : PV.eqv (.vl xs) (.int i) = false := rfl
@[simp] theorem eqv_bs : PV.eqv (.bl p) (.str x) = false := rfl
@[simp] theorem eqv_sb : PV.eqv (.str x) (.bl p) = false := rfl
@[simp] theorem eqv_bt : PV.eqv (.bl p) (.tup xs) = false := rfl
@[simp] theorem eqv_tb : PV.eqv (.tup xs) (.bl p) = false := rfl
@[simp] theorem eqv_bv : PV.eqv (.bl p) (.vl xs) = false := rfl
@[simp] theorem eqv_vb : PV.eqv (.vl xs) (.bl p) = false := rfl
@[simp] theorem eqv_st : PV.eqv (.str x) (.tup xs) = false := rfl
@[simp] theorem eqv_ts : PV.eqv (.tup xs) (.str x) = false := rfl
@[simp] theorem eqv_sv : PV.eqv (.str x) (.vl xs) = false := rfl
@[simp] theorem eqv_vs : PV.eqv (.vl xs) (.str x) = false := rfl
@[simp] theorem eqv_tv : PV.eqv (.tup xs) (.vl ys) = false := rfl
@[simp] theorem eqv_vt : PV.eqv (.vl xs) (.tup ys) = false := rfl
theorem oEq_pl (h1 : a.sh DEP = true) (h2 : b.sh DEP = true) : oEq a b m = .ok (.bl (PV.eqv a b), m) := by
  have l1 : look1 m a = a := by cases a with
    | ref n => cases h1
    | _ => rfl
  have l2 : look1 m b = b := by cases b with
    | ref n => cases h2
    | _ => rfl
  have := oEq_of (m := m) (v := a) (w := b) (by rw [l1]; exact h1) (by rw [l2]; exact h2)
  rw [l1, l2] at this
  exact this
theorem oNe_pl (h1 : a.sh DEP = true) (h2 : b.sh DEP = true) : oNe a b m = .ok (.bl (!PV.eqv a b), m) := by
  have l1 : look1 m a = a := by cases a with
    | ref n => cases h1
    | _ => rfl
  have l2 : look1 m b = b := by cases b with
    | ref n => cases h2
    | _ => rfl
  have := oNe_of (m := m) (v := a) (w := b) (by rw [l1]; exact h1) (by rw [l2]; exact h2)
  rw [l1, l2] at this
  exact this
@[simp] theorem oEq_int : oEq (.int i) (.int j) m = .ok (.bl (i == j), m) := oEq_pl (by simp) (by simp)
@[simp] theorem oNe_int : oNe (.int i) (.int j) m = .ok (.bl (!(i == j)), m) := oNe_pl (by simp) (by simp)
@[simp] theorem oEq_bl : oEq (.bl p) (.bl q) m = .ok (.bl (p == q), m) := oEq_pl (by simp) (by simp)
@[simp] theorem oEq_str : oEq (.str x) (.str y) m = .ok (.bl (x == y), m) := oEq_pl (by simp) (by simp)
@[simp] theorem oNe_str : oNe (.str x) (.str y) m = .ok (.bl (!(x == y)), m) := oNe_pl (by simp) (by simp)
end
end TT
namespace TT
section
variable {m : Mm} {b n : Nat} {xs : List PV} {k : Int} {v : PV} {o o' : Ob}
theorem getset1 (h : m[b]? = some o) : (m.set b o')[b]? = some o' := List.getElem?_set_self (List.getElem?_eq_some_iff.mp h).1
theorem oIx_ref (h : m[b]? = some (.lst xs)) (hk : atI xs k = some v) : oIx (.ref b) (.int k) m = .ok (v, m) := by
  unfold oIx; rw [look_ref h]; simp only [hk]
theorem oIx_vl (hk : atI xs k = some v) : oIx (.vl xs) (.int k) m = .ok (v, m) := by
  unfold oIx; simp only [look_vl, hk]
theorem oIx_fz (hk : atI xs k = some v) : oIx (.fz xs) (.int k) m = .ok (v, m) := by
  unfold oIx; simp only [look_fz, hk]
theorem oIx_tup (hk : atI xs k = some v) : oIx (.tup xs) (.int k) m = .ok (v, m) := by
  unfold oIx; simp only [look_tup, hk]
theorem oSet_ref {j : Nat} (h : m[b]? = some (.lst xs)) (hk : ixN xs.length k = some j) : oSet (.ref b) (.int k) v m = .ok (m.set b (.lst (xs.set j v))) := by
  unfold oSet; simp only [h, hk]
theorem atI_nat {α : Type} {xs : List α} {j : Nat} {x : α} (h : xs[j]? = some x) : atI xs (j : Int) = some x := by
  have hl : j < xs.length := (List.getElem?_eq_some_iff.mp h).1
  unfold atI ixN
  rw [if_pos (by omega), if_pos (by omega)]
  simpa using h
theorem atI_lt {α : Type} {xs : List α} {k : Int} (h0 : 0 ≤ k) (h1 : k < xs.length) : ∃ x ∈ xs, atI xs k = some x := by
  have hlt : k.toNat < xs.length := by omega
  refine ⟨xs[k.toNat], List.getElem_mem _, ?_⟩
  have e := atI_nat (List.getElem?_eq_getElem hlt)
  have : ((k.toNat : Nat) : Int) = k := by omega
  rw [this] at e
  exact e
theorem mAppend_ref (h : m[b]? = some (.lst xs)) (hl : xs.length < LINE) : mAppend (.ref b) [v] m = .ok (.non, m.set b (.lst (xs ++ [v]))) := by
  unfold mAppend; simp only [h]; rw [if_pos hl]
theorem tyOk_ref (h : m[b]? = some (.lst xs)) : tyOk m .list (.ref b) = true := by simp [tyOk, h]
/-- a comprehension that only picks: [x for x in xs if p] -/
theorem lc_pick {i : Nat} {t : ST} {s : Sl} (p : PV → Bool) (hi : i < s.length) : ∀ (ys acc : List PV), (∀ x ∈ ys, t (s.set i (some x)) m = .ok (p x, m)) → acc.length + ys.length ≤ LINE → lcL (gName i) t (eVar i) s ys m acc = .ok (acc ++ ys.filter p, m)
  | [], acc, _, _ => by simp [lcL]
  | x :: ys, acc, h, hl => by
    have hx := h x List.mem_cons_self
    have hr := fun acc' hl' => lc_pick p hi ys acc' (fun y hy => h y (List.mem_cons_of_mem _ hy)) hl'
    simp only [List.length_cons] at hl
    simp only [lcL, gName, Rs.nx_ok, Rs.bind_ok, hx]
    cases hp : p x with
    | true =>
      have e : eVar i (s.set i (some x)) m = .ok (x, m) := by simp [eVar, List.getElem?_set_self hi]
      simp only [if_true, e, Rs.nx_ok, Rs.bind_ok]
      rw [if_pos (by omega), hr _ (by rw [List.length_append, List.length_singleton]; omega)]
      simp [hp]
    | false =>
      simp only [Bool.false_eq_true, if_false]
      rw [hr _ (by omega)]
      simp [hp]
/-- [f x for x in xs] where all stays as it is -/
theorem lc_map {g : SG} {e : SE} {s : Sl} (f : PV → PV) : ∀ (ys acc : List PV), (∀ x ∈ ys, ∃ s1, g x s m = .ok (s1, m) ∧ e s1 m = .ok (f x, m)) → acc.length + ys.length ≤ LINE → lcL g tYes e s ys m acc = .ok (acc ++ ys.map f, m)
  | [], acc, _, _ => by simp [lcL]
  | x :: ys, acc, h, hl => by
    obtain ⟨s1, h1, h2⟩ := h x List.mem_cons_self
    have hr := fun acc' hl' => lc_map f ys acc' (fun y hy => h y (List.mem_cons_of_mem _ hy)) hl'
    simp only [List.length_cons] at hl
    simp only [lcL, tYes, Rs.nx_ok, Rs.bind_ok, h1, h2, if_true]
    rw [if_pos (by omega), hr _ (by rw [List.length_append, List.length_singleton]; omega)]
    simp
end
end TT
namespace TT
section
variable {m : Mm} {k : Nat} {v : PV} {b : Bool} {i : Int} {l : List Nat} {xs : List PV}
@[simp] theorem pu_non : PV.pu .non = true := rfl
@[simp] theorem pu_bl : PV.pu (.bl b) = true := rfl
@[simp] theorem pu_int : PV.pu (.int i) = true := rfl
@[simp] theorem pu_str : PV.pu (.str l) = true := rfl
@[simp] theorem pu_tup : PV.pu (.tup xs) = pus xs := rfl
@[simp] theorem pu_vl : PV.pu (.vl xs) = pus xs := rfl
@[simp] theorem pus_nil : pus [] = true := rfl
@[simp] theorem pus_cons : pus (v :: xs) = (PV.pu v && pus xs) := rfl
theorem frz_pu (h : v.pu = true) : frz k m v = some v := by cases k <;> simp [frz, h]
@[simp] theorem frz_non : frz k m .non = some .non := frz_pu rfl
@[simp] theorem frz_bl : frz k m (.bl b) = some (.bl b) := frz_pu rfl
@[simp] theorem frz_int : frz k m (.int i) = some (.int i) := frz_pu rfl
@[simp] theorem frz_str : frz k m (.str l) = some (.str l) := frz_pu rfl
end
end TT
namespace TT
section
variable {m : Mm} {k : Int} {xs : List PV}
theorem oIx_vl_e : oIx (.vl xs) (.int k) m = (atI xs k).elim .no fun v => .ok (v, m) := by
  unfold oIx; simp only [look_vl]; cases atI xs k <;> rfl
theorem oIx_tup_e : oIx (.tup xs) (.int k) m = (atI xs k).elim .no fun v => .ok (v, m) := by
  unfold oIx; simp only [look_tup]; cases atI xs k <;> rfl
end
end TT
end

section
set_option Elab.async false
set_option linter.all false
set_option autoImplicit false
set_option maxRecDepth 100000
namespace TT
def c_PARTS : PV := .tup [.str [107, 101, 101, 112], .str [114, 101, 112, 108, 121], .str [115, 116, 114, 105, 99, 116], .str [108, 101, 101, 119, 97, 121], .str [115, 112, 97, 114, 101], .str [101, 118, 101, 114, 121], .str [111, 108, 100]]
def c_CHOICES : PV := .tup [.tup [.int 0, .int 1, .int 2], .tup [.str [110, 101, 119], .str [115, 97, 109, 101]], .tup [.bl false, .bl true], .tup [.non, .int 0, .int 1, .int 2], .tup [.non, .int 0, .int 1, .int 2], .tup [.int 1, .int 2, .int 3], .tup [.str [101, 110, 100], .str [114, 101, 102, 117, 115, 101]]]
def c_TICK : PV := .str [46, 46]
def c_HOLDERS : PV := .str [97, 98]
def c_MOST_EVENTS : PV := .int 40
def c_EVENTS : PV := .tup [.str [46, 46], .str [97, 33], .str [97, 45], .str [97, 98], .str [98, 33], .str [98, 45], .str [98, 97]]
def c_FAULTS : PV := .tup [.str [45], .str [126]]
def c_SAFE : PV := .tup [.str [33], .str [43], .str [46, 46]]
def s_is_choice : SS :=
  (sSeq (sIf (tV (e1 (oIs false .non) (eVar 0))) (sRet (e2 (oIn false) (eC .non) (eVar 1))) sSkip)
  (sSeq (sIf (tT (e1 (oIsA .tStr) (eVar 0))) (sRet (e2 (oIn false) (eVar 0) (eLc [2] (iT (eVar 1)) (TT.gName 2) (tT (e1 (oIsA .tStr) (eVar 2))) (eVar 2)))) sSkip)
  (sSeq (sIf (tT (e1 (oIsA .tBool) (eVar 0))) (sRet (e2 (oIn false) (eVar 0) (eLc [2] (iT (eVar 1)) (TT.gName 2) (tT (e1 (oIsA .tBool) (eVar 2))) (eVar 2)))) sSkip)
  (sSeq (sIf (tNot (tT (e1 (oIsA .tInt) (eVar 0)))) (sRet (eC (.bl false))) sSkip)
  (sRet (e2 (oIn false) (eVar 0) (eLc [2] (iT (eVar 1)) (TT.gName 2) (tAnd (tT (e1 (oIsA .tInt) (eVar 2))) (tNot (tT (e1 (oIsA .tBool) (eVar 2))))) (eVar 2))))))))
def f_is_choice : PF := bodyP 3 2 s_is_choice
def s_is_event : SS :=
  (sSeq (sIf (tNot (tT (e1 (oIsA .tStr) (eVar 0)))) (sRet (eC (.bl false))) sSkip)
  (sSeq (sIf (tV (e2 (oIn false) (eVar 0) (eTup (aCons (eC c_TICK) (aCons (eC (.str [97, 98])) (aCons (eC (.str [98, 97])) aNil)))))) (sRet (eC (.bl true))) sSkip)
  (sRet (eAnd (e2 oEq (eN fLen (aCons (eVar 0) aNil)) (eC (.int 2))) (eAnd (e2 (oIn false) (e2 oIx (eVar 0) (eC (.int 0))) (eC c_HOLDERS)) (e2 (oIn false) (e2 oIx (eVar 0) (eC (.int 1))) (eC (.str [33, 45, 126, 43]))))))))
def f_is_event : PF := bodyP 1 1 s_is_event
def s_law_bag : SS :=
  (sSeq (sAsg (eC (.int 0)) (TT.gName 2))
  (sSeq (sIf (tV (e2 oLt (eVar 1) (eN fLen (aCons (eVar 0) aNil)))) (sAsg (e2 oMod (eN fInt (aCons (e2 oIx (eVar 0) (eVar 1)) aNil)) (e2 oPow (eC (.int 10)) (eC (.int 60)))) (TT.gName 2)) sSkip)
  (sSeq (sAsg (e2 oAdd (e2 oMul (e2 oMod (eN fInt (aCons (eVar 2) aNil)) (eC (.int 2147483629))) (eC (.int 16807))) (e2 oMul (e2 oMul (eC (.int 40009)) (eVar 1)) (eVar 1))) (TT.gName 3))
  (sSeq (sAsg (e2 oAdd (eC (.int 1)) (e2 oMod (eN fInt (aCons (e2 oAdd (e2 oAdd (eVar 3) (e2 oMul (eC (.int 7919)) (eVar 1))) (eC (.int 1009))) aNil)) (eC (.int 2147483645)))) (TT.gName 4))
  (sSeq (sIf (tV (e2 oLt (eVar 2) (e2 oPow (eC (.int 10)) (eC (.int 18))))) (sRet (eLstM (aCons (eC (.int 0)) (aCons (eVar 4) aNil)))) sSkip)
  (sRet (eLstM (aCons (eVar 2) (aCons (eVar 4) aNil)))))))))
def i_law_bag : IF := bodyI 5 2 s_law_bag
def s_law_take : SS :=
  (sSeq (sIf (tV (e2 oGt (e2 oIx (eVar 0) (eC (.int 0))) (eC (.int 0)))) (sSeq (sAsg (e2 oMod (eN fInt (aCons (e2 oIx (eVar 0) (eC (.int 0))) aNil)) (eVar 1)) (TT.gName 2))
  (sSeq (sAsg (e2 oFDiv (eN fInt (aCons (e2 oIx (eVar 0) (eC (.int 0))) aNil)) (eVar 1)) (TT.gSub (eVar 0) (eC (.int 0))))
  (sRet (eVar 2)))) sSkip)
  (sSeq (sAsg (e2 oMod (eN fInt (aCons (e2 oMul (e2 oIx (eVar 0) (eC (.int 1))) (eC (.int 48271))) aNil)) (eC (.int 2147483647))) (TT.gSub (eVar 0) (eC (.int 1))))
  (sSeq (sAsg (e2 oMul (e2 oFDiv (eN fInt (aCons (e2 oIx (eVar 0) (eC (.int 1))) aNil)) (eC (.int 13))) (e2 oAdd (e2 oMod (eN fInt (aCons (e2 oIx (eVar 0) (eC (.int 1))) aNil)) (eC (.int 32749))) (eC (.int 17)))) (TT.gName 3))
  (sRet (e2 oMod (eN fInt (aCons (e2 oFDiv (e2 oMod (eN fInt (aCons (eVar 3) aNil)) (eC (.int 2147483629))) (eC (.int 32))) aNil)) (eVar 1))))))
def i_law_take : IF := bodyI 4 2 s_law_take
def s_law_next_events : SS :=
  (sSeq (sAsg (eLst (aCons (eC (.str [46, 46])) aNil)) (TT.gName 3))
  (sSeq (sFor (TT.iRng1 (eC (.int 2))) (TT.gName 4) (sSeq (sAsg (e2 oIx (eC (.str [97, 98])) (eVar 4)) (TT.gName 5))
  (sIf (tAnd (tT (e2 oIx (eVar 0) (eVar 4))) (tOr (tV (e2 oEq (eVar 4) (eC (.int 0)))) (tV (e2 oNe (eVar 2) (eC (.str [97, 108, 111, 110, 101])))))) (sSeq (sAsg (e2 oAdd (eVar 3) (eLst (aCons (e2 oAdd (eVar 5) (eC (.str [33]))) (aCons (e2 oAdd (eVar 5) (eC (.str [33]))) (aCons (e2 oAdd (eVar 5) (eC (.str [45]))) aNil))))) (TT.gName 3))
  (sSeq (sIf (tV (e2 oNe (eVar 2) (eC (.str [112, 108, 97, 105, 110])))) (sAsg (e2 oAdd (e2 oAdd (eVar 3) (eLst (aCons (e2 oAdd (eVar 5) (eC (.str [126]))) aNil))) (e2 oMul (eLst (aCons (e2 oAdd (eVar 5) (eC (.str [43]))) aNil)) (eN fInt (aCons (e2 oIx (eVar 1) (eVar 4)) aNil)))) (TT.gName 3)) sSkip)
  (sIf (tV (e2 oNe (eVar 2) (eC (.str [97, 108, 111, 110, 101])))) (sAsg (e2 oAdd (eVar 3) (eSlLH (eVar 4) (e2 oAdd (eVar 4) (eC (.int 1))) (eLst (aCons (eC (.str [97, 98])) (aCons (eC (.str [98, 97])) aNil))))) (TT.gName 3)) sSkip))) sSkip)))
  (sRet (eVar 3))))
def i_law_next_events : IF := bodyI 6 3 s_law_next_events
def s_is_rule : SS :=
  (sSeq (sIf (tOr (tNot (tT (e1 (oIsA .tTup) (eVar 0)))) (tV (e2 oNe (eN fLen (aCons (eVar 0) aNil)) (eN fLen (aCons (eC c_PARTS) aNil))))) (sRet (eC (.bl false))) sSkip)
  (sRet (eN fAll (aCons (eLc [1, 2] (iZip (eVar 0) (eC c_CHOICES)) (TT.gTup [1, 2]) tYes (eN (cP f_is_choice) (aCons (eVar 1) (aCons (eVar 2) aNil)))) aNil))))
def f_is_rule : PF := bodyP 3 1 s_is_rule
def s_is_history : SS :=
  (sSeq (sIf (tOr (tNot (tT (e1 (oIsA .tTup) (eVar 0)))) (tV (e2 oGt (eN fLen (aCons (eVar 0) aNil)) (eC c_MOST_EVENTS)))) (sRet (eC (.bl false))) sSkip)
  (sSeq (sAsg (eLstM (aCons (eC (.bl true)) (aCons (eC (.bl false)) aNil))) (TT.gName 1))
  (sSeq (sAsg (eLstM (aCons (eC (.bl false)) (aCons (eC (.bl false)) aNil))) (TT.gName 2))
  (sSeq (sFor (iT (eVar 0)) (TT.gName 3) (sSeq (sIf (tNot (tT (eN (cP f_is_event) (aCons (eVar 3) aNil)))) (sRet (eC (.bl false))) sSkip)
  (sSeq (sIf (tV (e2 oEq (eVar 3) (eC c_TICK))) sCont sSkip)
  (sSeq (sAsg (eM .str mIndexS (eC c_HOLDERS) (aCons (e2 oIx (eVar 3) (eC (.int 0))) aNil)) (TT.gName 4))
  (sSeq (sIf (tOr (tNot (tT (e2 oIx (eVar 1) (eVar 4)))) (tAnd (tV (e2 oEq (e2 oIx (eVar 3) (eC (.int 1))) (eC (.str [43])))) (tNot (tT (e2 oIx (eVar 2) (eVar 4)))))) (sRet (eC (.bl false))) sSkip)
  (sIf (tV (e2 (oIn false) (e2 oIx (eVar 3) (eC (.int 1))) (eC c_HOLDERS))) (sSeq (sAsg (eC (.bl true)) (TT.gSub (eVar 1) (e2 oSub (eC (.int 1)) (eVar 4))))
  (sAsg (eC (.bl false)) (TT.gSub (eVar 2) (e2 oSub (eC (.int 1)) (eVar 4))))) (sIf (tV (e2 (oIn false) (e2 oIx (eVar 3) (eC (.int 1))) (eC (.str [126, 43])))) (sAsg (e2 oEq (e2 oIx (eVar 3) (eC (.int 1))) (eC (.str [126]))) (TT.gSub (eVar 2) (eVar 4))) sSkip)))))))
  (sRet (eC (.bl true)))))))
def f_is_history : PF := bodyP 5 1 s_is_history
def s_law_of : SS :=
  (sRet (e2 oIx (eVar 1) (eN (cI i_law_take) (aCons (eVar 0) (aCons (eN fLen (aCons (eVar 1) aNil)) aNil)))))
def i_law_of : IF := bodyI 2 2 s_law_of
def s_need_rule : SS :=
  (sIf (tNot (tT (eN (cP f_is_rule) (aCons (eVar 0) aNil)))) (sRaise 1) sSkip)
def f_need_rule : PF := bodyP 1 1 s_need_rule
def s_need_history : SS :=
  (sIf (tNot (tT (eN (cP f_is_history) (aCons (eVar 0) aNil)))) (sRaise 2) sSkip)
def f_need_history : PF := bodyP 1 1 s_need_history
def s_law_rule : SS :=
  (sSeq (sAsg (eTup (aCons (eN (cI i_law_take) (aCons (eVar 0) (aCons (eC (.int 3)) aNil))) (aCons (eN (cI i_law_of) (aCons (eVar 0) (aCons (eLst (aCons (eC (.str [115, 97, 109, 101])) (aCons (eC (.str [110, 101, 119])) aNil))) aNil))) (aCons (e2 oEq (eN (cI i_law_take) (aCons (eVar 0) (aCons (eC (.int 2)) aNil))) (eC (.int 1))) aNil)))) (TT.gName 1))
  (sSeq (sAsg (eTup (aCons (eN (cI i_law_of) (aCons (eVar 0) (aCons (eLst (aCons (eC .non) (aCons (eC .non) (aCons (eC (.int 0)) (aCons (eC (.int 1)) (aCons (eC (.int 2)) aNil)))))) aNil))) (aCons (eN (cI i_law_of) (aCons (eVar 0) (aCons (eLst (aCons (eC .non) (aCons (eC .non) (aCons (eC (.int 0)) (aCons (eC (.int 1)) (aCons (eC (.int 2)) aNil)))))) aNil))) aNil))) (TT.gName 2))
  (sRet (e2 oAdd (e2 oAdd (eVar 1) (eVar 2)) (eTup (aCons (e2 oAdd (eC (.int 1)) (eN (cI i_law_take) (aCons (eVar 0) (aCons (eC (.int 3)) aNil)))) (aCons (eN (cI i_law_of) (aCons (eVar 0) (aCons (eLst (aCons (eC (.str [114, 101, 102, 117, 115, 101])) (aCons (eC (.str [101, 110, 100])) aNil))) aNil))) aNil)))))))
def i_law_rule : IF := bodyI 3 1 s_law_rule
def s_law_history : SS :=
  (sSeq (sPar3 3 4 5 (aCons (eLstM aNil) (aCons (eLstM (aCons (eC (.bl true)) (aCons (eC (.bl false)) aNil))) (aCons (eLstM (aCons (eC (.bl false)) (aCons (eC (.bl false)) aNil))) aNil))))
  (sSeq (sFor (TT.iRng1 (eN (cI i_law_take) (aCons (eVar 0) (aCons (e2 oAdd (eVar 1) (eC (.int 1))) aNil)))) (TT.gName 6) (sSeq (sAsg (eN (cI i_law_of) (aCons (eVar 0) (aCons (eN (cI i_law_next_events) (aCons (eVar 4) (aCons (eVar 5) (aCons (eVar 2) aNil)))) aNil))) (TT.gName 7))
  (sSeq (sExpr (eM .list mAppend (eVar 3) (aCons (eVar 7) aNil)))
  (sIf (tV (e2 (oIn false) (eVar 7) (eLst (aCons (eC (.str [97, 98])) (aCons (eC (.str [98, 97])) aNil))))) (sSeq (sAsg (eC (.bl true)) (TT.gSub (eVar 4) (eM .str mIndexS (eC (.str [98, 97])) (aCons (e2 oIx (eVar 7) (eC (.int 0))) aNil))))
  (sAsg (eC (.bl false)) (TT.gSub (eVar 5) (eM .str mIndexS (eC (.str [98, 97])) (aCons (e2 oIx (eVar 7) (eC (.int 0))) aNil))))) (sIf (tAnd (tV (e2 (oIn false) (e2 oIx (eVar 7) (eC (.int 1))) (eC (.str [126, 43])))) (tV (e2 oNe (eVar 7) (eC (.str [46, 46]))))) (sAsg (e2 oEq (e2 oIx (eVar 7) (eC (.int 1))) (eC (.str [126]))) (TT.gSub (eVar 5) (eM .str mIndexS (eC (.str [97, 98])) (aCons (e2 oIx (eVar 7) (eC (.int 0))) aNil)))) sSkip)))))
  (sRet (eN fTuple (aCons (eVar 3) aNil)))))
def i_law_history : IF := bodyI 8 3 s_law_history
def s_run : SS :=
  (sSeq (sExpr (eN (cX f_need_rule) (aCons (eVar 0) aNil)))
  (sSeq (sExpr (eN (cX f_need_history) (aCons (eVar 1) aNil)))
  sNever))
def f_run : PF := bodyP 3 3 s_run
def s_held : SS :=
  (sSeq (sExpr (eN (cX f_need_rule) (aCons (eVar 0) aNil)))
  (sSeq (sExpr (eN (cX f_need_history) (aCons (eVar 1) aNil)))
  sNever))
def f_held : PF := bodyP 3 3 s_held
def s_parting : SS :=
  (sSeq (sExpr (eN (cX f_need_rule) (aCons (eVar 0) aNil)))
  (sSeq (sExpr (eN (cX f_need_rule) (aCons (eVar 1) aNil)))
  sNever))
def f_parting : PF := bodyP 2 2 s_parting
def s_harder_history : SS :=
  (sSeq (sExpr (eN (cX f_need_rule) (aCons (eVar 0) aNil)))
  (sSeq (sExpr (eN (cX f_need_rule) (aCons (eVar 1) aNil)))
  sNever))
def f_harder_history : PF := bodyP 2 2 s_harder_history
def s_fewest_faults : SS :=
  (sSeq (sExpr (eN (cX f_need_rule) (aCons (eVar 0) aNil)))
  sNever)
def f_fewest_faults : PF := bodyP 2 2 s_fewest_faults
def s_fault_history : SS :=
  (sSeq (sExpr (eN (cX f_need_rule) (aCons (eVar 0) aNil)))
  sNever)
def f_fault_history : PF := bodyP 3 2 s_fault_history
def s_lost_share : SS :=
  (sSeq (sExpr (eN (cX f_need_rule) (aCons (eVar 0) aNil)))
  sNever)
def f_lost_share : PF := bodyP 1 1 s_lost_share
def s_lost_cycle : SS :=
  (sSeq (sExpr (eN (cX f_need_rule) (aCons (eVar 0) aNil)))
  sNever)
def f_lost_cycle : PF := bodyP 1 1 s_lost_cycle
def s_fewest_stands : SS :=
  (sSeq (sExpr (eN (cX f_need_rule) (aCons (eVar 0) aNil)))
  sNever)
def f_fewest_stands : PF := bodyP 1 1 s_fewest_stands
def s_alike : SS :=
  (sRet (e1 (oIs false .non) (eN (cX f_parting) (aCons (eVar 0) (aCons (eVar 1) aNil)))))
def f_alike : PF := bodyP 2 2 s_alike
def s_never_harder : SS :=
  (sRet (e1 (oIs false .non) (eN (cX f_harder_history) (aCons (eVar 0) (aCons (eVar 1) aNil)))))
def f_never_harder : PF := bodyP 2 2 s_never_harder
def t__law_error : Told := (.ite 1 (.ite 2 (.ret [98, 111, 116, 104]) (.ret [114, 117, 108, 101])) (.ite 2 (.ret [104, 105, 115, 116, 111, 114, 121]) (.ret [111, 116, 104, 101, 114])))
def q_lam : List Nat := [108, 97, 119, 46, 60, 108, 111, 99, 97, 108, 115, 62, 46, 60, 108, 97, 109, 98, 100, 97, 62]
def s_law (P : Nat) (A_run : Nat) (A_held : Nat) (A_alike : Nat) (A_parting : Nat) (A_never_harder : Nat) (A_harder_history : Nat) (A_fewest_faults : Nat) (A_fault_history : Nat) (A_lost_share : Nat) (A_lost_cycle : Nat) (A_fewest_stands : Nat) : SS :=
  (sSeq (sFor (TT.iRng1 (e2 oAdd (eN fMin (aCons (eN fLen (aCons (eVar 0) aNil)) (aCons (eC (.int 6)) aNil))) (eC (.int 1)))) (TT.gName 1) (sSeq (sAsg (eN (cI i_law_bag) (aCons (eVar 0) (aCons (eVar 1) aNil))) (TT.gName 2))
  (sSeq (sAsg (eTup (aCons (eN (cI i_law_rule) (aCons (eVar 2) aNil)) (aCons (eN (cI i_law_history) (aCons (eVar 2) (aCons (eC (.int 10)) (aCons (eC (.str [97, 108, 108])) aNil)))) aNil))) (TT.gTup [3, 4]))
  (sSeq (sAsg (eN (cI i_law_of) (aCons (eVar 2) (aCons (eLst (aCons (eC .non) (aCons (eTup aNil) (aCons (eSlH (eC (.int 6)) (eVar 3)) (aCons (eN fList (aCons (eVar 3) aNil)) (aCons (e2 oAdd (eVar 3) (eTup (aCons (eC (.int 0)) aNil))) (aCons (e2 oAdd (eTup (aCons (eC (.int 3)) aNil)) (eSlL (eC (.int 1)) (eVar 3))) (aCons (e2 oAdd (eSlH (eC (.int 6)) (eVar 3)) (eTup (aCons (eC (.str [115, 116, 111, 112])) aNil))) aNil)))))))) aNil))) (TT.gName 5))
  (sSeq (sAsg (eN (cI i_law_of) (aCons (eVar 2) (aCons (eLst (aCons (eC .non) (aCons (eC (.str [97, 33])) (aCons (eN fList (aCons (eVar 4) aNil)) (aCons (eTup (aCons (eC (.str [98, 33])) aNil)) (aCons (e2 oAdd (eVar 4) (e2 oMul (eTup (aCons (eC (.str [98, 43])) aNil)) (eC (.int 2)))) (aCons (e2 oAdd (eVar 4) (eTup (aCons (eC (.str [99, 33])) aNil))) (aCons (eTup (aCons (eC (.int 1)) aNil)) aNil)))))))) aNil))) (TT.gName 6))
  (sSeq (sFor (iL (eLst (aCons (eC (.fn A_fewest_faults)) (aCons (eC (.fn A_fault_history)) (aCons (eC (.fn A_lost_share)) (aCons (eC (.fn A_lost_cycle)) (aCons (eC (.fn A_fewest_stands)) aNil))))))) (TT.gName 7) (sIf (tV (e2 oNe (eTold P q_lam t__law_error [110, 111, 110, 101] [1, 2] (eCallV [(A_fewest_faults, fun xs m => cX f_fewest_faults (xs ++ [(.bl false)]) m), (A_fault_history, fun xs m => cX f_fault_history (xs ++ [(.bl false)]) m), (A_lost_share, fun xs m => cX f_lost_share (xs ++ []) m), (A_lost_cycle, fun xs m => cX f_lost_cycle (xs ++ []) m), (A_fewest_stands, fun xs m => cX f_fewest_stands (xs ++ []) m)] (eVar 7) (aCons (eVar 5) aNil))) (eC (.str [114, 117, 108, 101])))) (sRet (eC (.bl false))) sSkip))
  (sSeq (sFor (iL (eLst (aCons (eC (.fn A_run)) (aCons (eC (.fn A_held)) aNil)))) (TT.gName 7) (sSeq (sIf (tV (e2 oNe (eTold P q_lam t__law_error [110, 111, 110, 101] [1, 2] (eCallV [(A_run, fun xs m => cX f_run (xs ++ [(.bl false)]) m), (A_held, fun xs m => cX f_held (xs ++ [(.bl false)]) m)] (eVar 7) (aCons (eVar 5) (aCons (eVar 6) aNil)))) (eC (.str [114, 117, 108, 101])))) (sRet (eC (.bl false))) sSkip)
  (sIf (tV (e2 oNe (eTold P q_lam t__law_error [110, 111, 110, 101] [1, 2] (eCallV [(A_run, fun xs m => cX f_run (xs ++ [(.bl false)]) m), (A_held, fun xs m => cX f_held (xs ++ [(.bl false)]) m)] (eVar 7) (aCons (eVar 3) (aCons (eVar 6) aNil)))) (eC (.str [104, 105, 115, 116, 111, 114, 121])))) (sRet (eC (.bl false))) sSkip)))
  (sFor (iL (eLst (aCons (eC (.fn A_alike)) (aCons (eC (.fn A_parting)) (aCons (eC (.fn A_never_harder)) (aCons (eC (.fn A_harder_history)) aNil)))))) (TT.gName 7) (sSeq (sIf (tV (e2 oNe (eTold P q_lam t__law_error [110, 111, 110, 101] [1, 2] (eCallV [(A_alike, fun xs m => cX f_alike (xs ++ []) m), (A_parting, fun xs m => cX f_parting (xs ++ []) m), (A_never_harder, fun xs m => cX f_never_harder (xs ++ []) m), (A_harder_history, fun xs m => cX f_harder_history (xs ++ []) m)] (eVar 7) (aCons (eVar 5) (aCons (eVar 3) aNil)))) (eC (.str [114, 117, 108, 101])))) (sRet (eC (.bl false))) sSkip)
  (sIf (tV (e2 oNe (eTold P q_lam t__law_error [110, 111, 110, 101] [1, 2] (eCallV [(A_alike, fun xs m => cX f_alike (xs ++ []) m), (A_parting, fun xs m => cX f_parting (xs ++ []) m), (A_never_harder, fun xs m => cX f_never_harder (xs ++ []) m), (A_harder_history, fun xs m => cX f_harder_history (xs ++ []) m)] (eVar 7) (aCons (eVar 3) (aCons (eVar 5) aNil)))) (eC (.str [114, 117, 108, 101])))) (sRet (eC (.bl false))) sSkip))))))))))
  (sRet (eC (.bl true))))
end TT
end

section
set_option linter.all false
set_option autoImplicit false
namespace TT
/-! the law's own helpers: a bag of draws -/
theorem take_ok {m : Mm} {b : Nat} {a s c : Int} (h : m[b]? = some (.lst [.int a, .int s])) (h0 : 0 < c) (h1 : c < 1073741824) :
    ∃ r a' s' : Int, 0 ≤ r ∧ r < c ∧ i_law_take [.ref b, .int c] m = .ok (.int r, m.set b (.lst [.int a', .int s'])) := by
  by_cases ha : 0 < a
  · refine ⟨a % c, a / c, s, Int.emod_nonneg _ (by omega), Int.emod_lt_of_pos _ h0, ?_⟩
    simp [i_law_take, bodyI, s_law_take, startS, oIx_ref h, oSet_ref h, atI, ixN, ha, oMod_int, oFDiv_int, h0, h1, endF]
  · have hm := getset1 (o' := .lst [.int a, .int (s * 48271 % 2147483647)]) h
    have w1 : ∀ i : Int, within64 (i % 32749 + 17) = true := fun i => by
      have := Int.emod_nonneg i (show (32749 : Int) ≠ 0 by decide)
      have := Int.emod_lt_of_pos i (show (0 : Int) < 32749 by decide)
      simp only [within64, Bool.and_eq_true, decide_eq_true_eq]
      omega
    have w2 : within64 48271 = true := by decide
    refine ⟨_, a, s * 48271 % 2147483647, Int.emod_nonneg _ (by omega), Int.emod_lt_of_pos (?_ : Int) h0, ?_⟩
    rotate_left
    · simp [i_law_take, bodyI, s_law_take, startS, oIx_ref h, oSet_ref h, atI, ixN, ha, oMod_int, oFDiv_int, h0, h1, endF, oMul_int, w2, oIx_ref hm, w1]
      rfl
theorem of_ok {m : Mm} {b : Nat} {a s : Int} {xs : List PV} (h : m[b]? = some (.lst [.int a, .int s])) (h0 : 0 < xs.length) (h1 : xs.length < 1073741824) :
    ∃ x ∈ xs, ∃ a' s' : Int, i_law_of [.ref b, .vl xs] m = .ok (x, m.set b (.lst [.int a', .int s'])) := by
  obtain ⟨r, a', s', r0, r1, e⟩ := take_ok (c := xs.length) h (by omega) (by omega)
  obtain ⟨x, hx, hat⟩ := atI_lt r0 r1
  refine ⟨x, hx, a', s', ?_⟩
  simp [i_law_of, bodyI, s_law_of, startS, cI, e, oIx_vl hat, endF]
theorem bag_ok {m : Mm} {xs : List PV} {k : Int} (hk : 0 ≤ k) (hk2 : k < 1000) (hx : ∀ x ∈ xs, ∃ i, x = .int i) :
    ∃ a s : Int, i_law_bag [.fz xs, .int k] m = .ok (.ref m.length, m ++ [.lst [.int a, .int s]]) := by
  have w1 : within64 16807 = true := by decide
  have w2 : within64 40009 = true := by decide
  have w3 : within64 k = true := by simp only [within64, Bool.and_eq_true, decide_eq_true_eq]; omega
  have w4 : within64 7919 = true := by decide
  obtain ⟨M, p3, p1⟩ : ∃ M : Int, 0 < M ∧ oPow (.int 10) (.int 60) m = .ok (.int M, m) := ⟨10 ^ 60, by decide, rfl⟩
  obtain ⟨L, p4, p2⟩ : ∃ M : Int, 0 < M ∧ oPow (.int 10) (.int 18) m = .ok (.int M, m) := ⟨10 ^ 18, by decide, rfl⟩
  by_cases h : k < xs.length
  · obtain ⟨x, hm, hat⟩ := atI_lt hk h
    obtain ⟨i, rfl⟩ := hx x hm
    by_cases hc : i % M < L
    · simp only [i_law_bag, bodyI, s_law_bag]
      simp [startS, h, oIx_fz hat, p1, p2, p3, oMod_int, oMul_int, w1, w2, w3, w4, hc, endF]
    · simp only [i_law_bag, bodyI, s_law_bag]
      simp [startS, h, oIx_fz hat, p1, p2, p3, oMod_int, oMul_int, w1, w2, w3, w4, hc, endF]
  · simp only [i_law_bag, bodyI, s_law_bag]
    simp [startS, h, p1, p2, p3, oMod_int, oMul_int, w1, w2, w3, w4, p4, endF]

/-- a rule, as the law draws it -/
structure Rule where
  keep : Int
  new : Bool
  strict : Bool
  leeway : Option Int
  spare : Option Int
  every : Int
  fin : Bool
def encO : Option Int → PV
  | none => .non
  | some i => .int i
def sSame : List Nat := [115, 97, 109, 101]
def sNew : List Nat := [110, 101, 119]
def sRefuse : List Nat := [114, 101, 102, 117, 115, 101]
def sEnd : List Nat := [101, 110, 100]
def Rule.parts (R : Rule) : List PV := [.int R.keep, .str (if R.new then sNew else sSame), .bl R.strict, encO R.leeway, encO R.spare, .int R.every, .str (if R.fin then sEnd else sRefuse)]
def Rule.enc (R : Rule) : PV := .tup R.parts
structure Rule.Ok (R : Rule) : Prop where
  keep : 0 ≤ R.keep ∧ R.keep ≤ 2
  leeway : R.leeway = none ∨ ∃ i, R.leeway = some i ∧ 0 ≤ i ∧ i ≤ 2
  spare : R.spare = none ∨ ∃ i, R.spare = some i ∧ 0 ≤ i ∧ i ≤ 2
  every : 1 ≤ R.every ∧ R.every ≤ 3
theorem menu2 {x : PV} {u v : List Nat} (h : x ∈ [PV.str u, PV.str v]) : ∃ k : Bool, x = .str (if k then v else u) := by
  simp only [List.mem_cons, List.mem_nil_iff, or_false] at h
  rcases h with h | h
  · exact ⟨false, by simp [h]⟩
  · exact ⟨true, by simp [h]⟩
theorem menuO {x : PV} (h : x ∈ [PV.non, PV.non, PV.int 0, PV.int 1, PV.int 2]) : ∃ o : Option Int, x = encO o ∧ (o = none ∨ ∃ i, o = some i ∧ 0 ≤ i ∧ i ≤ 2) := by
  simp only [List.mem_cons, List.mem_nil_iff, or_false] at h
  rcases h with h | h | h | h | h
  · exact ⟨none, h, .inl rfl⟩
  · exact ⟨none, h, .inl rfl⟩
  · exact ⟨some 0, h, .inr ⟨0, rfl, by decide, by decide⟩⟩
  · exact ⟨some 1, h, .inr ⟨1, rfl, by decide, by decide⟩⟩
  · exact ⟨some 2, h, .inr ⟨2, rfl, by decide, by decide⟩⟩
theorem rule_ok {m : Mm} {b : Nat} {a s : Int} (h : m[b]? = some (.lst [.int a, .int s])) :
    ∃ R : Rule, R.Ok ∧ ∃ a' s' : Int, i_law_rule [.ref b] m = .ok (R.enc, m.set b (.lst [.int a', .int s'])) := by
  obtain ⟨r0, a0, s0, p0, q0, e0⟩ := take_ok (c := 3) h (by decide) (by decide)
  have h0 := getset1 (o' := .lst [.int a0, .int s0]) h
  obtain ⟨x1, m1, a1, s1, e1⟩ := of_ok (xs := [.str sSame, .str sNew]) h0 (by decide) (by decide)
  have h1 := getset1 (o' := .lst [.int a1, .int s1]) h0
  obtain ⟨r2, a2, s2, p2, q2, e2⟩ := take_ok (c := 2) h1 (by decide) (by decide)
  have h2 := getset1 (o' := .lst [.int a2, .int s2]) h1
  obtain ⟨x3, m3, a3, s3, e3⟩ := of_ok (xs := [.non, .non, .int 0, .int 1, .int 2]) h2 (by decide) (by decide)
  have h3 := getset1 (o' := .lst [.int a3, .int s3]) h2
  obtain ⟨x4, m4, a4, s4, e4⟩ := of_ok (xs := [.non, .non, .int 0, .int 1, .int 2]) h3 (by decide) (by decide)
  have h4 := getset1 (o' := .lst [.int a4, .int s4]) h3
  obtain ⟨r5, a5, s5, p5, q5, e5⟩ := take_ok (c := 3) h4 (by decide) (by decide)
  have h5 := getset1 (o' := .lst [.int a5, .int s5]) h4
  obtain ⟨x6, m6, a6, s6, e6⟩ := of_ok (xs := [.str sRefuse, .str sEnd]) h5 (by decide) (by decide)
  obtain ⟨k1, rfl⟩ := menu2 m1
  obtain ⟨o3, rfl, f3⟩ := menuO m3
  obtain ⟨o4, rfl, f4⟩ := menuO m4
  obtain ⟨k6, rfl⟩ := menu2 m6
  simp only [List.set_set] at e0 e1 e2 e3 e4 e5 e6
  refine ⟨⟨r0, k1, r2 == 1, o3, o4, 1 + r5, k6⟩, ⟨⟨p0, by show r0 ≤ 2; omega⟩, f3, f4, ⟨by show 1 ≤ 1 + r5; omega, by show 1 + r5 ≤ 3; omega⟩⟩, a6, s6, ?_⟩
  simp only [i_law_rule, bodyI, s_law_rule]
  simp only [sSame, sNew, sRefuse, sEnd] at e1 e6 ⊢
  simp [startS, cI, e0, e1, e2, e3, e4, e5, e6, oAdd_tup, LINE, endF, Rule.enc, Rule.parts, sSame, sNew, sRefuse, sEnd]
end TT
end

section
set_option linter.all false
set_option autoImplicit false
namespace TT
/-! ### events -/
inductive Ev where
  | tick
  | copy (h : Bool)
  | ask (h : Bool)
  | drop (h : Bool)
  | late (h : Bool)
  | got (h : Bool)
def hc (h : Bool) : Nat := if h then 98 else 97
def Ev.code : Ev → List Nat
  | .tick => [46, 46]
  | .copy h => [hc h, hc (!h)]
  | .ask h => [hc h, 33]
  | .drop h => [hc h, 45]
  | .late h => [hc h, 126]
  | .got h => [hc h, 43]
def Ev.enc (e : Ev) : PV := .str e.code
/-- who holds, who waits -/
structure Hs where
  a : Bool
  b : Bool
  wa : Bool
  wb : Bool
def Hs.has (s : Hs) (h : Bool) : Bool := if h then s.b else s.a
def Hs.waits (s : Hs) (h : Bool) : Bool := if h then s.wb else s.wa
def Hs.setW (s : Hs) (h w : Bool) : Hs := if h then { s with wb := w } else { s with wa := w }
def Hs.setH (s : Hs) (h w : Bool) : Hs := if h then { s with b := w } else { s with a := w }
def Hs.ok (s : Hs) : Ev → Bool
  | .tick => true
  | .copy h => s.has h
  | .ask h => s.has h
  | .drop h => s.has h
  | .late h => s.has h
  | .got h => s.has h && s.waits h
def Hs.step (s : Hs) : Ev → Hs
  | .tick => s
  | .copy h => (s.setH (!h) true).setW (!h) false
  | .ask _ => s
  | .drop _ => s
  | .late h => s.setW h true
  | .got h => s.setW h false
def Hs.all (s : Hs) : List Ev → Bool
  | [] => true
  | e :: es => s.ok e && (s.step e).all es
def hs0 : Hs := ⟨true, false, false, false⟩
theorem idxS (h : Bool) (m : Mm) : mIndexS (.str [97, 98]) [.str [hc h]] m = .ok (.int (b2i h), m) := by cases h <;> rfl
theorem idxR (h : Bool) (m : Mm) : mIndexS (.str [98, 97]) [.str [hc h]] m = .ok (.int (b2i (!h)), m) := by cases h <;> rfl
theorem findS (h : Bool) (m : Mm) : mFindS (.str [97, 98]) [.str [hc h]] m = .ok (.int (b2i h), m) := by cases h <;> rfl
theorem is_event_ok (e : Ev) : f_is_event [e.enc] = .ok (.bl true) := by
  cases e with
  | tick => rfl
  | copy h => cases h <;> rfl
  | ask h => cases h <;> rfl
  | drop h => cases h <;> rfl
  | late h => cases h <;> rfl
  | got h => cases h <;> rfl
theorem evs_pu : ∀ es : List Ev, pus (es.map Ev.enc) = true
  | [] => rfl
  | e :: es => by simp [Ev.enc, evs_pu es]
def histB : SS := (sSeq (sIf (tNot (tT (eN (cP f_is_event) (aCons (eVar 3) aNil)))) (sRet (eC (.bl false))) sSkip)
  (sSeq (sIf (tV (e2 oEq (eVar 3) (eC c_TICK))) sCont sSkip)
  (sSeq (sAsg (eM .str mIndexS (eC c_HOLDERS) (aCons (e2 oIx (eVar 3) (eC (.int 0))) aNil)) (TT.gName 4))
  (sSeq (sIf (tOr (tNot (tT (e2 oIx (eVar 1) (eVar 4)))) (tAnd (tV (e2 oEq (e2 oIx (eVar 3) (eC (.int 1))) (eC (.str [43])))) (tNot (tT (e2 oIx (eVar 2) (eVar 4)))))) (sRet (eC (.bl false))) sSkip)
  (sIf (tV (e2 (oIn false) (e2 oIx (eVar 3) (eC (.int 1))) (eC c_HOLDERS))) (sSeq (sAsg (eC (.bl true)) (TT.gSub (eVar 1) (e2 oSub (eC (.int 1)) (eVar 4))))
  (sAsg (eC (.bl false)) (TT.gSub (eVar 2) (e2 oSub (eC (.int 1)) (eVar 4))))) (sIf (tV (e2 (oIn false) (e2 oIx (eVar 3) (eC (.int 1))) (eC (.str [126, 43])))) (sAsg (e2 oEq (e2 oIx (eVar 3) (eC (.int 1))) (eC (.str [126]))) (TT.gSub (eVar 2) (eVar 4))) sSkip))))))
def hmem (s : Hs) : Mm := [.lst [.bl s.a, .bl s.b], .lst [.bl s.wa, .bl s.wb]]
theorem hist_turn (s : Hs) (e : Ev) (hk : s.ok e = true) (x0 x4 : Option PV) : ∃ f x4', (f = .nx ∨ f = .ct) ∧ histB [x0, some (.ref 0), some (.ref 1), some e.enc, x4] (hmem s) = .ok (f, [x0, some (.ref 0), some (.ref 1), some e.enc, x4'], hmem (s.step e)) := by
  obtain ⟨a, b, wa, wb⟩ := s
  cases e with
  | tick => exact ⟨.ct, x4, .inr rfl, rfl⟩
  | copy h => cases h <;> cases a <;> cases b <;> first | exact ⟨.nx, some (.int 0), .inl rfl, rfl⟩ | exact ⟨.nx, some (.int 1), .inl rfl, rfl⟩ | exact nomatch hk
  | ask h => cases h <;> cases a <;> cases b <;> first | exact ⟨.nx, some (.int 0), .inl rfl, rfl⟩ | exact ⟨.nx, some (.int 1), .inl rfl, rfl⟩ | exact nomatch hk
  | drop h => cases h <;> cases a <;> cases b <;> first | exact ⟨.nx, some (.int 0), .inl rfl, rfl⟩ | exact ⟨.nx, some (.int 1), .inl rfl, rfl⟩ | exact nomatch hk
  | late h => cases h <;> cases a <;> cases b <;> first | exact ⟨.nx, some (.int 0), .inl rfl, rfl⟩ | exact ⟨.nx, some (.int 1), .inl rfl, rfl⟩ | exact nomatch hk
  | got h => cases h <;> cases a <;> cases b <;> cases wa <;> cases wb <;> first | exact ⟨.nx, some (.int 0), .inl rfl, rfl⟩ | exact ⟨.nx, some (.int 1), .inl rfl, rfl⟩ | exact nomatch hk
theorem hist_loop : ∀ (es : List Ev) (s : Hs) (x0 x3 x4 : Option PV), s.all es = true → ∃ x3' x4' s', forL (gName 3) histB (es.map Ev.enc) [x0, some (.ref 0), some (.ref 1), x3, x4] (hmem s) = .ok (.nx, [x0, some (.ref 0), some (.ref 1), x3', x4'], hmem s')
  | [], s, x0, x3, x4, _ => ⟨x3, x4, s, rfl⟩
  | e :: es, s, x0, x3, x4, h => by
    simp only [Hs.all, Bool.and_eq_true] at h
    obtain ⟨f, y4, hf, e1⟩ := hist_turn s e h.1 x0 x4
    obtain ⟨z3, z4, s', e2⟩ := hist_loop es (s.step e) x0 (some e.enc) y4 h.2
    refine ⟨z3, z4, s', ?_⟩
    rw [List.map_cons, forL_cons]
    rcases hf with rfl | rfl <;> simp [e1, e2]
theorem is_history_ok {es : List Ev} (h : hs0.all es = true) (hl : es.length ≤ 40) : f_is_history [.tup (es.map Ev.enc)] = .ok (.bl true) := by
  obtain ⟨x3, x4, s', e⟩ := hist_loop es hs0 (some (.tup (es.map Ev.enc))) none none h
  have ha : ∀ m, oIsA .tTup (.tup (es.map Ev.enc)) m = .ok (.bl true, m) := fun m => rfl
  have hn : ¬ (40 : Int) < es.length := by omega
  have hs : s_is_history = (sSeq (sIf (tOr (tNot (tT (e1 (oIsA .tTup) (eVar 0)))) (tV (e2 oGt (eN fLen (aCons (eVar 0) aNil)) (eC c_MOST_EVENTS)))) (sRet (eC (.bl false))) sSkip)
    (sSeq (sAsg (eLstM (aCons (eC (.bl true)) (aCons (eC (.bl false)) aNil))) (TT.gName 1))
    (sSeq (sAsg (eLstM (aCons (eC (.bl false)) (aCons (eC (.bl false)) aNil))) (TT.gName 2))
    (sSeq (sFor (iT (eVar 0)) (TT.gName 3) histB)
    (sRet (eC (.bl true))))))) := rfl
  simp only [f_is_history, bodyP, bodyI, hs, startS]
  simp only [hmem, hs0] at e
  simp [ha, c_MOST_EVENTS, hn, sFor_ap, e, endF]
section
variable {h : Bool} {m : Mm}
theorem tyS {z : List Nat} : tyOk m .str (.str z) = true := rfl
theorem hc46 : (hc h = 46) = False := by cases h <;> simp [hc]
theorem ev0 {x : Nat} : oIx (.str [hc h, x]) (.int 0) m = .ok (.str [hc h], m) := rfl
theorem ev1 {x y : Nat} : oIx (.str [x, y]) (.int 1) m = .ok (.str [y], m) := rfl
theorem inC {x : Nat} (hx : x = 33 ∨ x = 45 ∨ x = 126 ∨ x = 43) : oIn false (.str [hc h, x]) (.vl [.str [97, 98], .str [98, 97]]) m = .ok (.bl false, m) := by
  rcases hx with rfl | rfl | rfl | rfl <;> cases h <;> rfl
theorem inC2 : oIn false (.str [hc h, hc (!h)]) (.vl [.str [97, 98], .str [98, 97]]) m = .ok (.bl true, m) := by cases h <;> rfl
end
end TT
end

section
set_option linter.all false
set_option autoImplicit false
namespace TT
/-! ### histories, as the law draws them -/
def sAlone : List Nat := [97, 108, 111, 110, 101]
def sPlain : List Nat := [112, 108, 97, 105, 110]
def sAll : List Nat := [97, 108, 108]
/-- 0 alone, 1 plain, 2 all -/
def kindS : Fin 3 → List Nat
  | 0 => sAlone
  | 1 => sPlain
  | 2 => sAll
def nextOf (has waits alone plain h : Bool) : List Ev :=
  if has && (!h || !alone) then [.ask h, .ask h, .drop h] ++ (if plain then [] else .late h :: if waits then [.got h] else []) ++ (if alone then [] else [.copy h]) else []
def nextEv (s : Hs) (alone plain : Bool) : List Ev := .tick :: (nextOf s.a s.wa alone plain false ++ nextOf s.b s.wb alone plain true)
theorem next_fits (s : Hs) (alone plain : Bool) : ∀ e ∈ nextEv s alone plain, s.ok e = true := by
  obtain ⟨a, b, wa, wb⟩ := s
  cases a <;> cases b <;> cases wa <;> cases wb <;> cases alone <;> cases plain <;> (intro e he; simp [nextEv, nextOf] at he; rcases he with rfl | he <;> (try rfl) <;> (repeat (rcases he with rfl | he <;> (try rfl))) <;> (try subst he) <;> (try rfl))
theorem next_len (s : Hs) (alone plain : Bool) : 0 < ((nextEv s alone plain).map Ev.enc).length ∧ ((nextEv s alone plain).map Ev.enc).length ≤ 13 := by
  obtain ⟨a, b, wa, wb⟩ := s
  cases a <;> cases b <;> cases wa <;> cases wb <;> cases alone <;> cases plain <;> exact ⟨by decide, by decide⟩
set_option maxHeartbeats 4000000 in
theorem next_ok {s : Hs} {m : Mm} {t w : Nat} (kd : List Nat) (alone plain : Bool) (ha : (!(kd == sAlone)) = !alone) (hp : (!(kd == sPlain)) = !plain) (h1 : m[t]? = some (.lst [.bl s.a, .bl s.b])) (h2 : m[w]? = some (.lst [.bl s.wa, .bl s.wb])) :
    i_law_next_events [.ref t, .ref w, .str kd] m = .ok (.vl ((nextEv s alone plain).map Ev.enc), m) := by
  have t0 : oIx (.ref t) (.int 0) m = .ok (.bl s.a, m) := oIx_ref h1 rfl
  have t1 : oIx (.ref t) (.int 1) m = .ok (.bl s.b, m) := oIx_ref h1 rfl
  have w0 : oIx (.ref w) (.int 0) m = .ok (.bl s.wa, m) := oIx_ref h2 rfl
  have w1 : oIx (.ref w) (.int 1) m = .ok (.bl s.wb, m) := oIx_ref h2 rfl
  have c0 : oIx (.str [97, 98]) (.int 0) m = .ok (.str [97], m) := rfl
  have c1 : oIx (.str [97, 98]) (.int 1) m = .ok (.str [98], m) := rfl
  have sl0 : oSlice (some 0) (some 1) (.vl [.str [97, 98], .str [98, 97]]) m = .ok (.vl [.str [97, 98]], m) := rfl
  have sl1 : oSlice (some 1) (some 2) (.vl [.str [97, 98], .str [98, 97]]) m = .ok (.vl [.str [98, 97]], m) := rfl
  have mu : ∀ (x : List Nat) (b : Bool), oMul (.vl [.str x]) (.int (b2i b)) m = .ok (.vl (if b then [.str x] else []), m) := fun x b => by cases b <;> rfl
  have na : ∀ m, oNe (.str kd) (.str [97, 108, 111, 110, 101]) m = .ok (.bl (!alone), m) := fun m => by rw [oNe_str]; exact congrArg (fun b => Rs.ok (PV.bl b, m)) ha
  have np : ∀ m, oNe (.str kd) (.str [112, 108, 97, 105, 110]) m = .ok (.bl (!plain), m) := fun m => by rw [oNe_str]; exact congrArg (fun b => Rs.ok (PV.bl b, m)) hp
  have rr : iRng1 (eC (.int 2)) = fun s m => .ok ([.int 0, .int 1], m) := by funext s m; rfl
  obtain ⟨a, b, wa, wb⟩ := s
  simp only at t0 t1 w0 w1
  simp only [i_law_next_events, bodyI, s_law_next_events, startS, rr, sFor_ap]
  cases a <;> cases b <;> cases wa <;> cases wb <;> cases alone <;> cases plain <;> simp [sFor_ap, forL_cons, t0, t1, w0, w1, c0, c1, sl0, sl1, mu, na, np, oAdd_vl, oAdd_str, LINE, endF, nextEv, nextOf, Ev.enc, Ev.code, hc]
end TT
end

section
set_option linter.all false
set_option autoImplicit false
namespace TT
def Hs.run (s : Hs) : List Ev → Hs
  | [] => s
  | e :: es => (s.step e).run es
theorem all_snoc : ∀ (es : List Ev) (s : Hs) (e : Ev), s.all es = true → (s.run es).ok e = true → s.all (es ++ [e]) = true
  | [], s, e, _, h => by simp [Hs.all]; exact h
  | x :: es, s, e, h1, h2 => by
    simp only [Hs.all, Bool.and_eq_true] at h1
    simp only [List.cons_append, Hs.all, Bool.and_eq_true]
    exact ⟨h1.1, all_snoc es (s.step x) e h1.2 h2⟩
theorem run_snoc : ∀ (es : List Ev) (s : Hs) (e : Ev), s.run (es ++ [e]) = (s.run es).step e
  | [], s, e => rfl
  | x :: es, s, e => run_snoc es (s.step x) e
def histT : SS := (sSeq (sAsg (eN (cI i_law_of) (aCons (eVar 0) (aCons (eN (cI i_law_next_events) (aCons (eVar 4) (aCons (eVar 5) (aCons (eVar 2) aNil)))) aNil))) (TT.gName 7))
  (sSeq (sExpr (eM .list mAppend (eVar 3) (aCons (eVar 7) aNil)))
  (sIf (tV (e2 (oIn false) (eVar 7) (eLst (aCons (eC (.str [97, 98])) (aCons (eC (.str [98, 97])) aNil))))) (sSeq (sAsg (eC (.bl true)) (TT.gSub (eVar 4) (eM .str mIndexS (eC (.str [98, 97])) (aCons (e2 oIx (eVar 7) (eC (.int 0))) aNil))))
  (sAsg (eC (.bl false)) (TT.gSub (eVar 5) (eM .str mIndexS (eC (.str [98, 97])) (aCons (e2 oIx (eVar 7) (eC (.int 0))) aNil))))) (sIf (tAnd (tV (e2 (oIn false) (e2 oIx (eVar 7) (eC (.int 1))) (eC (.str [126, 43])))) (tV (e2 oNe (eVar 7) (eC (.str [46, 46]))))) (sAsg (e2 oEq (e2 oIx (eVar 7) (eC (.int 1))) (eC (.str [126]))) (TT.gSub (eVar 5) (eM .str mIndexS (eC (.str [97, 98])) (aCons (e2 oIx (eVar 7) (eC (.int 0))) aNil)))) sSkip))))
/-- the memory while a history is drawn -/
structure HM (m : Mm) (b f : Nat) (es : List Ev) : Prop where
  bag : ∃ a s : Int, m[b]? = some (.lst [.int a, .int s])
  fnd : m[f]? = some (.lst (es.map Ev.enc))
  thr : m[f + 1]? = some (.lst [.bl (hs0.run es).a, .bl (hs0.run es).b])
  wts : m[f + 2]? = some (.lst [.bl (hs0.run es).wa, .bl (hs0.run es).wb])
  lt : b < f
theorem set_same {m : Mm} {i j : Nat} {o : Ob} (h : i ≠ j) : (m.set i o)[j]? = m[j]? := List.getElem?_set_ne h
theorem hist_turn2 {m : Mm} {b f : Nat} {es : List Ev} (kd : List Nat) (alone plain : Bool) (ha : (!(kd == sAlone)) = !alone) (hp : (!(kd == sPlain)) = !plain) (H : HM m b f es) (hall : hs0.all es = true) (hl : es.length < 100) (x1 x6 x7 : Option PV) :
    ∃ (e : Ev) (m' : Mm), histT [some (.ref b), x1, some (.str kd), some (.ref f), some (.ref (f + 1)), some (.ref (f + 2)), x6, x7] m = .ok (.nx, [some (.ref b), x1, some (.str kd), some (.ref f), some (.ref (f + 1)), some (.ref (f + 2)), x6, some e.enc], m') ∧ HM m' b f (es ++ [e]) ∧ hs0.all (es ++ [e]) = true ∧ ∀ i, i < f → i ≠ b → m'[i]? = m[i]? := by
  obtain ⟨⟨a, s, hb⟩, h1, h2, h3, hlt⟩ := H
  have nx := next_ok kd alone plain ha hp h2 h3
  obtain ⟨n1, n2⟩ := next_len (hs0.run es) alone plain
  obtain ⟨x, hx, a', s', eo⟩ := of_ok (xs := (nextEv (hs0.run es) alone plain).map Ev.enc) hb n1 (by omega)
  obtain ⟨e, he, rfl⟩ := List.mem_map.mp hx
  have hok := next_fits _ _ _ e he
  have hall2 := all_snoc es hs0 e hall hok
  have hrun := run_snoc es hs0 e
  generalize hs0.run es = S at *
  obtain ⟨m1, hm1⟩ : ∃ m1, m1 = m.set b (.lst [.int a', .int s']) := ⟨_, rfl⟩
  rw [← hm1] at eo
  have k0 : m1[b]? = some (.lst [.int a', .int s']) := by rw [hm1]; exact getset1 hb
  have k1 : m1[f]? = some (.lst (es.map Ev.enc)) := by rw [hm1, set_same (by omega)]; exact h1
  have k2 : m1[f + 1]? = some (.lst [.bl S.a, .bl S.b]) := by rw [hm1, set_same (by omega)]; exact h2
  have k3 : m1[f + 2]? = some (.lst [.bl S.wa, .bl S.wb]) := by rw [hm1, set_same (by omega)]; exact h3
  have hlen : (es.map Ev.enc).length < LINE := by rw [List.length_map]; exact Nat.lt_trans hl (by decide)
  obtain ⟨m2, hm2⟩ : ∃ m2, m2 = m1.set f (.lst (es.map Ev.enc ++ [e.enc])) := ⟨_, rfl⟩
  have ap : mAppend (.ref f) [e.enc] m1 = .ok (.non, m2) := by rw [hm2]; exact mAppend_ref k1 hlen
  have q0 : m2[b]? = some (.lst [.int a', .int s']) := by rw [hm2, set_same (by omega)]; exact k0
  have q1 : m2[f]? = some (.lst ((es ++ [e]).map Ev.enc)) := by rw [hm2, getset1 k1, List.map_append]; rfl
  have q2 : m2[f + 1]? = some (.lst [.bl S.a, .bl S.b]) := by rw [hm2, set_same (by omega)]; exact k2
  have q3 : m2[f + 2]? = some (.lst [.bl S.wa, .bl S.wb]) := by rw [hm2, set_same (by omega)]; exact k3
  have oth : ∀ i, i < f → i ≠ b → m2[i]? = m[i]? := fun i h1 h2 => by rw [hm2, set_same (by omega), hm1, set_same (by omega)]
  have pre : ∀ X : SS, sSeq (sAsg (eN (cI i_law_of) (aCons (eVar 0) (aCons (eN (cI i_law_next_events) (aCons (eVar 4) (aCons (eVar 5) (aCons (eVar 2) aNil)))) aNil))) (TT.gName 7)) (sSeq (sExpr (eM .list mAppend (eVar 3) (aCons (eVar 7) aNil))) X) [some (.ref b), x1, some (.str kd), some (.ref f), some (.ref (f + 1)), some (.ref (f + 2)), x6, x7] m = X [some (.ref b), x1, some (.str kd), some (.ref f), some (.ref (f + 1)), some (.ref (f + 2)), x6, some e.enc] m2 := fun X => by
    simp [cI, nx, eo, tyOk_ref k1, ap]
  have sT : ∀ (h v : Bool), oSet (.ref (f + 1)) (.int (b2i h)) (.bl v) m2 = .ok (m2.set (f + 1) (.lst [.bl (S.setH h v).a, .bl (S.setH h v).b])) := fun h v => by
    cases h
    · exact oSet_ref (k := 0) (j := 0) q2 rfl
    · exact oSet_ref (k := 1) (j := 1) q2 rfl
  have sW : ∀ (m : Mm) (h v : Bool), m[f + 2]? = some (.lst [.bl S.wa, .bl S.wb]) → oSet (.ref (f + 2)) (.int (b2i h)) (.bl v) m = .ok (m.set (f + 2) (.lst [.bl (S.setW h v).wa, .bl (S.setW h v).wb])) := fun m h v hm => by
    cases h
    · exact oSet_ref (k := 0) (j := 0) hm rfl
    · exact oSet_ref (k := 1) (j := 1) hm rfl
  have fin : ∀ (m' : Mm), m'[b]? = m2[b]? → m'[f]? = m2[f]? → m'[f + 1]? = some (.lst [.bl (S.step e).a, .bl (S.step e).b]) → m'[f + 2]? = some (.lst [.bl (S.step e).wa, .bl (S.step e).wb]) → HM m' b f (es ++ [e]) := fun m' z0 z1 z2 z3 =>
    ⟨⟨a', s', z0.trans q0⟩, z1.trans q1, by rw [hrun]; exact z2, by rw [hrun]; exact z3, hlt⟩
  have in4 : ∀ (x : Nat) (m : Mm), (x = 33 ∨ x = 45) → oIn false (.str [x]) (.str [126, 43]) m = .ok (.bl false, m) := fun x m hx => by rcases hx with rfl | rfl <;> rfl
  unfold histT
  rw [pre]
  cases e with
  | tick =>
    refine ⟨.tick, m2, ?_, fin m2 rfl rfl q2 q3, hall2, oth⟩
    have i0 : ∀ m, oIn false (.str [46, 46]) (.vl [.str [97, 98], .str [98, 97]]) m = .ok (.bl false, m) := fun _ => rfl
    have i1 : ∀ m, oIn false (.str [46]) (.str [126, 43]) m = .ok (.bl false, m) := fun _ => rfl
    simp [Ev.enc, Ev.code, i0, i1, ev1]
  | copy h =>
    have w2 := sW (m2.set (f + 1) (.lst [.bl (S.setH (!h) true).a, .bl (S.setH (!h) true).b])) (!h) false (by rw [set_same (by omega)]; exact q3)
    refine ⟨.copy h, (m2.set (f + 1) (.lst [.bl (S.setH (!h) true).a, .bl (S.setH (!h) true).b])).set (f + 2) (.lst [.bl (S.setW (!h) false).wa, .bl (S.setW (!h) false).wb]), ?_, fin _ ?_ ?_ ?_ ?_, hall2, fun i h1 h2 => by rw [set_same (by omega), set_same (by omega)]; exact oth i h1 h2⟩
    · simp [Ev.enc, Ev.code, inC2, ev0, tyS, idxR, sT, w2]
    · rw [set_same (by omega), set_same (by omega)]
    · rw [set_same (by omega), set_same (by omega)]
    · rw [set_same (by omega), getset1 q2]; cases h <;> rfl
    · rw [getset1 (o := .lst [.bl S.wa, .bl S.wb]) (by rw [set_same (by omega)]; exact q3)]; cases h <;> rfl
  | ask h =>
    refine ⟨.ask h, m2, ?_, fin m2 rfl rfl q2 q3, hall2, oth⟩
    simp [Ev.enc, Ev.code, inC, in4, ev1]
  | drop h =>
    refine ⟨.drop h, m2, ?_, fin m2 rfl rfl q2 q3, hall2, oth⟩
    simp [Ev.enc, Ev.code, inC, in4, ev1]
  | late h =>
    have i1 : ∀ m, oIn false (.str [126]) (.str [126, 43]) m = .ok (.bl true, m) := fun _ => rfl
    refine ⟨.late h, m2.set (f + 2) (.lst [.bl (S.setW h true).wa, .bl (S.setW h true).wb]), ?_, fin _ ?_ ?_ ?_ ?_, hall2, fun i h1 h2 => by rw [set_same (by omega)]; exact oth i h1 h2⟩
    · simp [Ev.enc, Ev.code, inC, i1, ev0, ev1, tyS, idxS, hc46, sW m2 h true q3]
    · rw [set_same (by omega)]
    · rw [set_same (by omega)]
    · rw [set_same (by omega), q2]; cases h <;> rfl
    · rw [getset1 q3]; rfl
  | got h =>
    have i1 : ∀ m, oIn false (.str [43]) (.str [126, 43]) m = .ok (.bl true, m) := fun _ => rfl
    refine ⟨.got h, m2.set (f + 2) (.lst [.bl (S.setW h false).wa, .bl (S.setW h false).wb]), ?_, fin _ ?_ ?_ ?_ ?_, hall2, fun i h1 h2 => by rw [set_same (by omega)]; exact oth i h1 h2⟩
    · simp [Ev.enc, Ev.code, inC, i1, ev0, ev1, tyS, idxS, hc46, sW m2 h false q3]
    · rw [set_same (by omega)]
    · rw [set_same (by omega)]
    · rw [set_same (by omega), q2]; cases h <;> rfl
    · rw [getset1 q3]; rfl
theorem hist_loop2 (kd : List Nat) (alone plain : Bool) (ha : (!(kd == sAlone)) = !alone) (hp : (!(kd == sPlain)) = !plain) {b f : Nat} (x1 : Option PV) : ∀ (n : Nat) (lo : Int) (m : Mm) (es : List Ev) (x6 x7 : Option PV), HM m b f es → hs0.all es = true → es.length + n ≤ 100 →
    ∃ (es' : List Ev) (m' : Mm) (y6 y7 : Option PV), forL (gName 6) histT (rngL lo n) [some (.ref b), x1, some (.str kd), some (.ref f), some (.ref (f + 1)), some (.ref (f + 2)), x6, x7] m = .ok (.nx, [some (.ref b), x1, some (.str kd), some (.ref f), some (.ref (f + 1)), some (.ref (f + 2)), y6, y7], m') ∧ HM m' b f es' ∧ hs0.all es' = true ∧ es'.length = es.length + n ∧ ∀ i, i < f → i ≠ b → m'[i]? = m[i]?
  | 0, lo, m, es, x6, x7, H, h, _ => ⟨es, m, x6, x7, rfl, H, h, rfl, fun _ _ _ => rfl⟩
  | n + 1, lo, m, es, x6, x7, H, h, hl => by
    obtain ⟨e, m1, e1, H1, h1, o1⟩ := hist_turn2 kd alone plain ha hp H h (by omega) x1 (some (.int lo)) x7
    obtain ⟨es', m2, y6, y7, e2, H2, h2, l2, o2⟩ := hist_loop2 kd alone plain ha hp x1 n (lo + 1) m1 (es ++ [e]) (some (.int lo)) (some e.enc) H1 h1 (by rw [List.length_append, List.length_singleton]; omega)
    refine ⟨es', m2, y6, y7, ?_, H2, h2, by rw [l2, List.length_append, List.length_singleton]; omega, fun i i1 i2 => (o2 i i1 i2).trans (o1 i i1 i2)⟩
    rw [rngL, forL_cons]
    simp [e1, e2]
theorem history_ok {m : Mm} {b : Nat} {a s : Int} (most : Nat) (hm : most ≤ 90) (kd : List Nat) (alone plain : Bool) (ha : (!(kd == sAlone)) = !alone) (hp : (!(kd == sPlain)) = !plain) (h : m[b]? = some (.lst [.int a, .int s])) :
    ∃ (es : List Ev) (m' : Mm), i_law_history [.ref b, .int most, .str kd] m = .ok (.tup (es.map Ev.enc), m') ∧ hs0.all es = true ∧ es.length ≤ most ∧ (∃ a' s' : Int, m'[b]? = some (.lst [.int a', .int s'])) ∧ ∀ i, i < m.length → i ≠ b → m'[i]? = m[i]? := by
  have hlt : b < m.length := (List.getElem?_eq_some_iff.mp h).1
  obtain ⟨m1, hm1⟩ : ∃ m1, m1 = ((m ++ [.lst []]) ++ [.lst [.bl true, .bl false]]) ++ [.lst [.bl false, .bl false]] := ⟨_, rfl⟩
  have k0 : m1[b]? = some (.lst [.int a, .int s]) := by
    rw [hm1, List.getElem?_append_left (by simp; omega), List.getElem?_append_left (by simp; omega), List.getElem?_append_left hlt]; exact h
  obtain ⟨r, a', s', r0, r1, e0⟩ := take_ok (c := (most : Int) + 1) k0 (by omega) (by omega)
  obtain ⟨m2, hm2⟩ : ∃ m2, m2 = m1.set b (.lst [.int a', .int s']) := ⟨_, rfl⟩
  rw [← hm2] at e0
  have H : HM m2 b m.length [] := by
    refine ⟨⟨a', s', by rw [hm2]; exact getset1 k0⟩, ?_, ?_, ?_, hlt⟩
    · rw [hm2, set_same (by omega), hm1]; simp
    · rw [hm2, set_same (by omega), hm1]; simp; exact ⟨rfl, rfl⟩
    · rw [hm2, set_same (by omega), hm1]; simp; exact ⟨rfl, rfl⟩
  obtain ⟨es, m3, y6, y7, e1, H1, h1, l1, o1⟩ := hist_loop2 kd alone plain ha hp (some (.int most)) r.toNat 0 m2 [] none none H rfl (by show 0 + r.toNat ≤ 100; omega)
  have l2 : es.length = 0 + r.toNat := l1
  refine ⟨es, m3, ?_, h1, by omega, H1.bag, fun i i1 i2 => by rw [o1 i i1 i2, hm2, set_same (Ne.symm i2), hm1, List.getElem?_append_left (by simp; omega), List.getElem?_append_left (by simp; omega), List.getElem?_append_left i1]⟩
  have hs : s_law_history = (sSeq (sPar3 3 4 5 (aCons (eLstM aNil) (aCons (eLstM (aCons (eC (.bl true)) (aCons (eC (.bl false)) aNil))) (aCons (eLstM (aCons (eC (.bl false)) (aCons (eC (.bl false)) aNil))) aNil))))
    (sSeq (sFor (TT.iRng1 (eN (cI i_law_take) (aCons (eVar 0) (aCons (e2 oAdd (eVar 1) (eC (.int 1))) aNil)))) (TT.gName 6) histT)
    (sRet (eN fTuple (aCons (eVar 3) aNil))))) := rfl
  have w1 : -P62 ≤ r := by unfold P62; omega
  have w2 : r < P62 := by unfold P62; omega
  have ft : fTuple [.ref m.length] m3 = .ok (.tup (es.map Ev.enc), m3) := by unfold fTuple; simp only [look_ref H1.fnd]
  simp only [i_law_history, bodyI, hs, startS]
  have hm1' : m ++ [Ob.lst [], Ob.lst [.bl true, .bl false], Ob.lst [.bl false, .bl false]] = m1 := by rw [hm1]; simp
  rw [show m.length + 2 = m.length + 1 + 1 from rfl] at e1
  simp [sFor_ap, cI, hm1', e0, w1, w2, e1, ft, endF]
end TT
end

section
set_option linter.all false
set_option autoImplicit false
namespace TT
/-! ### items: events, and what is none -/
inductive Itm where
  | ev (e : Ev)
  | odd (n : Fin 10)
def oddV : Fin 10 → PV
  | 0 => .str [99, 33]
  | 1 => .str [97, 97]
  | 2 => .str [97]
  | 3 => .str []
  | 4 => .str [65, 33]
  | 5 => .non
  | 6 => .int 5
  | 7 => .bl true
  | 8 => .tup [.str [97, 33]]
  | 9 => .str [97, 33, 32]
def Itm.enc : Itm → PV
  | .ev e => e.enc
  | .odd n => oddV n
/-- whether items make a history -/
def Hs.hist (s : Hs) : List Itm → Bool
  | [] => true
  | .odd _ :: _ => false
  | .ev e :: r => s.ok e && (s.step e).hist r
theorem odd_not (n : Fin 10) : f_is_event [oddV n] = .ok (.bl false) := by
  match n with
  | 0 => rfl | 1 => rfl | 2 => rfl | 3 => rfl | 4 => rfl | 5 => rfl | 6 => rfl | 7 => rfl | 8 => rfl | 9 => rfl
theorem odd_turn (s : Hs) (n : Fin 10) (x0 x4 : Option PV) : histB [x0, some (.ref 0), some (.ref 1), some (oddV n), x4] (hmem s) = .ok (.rt (.bl false), [x0, some (.ref 0), some (.ref 1), some (oddV n), x4], hmem s) := by
  have hp : pus [oddV n] = true := by
    match n with
    | 0 => rfl | 1 => rfl | 2 => rfl | 3 => rfl | 4 => rfl | 5 => rfl | 6 => rfl | 7 => rfl | 8 => rfl | 9 => rfl
  have c : ∀ m, cP f_is_event [oddV n] m = .ok (.bl false, m) := fun m => by unfold cP; rw [if_pos hp, odd_not]
  simp [histB, c]
theorem bad_turn (s : Hs) (e : Ev) (hk : s.ok e = false) (x0 x4 : Option PV) : ∃ s' m', histB [x0, some (.ref 0), some (.ref 1), some e.enc, x4] (hmem s) = .ok (.rt (.bl false), s', m') := by
  obtain ⟨a, b, wa, wb⟩ := s
  cases e with
  | tick => cases hk
  | copy h => cases h <;> cases a <;> cases b <;> first | exact ⟨_, _, rfl⟩ | exact nomatch hk
  | ask h => cases h <;> cases a <;> cases b <;> first | exact ⟨_, _, rfl⟩ | exact nomatch hk
  | drop h => cases h <;> cases a <;> cases b <;> first | exact ⟨_, _, rfl⟩ | exact nomatch hk
  | late h => cases h <;> cases a <;> cases b <;> first | exact ⟨_, _, rfl⟩ | exact nomatch hk
  | got h => cases h <;> cases a <;> cases b <;> cases wa <;> cases wb <;> first | exact ⟨_, _, rfl⟩ | exact nomatch hk
theorem hist_loopI : ∀ (xs : List Itm) (s : Hs) (x0 x3 x4 : Option PV), ∃ s' m', forL (gName 3) histB (xs.map Itm.enc) [x0, some (.ref 0), some (.ref 1), x3, x4] (hmem s) = .ok (if s.hist xs then .nx else .rt (.bl false), s', m')
  | [], s, x0, x3, x4 => ⟨_, _, rfl⟩
  | .odd n :: xs, s, x0, x3, x4 => by
    refine ⟨[x0, some (.ref 0), some (.ref 1), some (oddV n), x4], hmem s, ?_⟩
    rw [List.map_cons, forL_cons]
    simp only [Itm.enc, gName_ap, Rs.bind_ok]
    show Rs.bind (histB [x0, some (.ref 0), some (.ref 1), some (oddV n), x4] (hmem s)) _ = _
    rw [odd_turn]; rfl
  | .ev e :: xs, s, x0, x3, x4 => by
    cases hk : s.ok e with
    | true =>
      obtain ⟨f, y4, hf, e1⟩ := hist_turn s e hk x0 x4
      obtain ⟨s', m', e2⟩ := hist_loopI xs (s.step e) x0 (some e.enc) y4
      refine ⟨s', m', ?_⟩
      rw [List.map_cons, forL_cons]
      simp only [Itm.enc, Hs.hist, hk, Bool.true_and]
      rcases hf with rfl | rfl <;> simp [e1, e2]
    | false =>
      obtain ⟨s', m', e1⟩ := bad_turn s e hk x0 x4
      refine ⟨s', m', ?_⟩
      rw [List.map_cons, forL_cons]
      simp only [Itm.enc, Hs.hist, hk, Bool.false_and]
      simp [e1]
theorem is_history_I (xs : List Itm) : f_is_history [.tup (xs.map Itm.enc)] = .ok (.bl (decide (xs.length ≤ 40) && hs0.hist xs)) := by
  obtain ⟨s', m', e⟩ := hist_loopI xs hs0 (some (.tup (xs.map Itm.enc))) none none
  have ha : ∀ m, oIsA .tTup (.tup (xs.map Itm.enc)) m = .ok (.bl true, m) := fun m => rfl
  have hs : s_is_history = (sSeq (sIf (tOr (tNot (tT (e1 (oIsA .tTup) (eVar 0)))) (tV (e2 oGt (eN fLen (aCons (eVar 0) aNil)) (eC c_MOST_EVENTS)))) (sRet (eC (.bl false))) sSkip)
    (sSeq (sAsg (eLstM (aCons (eC (.bl true)) (aCons (eC (.bl false)) aNil))) (TT.gName 1))
    (sSeq (sAsg (eLstM (aCons (eC (.bl false)) (aCons (eC (.bl false)) aNil))) (TT.gName 2))
    (sSeq (sFor (iT (eVar 0)) (TT.gName 3) histB)
    (sRet (eC (.bl true))))))) := rfl
  simp only [f_is_history, bodyP, bodyI, hs, startS]
  simp only [hmem, hs0] at e
  by_cases hl : xs.length ≤ 40
  · have hn : ¬ (40 : Int) < xs.length := by omega
    cases hh : Hs.hist ⟨true, false, false, false⟩ xs <;> simp only [hh, if_true, Bool.false_eq_true, if_false] at e <;> simp [ha, c_MOST_EVENTS, hn, sFor_ap, e, endF, hl, hh, hs0]
  · have hn : (40 : Int) < xs.length := by omega
    simp [ha, c_MOST_EVENTS, hn, endF, hl]
end TT
end

section
set_option linter.all false
set_option autoImplicit false
namespace TT
@[simp] theorem sRaise_ap {c : Nat} {s : Sl} {m : Mm} : sRaise c s m = .ex (.mk c []) m := rfl
theorem enc_pu (R : Rule) : R.enc.pu = true := by
  have e : ∀ o : Option Int, (encO o).pu = true := fun o => by cases o <;> rfl
  simp [Rule.enc, Rule.parts, e]
/-- what is_choice says of each part -/
theorem choices {R : Rule} (ok : R.Ok) : (∀ m, cP f_is_choice [.int R.keep, .tup [.int 0, .int 1, .int 2]] m = .ok (.bl true, m)) ∧ (∀ m, cP f_is_choice [.str (if R.new then sNew else sSame), .tup [.str [110, 101, 119], .str [115, 97, 109, 101]]] m = .ok (.bl true, m)) ∧
    (∀ m, cP f_is_choice [.bl R.strict, .tup [.bl false, .bl true]] m = .ok (.bl true, m)) ∧ (∀ m, cP f_is_choice [encO R.leeway, .tup [.non, .int 0, .int 1, .int 2]] m = .ok (.bl true, m)) ∧ (∀ m, cP f_is_choice [encO R.spare, .tup [.non, .int 0, .int 1, .int 2]] m = .ok (.bl true, m)) ∧
    (∀ m, cP f_is_choice [.int R.every, .tup [.int 1, .int 2, .int 3]] m = .ok (.bl true, m)) ∧ (∀ m, cP f_is_choice [.str (if R.fin then sEnd else sRefuse), .tup [.str [101, 110, 100], .str [114, 101, 102, 117, 115, 101]]] m = .ok (.bl true, m)) := by
  obtain ⟨keep, new, strict, leeway, spare, every, fin⟩ := R
  obtain ⟨⟨a0, a1⟩, b, c, ⟨d0, d1⟩⟩ := ok
  simp only at a0 a1 b c d0 d1
  have cO : ∀ (o : Option Int), (o = none ∨ ∃ i, o = some i ∧ 0 ≤ i ∧ i ≤ 2) → ∀ m, cP f_is_choice [encO o, .tup [.non, .int 0, .int 1, .int 2]] m = .ok (.bl true, m) := fun o h m => by
    rcases h with rfl | ⟨i, rfl, h0, h1⟩
    · rfl
    · have : i = 0 ∨ i = 1 ∨ i = 2 := by omega
      rcases this with rfl | rfl | rfl <;> rfl
  refine ⟨fun m => ?_, fun m => by cases new <;> rfl, fun m => by cases strict <;> rfl, cO leeway b, cO spare c, fun m => ?_, fun m => by cases fin <;> rfl⟩
  · have : keep = 0 ∨ keep = 1 ∨ keep = 2 := by omega
    rcases this with rfl | rfl | rfl <;> rfl
  · have : every = 1 ∨ every = 2 ∨ every = 3 := by omega
    rcases this with rfl | rfl | rfl <;> rfl
theorem rule7' {p0 p1 p2 p3 p4 p5 p6 : PV} {b0 b1 b2 b3 b4 b5 b6 : Bool} (h0 : ∀ m, cP f_is_choice [p0, .tup [.int 0, .int 1, .int 2]] m = .ok (.bl b0, m)) (h1 : ∀ m, cP f_is_choice [p1, .tup [.str [110, 101, 119], .str [115, 97, 109, 101]]] m = .ok (.bl b1, m))
    (h2 : ∀ m, cP f_is_choice [p2, .tup [.bl false, .bl true]] m = .ok (.bl b2, m)) (h3 : ∀ m, cP f_is_choice [p3, .tup [.non, .int 0, .int 1, .int 2]] m = .ok (.bl b3, m)) (h4 : ∀ m, cP f_is_choice [p4, .tup [.non, .int 0, .int 1, .int 2]] m = .ok (.bl b4, m))
    (h5 : ∀ m, cP f_is_choice [p5, .tup [.int 1, .int 2, .int 3]] m = .ok (.bl b5, m)) (h6 : ∀ m, cP f_is_choice [p6, .tup [.str [101, 110, 100], .str [114, 101, 102, 117, 115, 101]]] m = .ok (.bl b6, m)) :
    f_is_rule [.tup [p0, p1, p2, p3, p4, p5, p6]] = .ok (.bl (b0 && (b1 && (b2 && (b3 && (b4 && (b5 && b6))))))) := by
  simp only [f_is_rule, bodyP, bodyI, s_is_rule, startS]
  simp [oIsA, isA, c_PARTS, c_CHOICES, eLc_ap, zipP, lcL, wipe, LINE, h0, h1, h2, h3, h4, h5, h6, fAll, bools, endF]
theorem rule_is {R : Rule} (ok : R.Ok) : f_is_rule [R.enc] = .ok (.bl true) := by
  obtain ⟨c0, c1, c2, c3, c4, c5, c6⟩ := choices ok
  exact rule7' c0 c1 c2 c3 c4 c5 c6
/-- what is no rule -/
def NoRule (v : PV) : Prop := v.pu = true ∧ f_is_rule [v] = .ok (.bl false)
theorem short_no (p : List PV) (hp : pus p = true) (hl : p.length ≠ 7) (hz : p.length ≤ 100) : NoRule (.tup p) := by
  refine ⟨hp, ?_⟩
  have ha : ∀ m, oIsA .tTup (.tup p) m = .ok (.bl true, m) := fun m => rfl
  have hn : ((p.length : Int) == 7) = false := beq_eq_false_iff_ne.mpr (by omega)
  simp only [f_is_rule, bodyP, bodyI, s_is_rule, startS]
  simp [ha, c_PARTS, hn, endF]
theorem wrongs {R : Rule} (ok : R.Ok) : ∀ v ∈ [PV.non, .tup [], .tup (R.parts.take 6), .vl R.parts, .tup (R.parts ++ [.int 0]), .tup (.int 3 :: R.parts.drop 1), .tup (R.parts.take 6 ++ [.str [115, 116, 111, 112]])], NoRule v := by
  obtain ⟨c0, c1, c2, c3, c4, c5, c6⟩ := choices ok
  have e : ∀ o : Option Int, (encO o).pu = true := fun o => by cases o <;> rfl
  intro v hv
  simp only [List.mem_cons, List.mem_nil_iff, or_false] at hv
  rcases hv with rfl | rfl | rfl | rfl | rfl | rfl | rfl
  · exact ⟨rfl, rfl⟩
  · exact short_no _ rfl (by decide) (by decide)
  · exact short_no _ (by simp [Rule.parts, e]) (by simp [Rule.parts]) (by simp [Rule.parts])
  · exact ⟨by simp [Rule.parts, e], rfl⟩
  · exact short_no _ (by simp [Rule.parts, e]) (by simp [Rule.parts]) (by simp [Rule.parts])
  · refine ⟨by simp [Rule.parts, e], ?_⟩
    exact rule7' (p0 := .int 3) (b0 := false) (fun m => rfl) c1 c2 c3 c4 c5 c6
  · refine ⟨by simp [Rule.parts, e], ?_⟩
    exact rule7' (p6 := .str [115, 116, 111, 112]) (b6 := false) c0 c1 c2 c3 c4 c5 (fun m => rfl)
theorem need_no {v : PV} (h : NoRule v) (m : Mm) : cX f_need_rule [v] m = .ex (.mk 1 []) m := by
  have c : ∀ m, cP f_is_rule [v] m = .ok (.bl false, m) := fun m => by unfold cP; rw [if_pos (by simp [h.1]), h.2]
  have : f_need_rule [v] = .ex (.mk 1 []) [] := by
    simp [f_need_rule, bodyP, bodyI, s_need_rule, startS, c, endF]
  unfold cX
  rw [if_pos (by simp [h.1]), this]; rfl
theorem need_yes {R : Rule} (ok : R.Ok) (m : Mm) : cX f_need_rule [R.enc] m = .ok (.non, m) := by
  have c : ∀ m, cP f_is_rule [R.enc] m = .ok (.bl true, m) := fun m => by unfold cP; rw [if_pos (by simp [enc_pu]), rule_is ok]
  have : f_need_rule [R.enc] = .ok .non := by
    simp [f_need_rule, bodyP, bodyI, s_need_rule, startS, c, endF]
  unfold cX
  rw [if_pos (by simp [enc_pu]), this]
/-- what is no history -/
def NoHist (v : PV) : Prop := v.pu = true ∧ f_is_history [v] = .ok (.bl false)
theorem itms_pu : ∀ xs : List Itm, pus (xs.map Itm.enc) = true
  | [] => rfl
  | .ev e :: xs => by simp [Itm.enc, Ev.enc, itms_pu xs]
  | .odd n :: xs => by
    have : (oddV n).pu = true := by
      match n with
      | 0 => rfl | 1 => rfl | 2 => rfl | 3 => rfl | 4 => rfl | 5 => rfl | 6 => rfl | 7 => rfl | 8 => rfl | 9 => rfl
    simp [Itm.enc, this, itms_pu xs]
theorem hist_app (rest : List Itm) : ∀ (es : List Ev) (s : Hs), (∀ S : Hs, S.hist rest = false) → s.hist (es.map Itm.ev ++ rest) = false
  | [], s, h => h s
  | e :: es, s, h => by
    simp only [List.map_cons, List.cons_append, Hs.hist, hist_app rest es (s.step e) h, Bool.and_false]
theorem got2 (S : Hs) : S.hist [.ev (.got true), .ev (.got true)] = false := by
  obtain ⟨a, b, wa, wb⟩ := S
  cases a <;> cases b <;> cases wa <;> cases wb <;> rfl
theorem odds (es : List Ev) (hl : es.length ≤ 10) : ∀ v ∈ [PV.non, .str [97, 33], .vl (es.map Ev.enc), .tup [.str [98, 33]], .tup (es.map Ev.enc ++ [.str [98, 43], .str [98, 43]]), .tup (es.map Ev.enc ++ [.str [99, 33]]), .tup [.int 1]], NoHist v := by
  intro v hv
  simp only [List.mem_cons, List.mem_nil_iff, or_false] at hv
  rcases hv with rfl | rfl | rfl | rfl | rfl | rfl | rfl
  · exact ⟨rfl, rfl⟩
  · exact ⟨rfl, rfl⟩
  · exact ⟨evs_pu es, rfl⟩
  · exact ⟨rfl, rfl⟩
  · have e : es.map Ev.enc ++ [PV.str [98, 43], .str [98, 43]] = (es.map Itm.ev ++ [Itm.ev (.got true), Itm.ev (.got true)]).map Itm.enc := by
      rw [List.map_append, List.map_map]; rfl
    rw [e]
    refine ⟨itms_pu _, ?_⟩
    rw [is_history_I, hist_app _ _ _ got2, Bool.and_false]
  · have e : es.map Ev.enc ++ [PV.str [99, 33]] = (es.map Itm.ev ++ [Itm.odd 0]).map Itm.enc := by
      rw [List.map_append, List.map_map]; rfl
    rw [e]
    refine ⟨itms_pu _, ?_⟩
    rw [is_history_I, hist_app _ _ _ (fun _ => rfl), Bool.and_false]
  · exact ⟨rfl, rfl⟩
theorem needh_no {v : PV} (h : NoHist v) (m : Mm) : cX f_need_history [v] m = .ex (.mk 2 []) m := by
  have c : ∀ m, cP f_is_history [v] m = .ok (.bl false, m) := fun m => by unfold cP; rw [if_pos (by simp [h.1]), h.2]
  have : f_need_history [v] = .ex (.mk 2 []) [] := by
    simp [f_need_history, bodyP, bodyI, s_need_history, startS, c, endF]
  unfold cX
  rw [if_pos (by simp [h.1]), this]; rfl
/-! ### the functions -/
theorem cX_ex {F : PF} {xs : List PV} {c : Nat} (h : F xs = .ex (.mk c []) []) (hp : pus xs = true) (m : Mm) : cX F xs m = .ex (.mk c []) m := by
  unfold cX; rw [if_pos hp, h]; rfl
section
variable {w v : PV} {R : Rule} (m : Mm)
theorem one_a (h : NoRule w) : cX f_fewest_faults ([w] ++ [.bl false]) m = .ex (.mk 1 []) m := cX_ex (by simp [f_fewest_faults, bodyP, bodyI, s_fewest_faults, startS, need_no h, endF]) (by simp [h.1]) m
theorem one_b (h : NoRule w) : cX f_fault_history ([w] ++ [.bl false]) m = .ex (.mk 1 []) m := cX_ex (by simp [f_fault_history, bodyP, bodyI, s_fault_history, startS, need_no h, endF]) (by simp [h.1]) m
theorem one_c (h : NoRule w) : cX f_lost_share ([w] ++ []) m = .ex (.mk 1 []) m := cX_ex (by simp [f_lost_share, bodyP, bodyI, s_lost_share, startS, need_no h, endF]) (by simp [h.1]) m
theorem one_d (h : NoRule w) : cX f_lost_cycle ([w] ++ []) m = .ex (.mk 1 []) m := cX_ex (by simp [f_lost_cycle, bodyP, bodyI, s_lost_cycle, startS, need_no h, endF]) (by simp [h.1]) m
theorem one_e (h : NoRule w) : cX f_fewest_stands ([w] ++ []) m = .ex (.mk 1 []) m := cX_ex (by simp [f_fewest_stands, bodyP, bodyI, s_fewest_stands, startS, need_no h, endF]) (by simp [h.1]) m
theorem two_a (h : NoRule w) (hv : v.pu = true) : cX f_run ([w, v] ++ [.bl false]) m = .ex (.mk 1 []) m := cX_ex (by simp [f_run, bodyP, bodyI, s_run, startS, need_no h, endF]) (by simp [h.1, hv]) m
theorem two_b (h : NoRule w) (hv : v.pu = true) : cX f_held ([w, v] ++ [.bl false]) m = .ex (.mk 1 []) m := cX_ex (by simp [f_held, bodyP, bodyI, s_held, startS, need_no h, endF]) (by simp [h.1, hv]) m
theorem two_c (ok : R.Ok) (h : NoHist v) : cX f_run ([R.enc, v] ++ [.bl false]) m = .ex (.mk 2 []) m := cX_ex (by simp [f_run, bodyP, bodyI, s_run, startS, need_yes ok, needh_no h, endF]) (by simp [enc_pu, h.1]) m
theorem two_d (ok : R.Ok) (h : NoHist v) : cX f_held ([R.enc, v] ++ [.bl false]) m = .ex (.mk 2 []) m := cX_ex (by simp [f_held, bodyP, bodyI, s_held, startS, need_yes ok, needh_no h, endF]) (by simp [enc_pu, h.1]) m
theorem par_a (h : NoRule w) (hv : v.pu = true) : cX f_parting [w, v] m = .ex (.mk 1 []) m := cX_ex (by simp [f_parting, bodyP, bodyI, s_parting, startS, need_no h, endF]) (by simp [h.1, hv]) m
theorem par_b (ok : R.Ok) (h : NoRule w) : cX f_parting [R.enc, w] m = .ex (.mk 1 []) m := cX_ex (by simp [f_parting, bodyP, bodyI, s_parting, startS, need_yes ok, need_no h, endF]) (by simp [enc_pu, h.1]) m
theorem har_a (h : NoRule w) (hv : v.pu = true) : cX f_harder_history [w, v] m = .ex (.mk 1 []) m := cX_ex (by simp [f_harder_history, bodyP, bodyI, s_harder_history, startS, need_no h, endF]) (by simp [h.1, hv]) m
theorem har_b (ok : R.Ok) (h : NoRule w) : cX f_harder_history [R.enc, w] m = .ex (.mk 1 []) m := cX_ex (by simp [f_harder_history, bodyP, bodyI, s_harder_history, startS, need_yes ok, need_no h, endF]) (by simp [enc_pu, h.1]) m
theorem ali_a (h : NoRule w) (hv : v.pu = true) : cX f_alike [w, v] m = .ex (.mk 1 []) m := cX_ex (by simp [f_alike, bodyP, bodyI, s_alike, startS, par_a _ h hv, endF]) (by simp [h.1, hv]) m
theorem ali_b (ok : R.Ok) (h : NoRule w) : cX f_alike [R.enc, w] m = .ex (.mk 1 []) m := cX_ex (by simp [f_alike, bodyP, bodyI, s_alike, startS, par_b _ ok h, endF]) (by simp [enc_pu, h.1]) m
theorem nev_a (h : NoRule w) (hv : v.pu = true) : cX f_never_harder [w, v] m = .ex (.mk 1 []) m := cX_ex (by simp [f_never_harder, bodyP, bodyI, s_never_harder, startS, har_a _ h hv, endF]) (by simp [h.1, hv]) m
theorem nev_b (ok : R.Ok) (h : NoRule w) : cX f_never_harder [R.enc, w] m = .ex (.mk 1 []) m := cX_ex (by simp [f_never_harder, bodyP, bodyI, s_never_harder, startS, har_b _ ok h, endF]) (by simp [enc_pu, h.1]) m
end
end TT
end

section
set_option linter.all false
set_option autoImplicit false
namespace TT
def oneB (P : Nat) (A_run : Nat) (A_held : Nat) (A_alike : Nat) (A_parting : Nat) (A_never_harder : Nat) (A_harder_history : Nat) (A_fewest_faults : Nat) (A_fault_history : Nat) (A_lost_share : Nat) (A_lost_cycle : Nat) (A_fewest_stands : Nat) : SS := (sIf (tV (e2 oNe (eTold P q_lam t__law_error [110, 111, 110, 101] [1, 2] (eCallV [(A_fewest_faults, fun xs m => cX f_fewest_faults (xs ++ [(.bl false)]) m), (A_fault_history, fun xs m => cX f_fault_history (xs ++ [(.bl false)]) m), (A_lost_share, fun xs m => cX f_lost_share (xs ++ []) m), (A_lost_cycle, fun xs m => cX f_lost_cycle (xs ++ []) m), (A_fewest_stands, fun xs m => cX f_fewest_stands (xs ++ []) m)] (eVar 7) (aCons (eVar 5) aNil))) (eC (.str [114, 117, 108, 101])))) (sRet (eC (.bl false))) sSkip)
def twoB (P : Nat) (A_run : Nat) (A_held : Nat) (A_alike : Nat) (A_parting : Nat) (A_never_harder : Nat) (A_harder_history : Nat) (A_fewest_faults : Nat) (A_fault_history : Nat) (A_lost_share : Nat) (A_lost_cycle : Nat) (A_fewest_stands : Nat) : SS := (sSeq (sIf (tV (e2 oNe (eTold P q_lam t__law_error [110, 111, 110, 101] [1, 2] (eCallV [(A_run, fun xs m => cX f_run (xs ++ [(.bl false)]) m), (A_held, fun xs m => cX f_held (xs ++ [(.bl false)]) m)] (eVar 7) (aCons (eVar 5) (aCons (eVar 6) aNil)))) (eC (.str [114, 117, 108, 101])))) (sRet (eC (.bl false))) sSkip)
  (sIf (tV (e2 oNe (eTold P q_lam t__law_error [110, 111, 110, 101] [1, 2] (eCallV [(A_run, fun xs m => cX f_run (xs ++ [(.bl false)]) m), (A_held, fun xs m => cX f_held (xs ++ [(.bl false)]) m)] (eVar 7) (aCons (eVar 3) (aCons (eVar 6) aNil)))) (eC (.str [104, 105, 115, 116, 111, 114, 121])))) (sRet (eC (.bl false))) sSkip))
def threeB (P : Nat) (A_run : Nat) (A_held : Nat) (A_alike : Nat) (A_parting : Nat) (A_never_harder : Nat) (A_harder_history : Nat) (A_fewest_faults : Nat) (A_fault_history : Nat) (A_lost_share : Nat) (A_lost_cycle : Nat) (A_fewest_stands : Nat) : SS := (sSeq (sIf (tV (e2 oNe (eTold P q_lam t__law_error [110, 111, 110, 101] [1, 2] (eCallV [(A_alike, fun xs m => cX f_alike (xs ++ []) m), (A_parting, fun xs m => cX f_parting (xs ++ []) m), (A_never_harder, fun xs m => cX f_never_harder (xs ++ []) m), (A_harder_history, fun xs m => cX f_harder_history (xs ++ []) m)] (eVar 7) (aCons (eVar 5) (aCons (eVar 3) aNil)))) (eC (.str [114, 117, 108, 101])))) (sRet (eC (.bl false))) sSkip)
  (sIf (tV (e2 oNe (eTold P q_lam t__law_error [110, 111, 110, 101] [1, 2] (eCallV [(A_alike, fun xs m => cX f_alike (xs ++ []) m), (A_parting, fun xs m => cX f_parting (xs ++ []) m), (A_never_harder, fun xs m => cX f_never_harder (xs ++ []) m), (A_harder_history, fun xs m => cX f_harder_history (xs ++ []) m)] (eVar 7) (aCons (eVar 3) (aCons (eVar 5) aNil)))) (eC (.str [114, 117, 108, 101])))) (sRet (eC (.bl false))) sSkip))
def bagB (P : Nat) (A_run : Nat) (A_held : Nat) (A_alike : Nat) (A_parting : Nat) (A_never_harder : Nat) (A_harder_history : Nat) (A_fewest_faults : Nat) (A_fault_history : Nat) (A_lost_share : Nat) (A_lost_cycle : Nat) (A_fewest_stands : Nat) : SS := (sSeq (sAsg (eN (cI i_law_bag) (aCons (eVar 0) (aCons (eVar 1) aNil))) (TT.gName 2))
  (sSeq (sAsg (eTup (aCons (eN (cI i_law_rule) (aCons (eVar 2) aNil)) (aCons (eN (cI i_law_history) (aCons (eVar 2) (aCons (eC (.int 10)) (aCons (eC (.str [97, 108, 108])) aNil)))) aNil))) (TT.gTup [3, 4]))
  (sSeq (sAsg (eN (cI i_law_of) (aCons (eVar 2) (aCons (eLst (aCons (eC .non) (aCons (eTup aNil) (aCons (eSlH (eC (.int 6)) (eVar 3)) (aCons (eN fList (aCons (eVar 3) aNil)) (aCons (e2 oAdd (eVar 3) (eTup (aCons (eC (.int 0)) aNil))) (aCons (e2 oAdd (eTup (aCons (eC (.int 3)) aNil)) (eSlL (eC (.int 1)) (eVar 3))) (aCons (e2 oAdd (eSlH (eC (.int 6)) (eVar 3)) (eTup (aCons (eC (.str [115, 116, 111, 112])) aNil))) aNil)))))))) aNil))) (TT.gName 5))
  (sSeq (sAsg (eN (cI i_law_of) (aCons (eVar 2) (aCons (eLst (aCons (eC .non) (aCons (eC (.str [97, 33])) (aCons (eN fList (aCons (eVar 4) aNil)) (aCons (eTup (aCons (eC (.str [98, 33])) aNil)) (aCons (e2 oAdd (eVar 4) (e2 oMul (eTup (aCons (eC (.str [98, 43])) aNil)) (eC (.int 2)))) (aCons (e2 oAdd (eVar 4) (eTup (aCons (eC (.str [99, 33])) aNil))) (aCons (eTup (aCons (eC (.int 1)) aNil)) aNil)))))))) aNil))) (TT.gName 6))
  (sSeq (sFor (iL (eLst (aCons (eC (.fn A_fewest_faults)) (aCons (eC (.fn A_fault_history)) (aCons (eC (.fn A_lost_share)) (aCons (eC (.fn A_lost_cycle)) (aCons (eC (.fn A_fewest_stands)) aNil))))))) (TT.gName 7) (oneB P A_run A_held A_alike A_parting A_never_harder A_harder_history A_fewest_faults A_fault_history A_lost_share A_lost_cycle A_fewest_stands))
  (sSeq (sFor (iL (eLst (aCons (eC (.fn A_run)) (aCons (eC (.fn A_held)) aNil)))) (TT.gName 7) (twoB P A_run A_held A_alike A_parting A_never_harder A_harder_history A_fewest_faults A_fault_history A_lost_share A_lost_cycle A_fewest_stands))
  (sFor (iL (eLst (aCons (eC (.fn A_alike)) (aCons (eC (.fn A_parting)) (aCons (eC (.fn A_never_harder)) (aCons (eC (.fn A_harder_history)) aNil)))))) (TT.gName 7) (threeB P A_run A_held A_alike A_parting A_never_harder A_harder_history A_fewest_faults A_fault_history A_lost_share A_lost_cycle A_fewest_stands))))))))
theorem law_eq (P : Nat) (A_run : Nat) (A_held : Nat) (A_alike : Nat) (A_parting : Nat) (A_never_harder : Nat) (A_harder_history : Nat) (A_fewest_faults : Nat) (A_fault_history : Nat) (A_lost_share : Nat) (A_lost_cycle : Nat) (A_fewest_stands : Nat) : s_law P A_run A_held A_alike A_parting A_never_harder A_harder_history A_fewest_faults A_fault_history A_lost_share A_lost_cycle A_fewest_stands = (sSeq (sFor (TT.iRng1 (e2 oAdd (eN fMin (aCons (eN fLen (aCons (eVar 0) aNil)) (aCons (eC (.int 6)) aNil))) (eC (.int 1)))) (TT.gName 1) (bagB P A_run A_held A_alike A_parting A_never_harder A_harder_history A_fewest_faults A_fault_history A_lost_share A_lost_cycle A_fewest_stands))
  (sRet (eC (.bl true)))) := rfl
theorem told_ex {P : Nat} {t : Told} {els cs : List Nat} {B : SE} {s : Sl} {m m' : Mm} {q : List Nat} {c : Nat} (h0 : m[0]? = some (.tab P q)) (hB : B s m = .ex (.mk c []) m') (hc : cs.contains c = true) : eTold P q t els cs B s m = .ok (.str (t.ev c), m') := by
  unfold eTold
  rw [h0]
  simp only [and_self, if_true, hB, hc]
theorem callV_ok {tbl : List (Nat × ON)} {i : Nat} {fs : SA} {s : Sl} {m : Mm} {a : Nat} {xs : List PV} {r : Rs (PV × Mm)} (hs : s[i]? = some (some (.fn a))) (ha : fs s m = .ok (xs, m)) (h : ∀ q ∈ tbl, q.2 xs m = r) (hk : a ∈ tbl.map (·.1)) : eCallV tbl (eVar i) fs s m = r := by
  unfold eCallV
  rw [eVar_ap, hs]
  simp only [Rs.bind_ok]
  cases hl : tbl.lookup a with
  | none =>
    exfalso
    obtain ⟨q, hq, rfl⟩ := List.mem_map.mp hk
    have := List.lookup_eq_none_iff.mp hl q hq
    simp at this
  | some G =>
    simp only [ha, Rs.bind_ok]
    exact h (a, G) (lookup_mem hl)
theorem each_ok (i : Nat) (b : SS) (m : Mm) (s0 : Sl) (hi : i < s0.length) : ∀ (vs : List PV), (∀ v ∈ vs, ∀ s' : Sl, s'.length = s0.length → (∀ j, j ≠ i → s'[j]? = s0[j]?) → s'[i]? = some (some v) → b s' m = .ok (.nx, s', m)) → ∀ s : Sl, s.length = s0.length → (∀ j, j ≠ i → s[j]? = s0[j]?) →
    ∃ s', s'.length = s0.length ∧ (∀ j, j ≠ i → s'[j]? = s0[j]?) ∧ forL (gName i) b vs s m = .ok (.nx, s', m)
  | [], _, s, h1, h2 => ⟨s, h1, h2, rfl⟩
  | v :: vs, hb, s, h1, h2 => by
    obtain ⟨s', e1, e2, e3⟩ := each_ok i b m s0 hi vs (fun u hu => hb u (List.mem_cons_of_mem _ hu)) (s.set i (some v)) (by simp [h1]) (fun j hj => by rw [List.getElem?_set_ne (Ne.symm hj)]; exact h2 j hj)
    refine ⟨s', e1, e2, ?_⟩
    rw [forL_cons, gName_ap, Rs.bind_ok]
    show Rs.bind (b (s.set i (some v)) m) _ = _
    rw [hb v List.mem_cons_self (s.set i (some v)) (by simp [h1]) (fun j hj => by rw [List.getElem?_set_ne (Ne.symm hj)]; exact h2 j hj) (List.getElem?_set_self (by rw [h1]; exact hi))]
    exact e3
section
variable {P A_run A_held A_alike A_parting A_never_harder A_harder_history A_fewest_faults A_fault_history A_lost_share A_lost_cycle A_fewest_stands : Nat} {R : Rule} {w v : PV} {m : Mm} {s : Sl}
theorem one_turn (h0 : m[0]? = some (.tab P q_lam)) (hw : NoRule w) (s5 : s[5]? = some (some w)) {a : Nat} (ha : a ∈ [A_fewest_faults, A_fault_history, A_lost_share, A_lost_cycle, A_fewest_stands]) (s7 : s[7]? = some (some (.fn a))) : oneB P A_run A_held A_alike A_parting A_never_harder A_harder_history A_fewest_faults A_fault_history A_lost_share A_lost_cycle A_fewest_stands s m = .ok (.nx, s, m) := by
  have c : ∀ fs : SA, fs s m = .ok ([w], m) → eCallV [(A_fewest_faults, fun xs m => cX f_fewest_faults (xs ++ [(.bl false)]) m), (A_fault_history, fun xs m => cX f_fault_history (xs ++ [(.bl false)]) m), (A_lost_share, fun xs m => cX f_lost_share (xs ++ []) m), (A_lost_cycle, fun xs m => cX f_lost_cycle (xs ++ []) m), (A_fewest_stands, fun xs m => cX f_fewest_stands (xs ++ []) m)] (eVar 7) fs s m = .ex (.mk 1 []) m := fun fs hfs =>
    callV_ok s7 hfs (fun q hq => by
      simp only [List.mem_cons, List.mem_nil_iff, or_false] at hq
      rcases hq with rfl | rfl | rfl | rfl | rfl
      · exact one_a m hw
      · exact one_b m hw
      · exact one_c m hw
      · exact one_d m hw
      · exact one_e m hw) ha
  have t1 := told_ex (t := t__law_error) (els := [110, 111, 110, 101]) (cs := [1, 2]) (c := 1) h0 (c (aCons (eVar 5) aNil) (by simp [s5])) rfl
  unfold oneB
  rw [sIf_ap, tV_ap, e2_ap, t1]
  rfl
theorem two_turn (h0 : m[0]? = some (.tab P q_lam)) (ok : R.Ok) (hw : NoRule w) (hv : NoHist v) (s3 : s[3]? = some (some R.enc)) (s5 : s[5]? = some (some w)) (s6 : s[6]? = some (some v)) {a : Nat} (ha : a ∈ [A_run, A_held]) (s7 : s[7]? = some (some (.fn a))) : twoB P A_run A_held A_alike A_parting A_never_harder A_harder_history A_fewest_faults A_fault_history A_lost_share A_lost_cycle A_fewest_stands s m = .ok (.nx, s, m) := by
  have c1 : ∀ fs : SA, fs s m = .ok ([w, v], m) → eCallV [(A_run, fun xs m => cX f_run (xs ++ [(.bl false)]) m), (A_held, fun xs m => cX f_held (xs ++ [(.bl false)]) m)] (eVar 7) fs s m = .ex (.mk 1 []) m := fun fs hfs =>
    callV_ok s7 hfs (fun q hq => by
      simp only [List.mem_cons, List.mem_nil_iff, or_false] at hq
      rcases hq with rfl | rfl
      · exact two_a m hw hv.1
      · exact two_b m hw hv.1) ha
  have c2 : ∀ fs : SA, fs s m = .ok ([R.enc, v], m) → eCallV [(A_run, fun xs m => cX f_run (xs ++ [(.bl false)]) m), (A_held, fun xs m => cX f_held (xs ++ [(.bl false)]) m)] (eVar 7) fs s m = .ex (.mk 2 []) m := fun fs hfs =>
    callV_ok s7 hfs (fun q hq => by
      simp only [List.mem_cons, List.mem_nil_iff, or_false] at hq
      rcases hq with rfl | rfl
      · exact two_c m ok hv
      · exact two_d m ok hv) ha
  have t1 := told_ex (t := t__law_error) (els := [110, 111, 110, 101]) (cs := [1, 2]) (c := 1) h0 (c1 (aCons (eVar 5) (aCons (eVar 6) aNil)) (by simp [s5, s6])) rfl
  have t2 := told_ex (t := t__law_error) (els := [110, 111, 110, 101]) (cs := [1, 2]) (c := 2) h0 (c2 (aCons (eVar 3) (aCons (eVar 6) aNil)) (by simp [s3, s6])) rfl
  have e1 : (sIf (tV (e2 oNe (eTold P q_lam t__law_error [110, 111, 110, 101] [1, 2] (eCallV [(A_run, fun xs m => cX f_run (xs ++ [(.bl false)]) m), (A_held, fun xs m => cX f_held (xs ++ [(.bl false)]) m)] (eVar 7) (aCons (eVar 5) (aCons (eVar 6) aNil)))) (eC (.str [114, 117, 108, 101])))) (sRet (eC (.bl false))) sSkip) s m = .ok (.nx, s, m) := by
    rw [sIf_ap, tV_ap, e2_ap, t1]; rfl
  unfold twoB
  rw [sSeq_ap, e1, Rs.bind_ok]
  show sIf _ _ _ s m = _
  rw [sIf_ap, tV_ap, e2_ap, t2]
  rfl
theorem three_turn (h0 : m[0]? = some (.tab P q_lam)) (ok : R.Ok) (hw : NoRule w) (s3 : s[3]? = some (some R.enc)) (s5 : s[5]? = some (some w)) {a : Nat} (ha : a ∈ [A_alike, A_parting, A_never_harder, A_harder_history]) (s7 : s[7]? = some (some (.fn a))) : threeB P A_run A_held A_alike A_parting A_never_harder A_harder_history A_fewest_faults A_fault_history A_lost_share A_lost_cycle A_fewest_stands s m = .ok (.nx, s, m) := by
  have c1 : ∀ fs : SA, fs s m = .ok ([w, R.enc], m) → eCallV [(A_alike, fun xs m => cX f_alike (xs ++ []) m), (A_parting, fun xs m => cX f_parting (xs ++ []) m), (A_never_harder, fun xs m => cX f_never_harder (xs ++ []) m), (A_harder_history, fun xs m => cX f_harder_history (xs ++ []) m)] (eVar 7) fs s m = .ex (.mk 1 []) m := fun fs hfs =>
    callV_ok s7 hfs (fun q hq => by
      simp only [List.mem_cons, List.mem_nil_iff, or_false] at hq
      rcases hq with rfl | rfl | rfl | rfl
      · exact ali_a m hw (enc_pu R)
      · exact par_a m hw (enc_pu R)
      · exact nev_a m hw (enc_pu R)
      · exact har_a m hw (enc_pu R)) ha
  have c2 : ∀ fs : SA, fs s m = .ok ([R.enc, w], m) → eCallV [(A_alike, fun xs m => cX f_alike (xs ++ []) m), (A_parting, fun xs m => cX f_parting (xs ++ []) m), (A_never_harder, fun xs m => cX f_never_harder (xs ++ []) m), (A_harder_history, fun xs m => cX f_harder_history (xs ++ []) m)] (eVar 7) fs s m = .ex (.mk 1 []) m := fun fs hfs =>
    callV_ok s7 hfs (fun q hq => by
      simp only [List.mem_cons, List.mem_nil_iff, or_false] at hq
      rcases hq with rfl | rfl | rfl | rfl
      · exact ali_b m ok hw
      · exact par_b m ok hw
      · exact nev_b m ok hw
      · exact har_b m ok hw) ha
  have t1 := told_ex (t := t__law_error) (els := [110, 111, 110, 101]) (cs := [1, 2]) (c := 1) h0 (c1 (aCons (eVar 5) (aCons (eVar 3) aNil)) (by simp [s5, s3])) rfl
  have t2 := told_ex (t := t__law_error) (els := [110, 111, 110, 101]) (cs := [1, 2]) (c := 1) h0 (c2 (aCons (eVar 3) (aCons (eVar 5) aNil)) (by simp [s3, s5])) rfl
  have e1 : (sIf (tV (e2 oNe (eTold P q_lam t__law_error [110, 111, 110, 101] [1, 2] (eCallV [(A_alike, fun xs m => cX f_alike (xs ++ []) m), (A_parting, fun xs m => cX f_parting (xs ++ []) m), (A_never_harder, fun xs m => cX f_never_harder (xs ++ []) m), (A_harder_history, fun xs m => cX f_harder_history (xs ++ []) m)] (eVar 7) (aCons (eVar 5) (aCons (eVar 3) aNil)))) (eC (.str [114, 117, 108, 101])))) (sRet (eC (.bl false))) sSkip) s m = .ok (.nx, s, m) := by
    rw [sIf_ap, tV_ap, e2_ap, t1]; rfl
  unfold threeB
  rw [sSeq_ap, e1, Rs.bind_ok]
  show sIf _ _ _ s m = _
  rw [sIf_ap, tV_ap, e2_ap, t2]
  rfl
end
end TT
end

section
set_option linter.all false
set_option autoImplicit false
namespace TT
theorem bag_turn (P : Nat) (A_run : Nat) (A_held : Nat) (A_alike : Nat) (A_parting : Nat) (A_never_harder : Nat) (A_harder_history : Nat) (A_fewest_faults : Nat) (A_fault_history : Nat) (A_lost_share : Nat) (A_lost_cycle : Nat) (A_fewest_stands : Nat) (ns : List Int) (k : Int) (h0 : 0 ≤ k) (h1 : k < 1000) (x2 x3 x4 x5 x6 x7 : Option PV) (m : Mm) (hm : m[0]? = some (.tab P q_lam)) :
    ∃ y2 y3 y4 y5 y6 y7 m', bagB P A_run A_held A_alike A_parting A_never_harder A_harder_history A_fewest_faults A_fault_history A_lost_share A_lost_cycle A_fewest_stands [some (.fz (ns.map PV.int)), some (.int k), x2, x3, x4, x5, x6, x7] m = .ok (.nx, [some (.fz (ns.map PV.int)), some (.int k), y2, y3, y4, y5, y6, y7], m') ∧ m'[0]? = some (.tab P q_lam) := by
  have hm0 : 0 < m.length := (List.getElem?_eq_some_iff.mp hm).1
  obtain ⟨a, s, eb⟩ := bag_ok (m := m) (xs := ns.map PV.int) h0 h1 (fun x hx => by obtain ⟨i, _, e⟩ := List.mem_map.mp hx; exact ⟨i, e.symm⟩)
  obtain ⟨m1, hm1⟩ : ∃ m1, m1 = m ++ [Ob.lst [.int a, .int s]] := ⟨_, rfl⟩
  rw [← hm1] at eb
  have k1 : m1[m.length]? = some (.lst [.int a, .int s]) := by rw [hm1]; simp
  have z1 : m1[0]? = some (.tab P q_lam) := by rw [hm1, List.getElem?_append_left hm0]; exact hm
  have hb : (0 : Nat) ≠ m.length := by omega
  generalize m.length = b at eb k1 hb
  obtain ⟨R, ok, a2, s2, e2⟩ := rule_ok k1
  obtain ⟨m2, hm2⟩ : ∃ m2, m2 = m1.set b (.lst [.int a2, .int s2]) := ⟨_, rfl⟩
  have k2 : m2[b]? = some (.lst [.int a2, .int s2]) := by rw [hm2]; exact getset1 k1
  have z2 : m2[0]? = some (.tab P q_lam) := by rw [hm2, List.getElem?_set_ne (Ne.symm hb)]; exact z1
  rw [← hm2] at e2
  obtain ⟨es, m3, e3, hall, hlen, ⟨a3, s3, k3⟩, oth⟩ := history_ok 10 (by decide) sAll false false rfl rfl k2
  have z3 : m3[0]? = some (.tab P q_lam) := by
    rw [oth 0 (List.getElem?_eq_some_iff.mp z2).1 hb]; exact z2
  have hW := wrongs ok
  obtain ⟨W, hWe⟩ : ∃ W : List PV, W = [PV.non, .tup [], .tup (R.parts.take 6), .vl R.parts, .tup (R.parts ++ [.int 0]), .tup (.int 3 :: R.parts.drop 1), .tup (R.parts.take 6 ++ [.str [115, 116, 111, 112]])] := ⟨_, rfl⟩
  rw [← hWe] at hW
  obtain ⟨w, hw, a4, s4, e4⟩ := of_ok (xs := W) k3 (by rw [hWe]; simp) (by rw [hWe]; simp)
  obtain ⟨m4, hm4⟩ : ∃ m4, m4 = m3.set b (.lst [.int a4, .int s4]) := ⟨_, rfl⟩
  have k4 : m4[b]? = some (.lst [.int a4, .int s4]) := by rw [hm4]; exact getset1 k3
  have z4 : m4[0]? = some (.tab P q_lam) := by rw [hm4, List.getElem?_set_ne (Ne.symm hb)]; exact z3
  rw [← hm4] at e4
  have hO := odds es hlen
  obtain ⟨O, hOe⟩ : ∃ O : List PV, O = [PV.non, .str [97, 33], .vl (es.map Ev.enc), .tup [.str [98, 33]], .tup (es.map Ev.enc ++ [.str [98, 43], .str [98, 43]]), .tup (es.map Ev.enc ++ [.str [99, 33]]), .tup [.int 1]] := ⟨_, rfl⟩
  rw [← hOe] at hO
  obtain ⟨v, hv, a5, s5, e5⟩ := of_ok (xs := O) k4 (by rw [hOe]; simp) (by rw [hOe]; simp)
  obtain ⟨m5, hm5⟩ : ∃ m5, m5 = m4.set b (.lst [.int a5, .int s5]) := ⟨_, rfl⟩
  have z5 : m5[0]? = some (.tab P q_lam) := by rw [hm5, List.getElem?_set_ne (Ne.symm hb)]; exact z4
  rw [← hm5] at e5
  have nw := hW w hw
  have nv := hO v hv
  obtain ⟨S, hS⟩ : ∃ S : Sl, S = [some (.fz (ns.map PV.int)), some (.int k), some (.ref b), some R.enc, some (.tup (es.map Ev.enc)), some w, some v, x7] := ⟨_, rfl⟩
  have q3 : ∀ s' : Sl, (∀ j, j ≠ 7 → s'[j]? = S[j]?) → s'[3]? = some (some R.enc) := fun s' h => by rw [h 3 (by decide), hS]; rfl
  have q5 : ∀ s' : Sl, (∀ j, j ≠ 7 → s'[j]? = S[j]?) → s'[5]? = some (some w) := fun s' h => by rw [h 5 (by decide), hS]; rfl
  have q6 : ∀ s' : Sl, (∀ j, j ≠ 7 → s'[j]? = S[j]?) → s'[6]? = some (some v) := fun s' h => by rw [h 6 (by decide), hS]; rfl
  obtain ⟨S1, t1, t2, t3⟩ := each_ok 7 (oneB P A_run A_held A_alike A_parting A_never_harder A_harder_history A_fewest_faults A_fault_history A_lost_share A_lost_cycle A_fewest_stands) m5 S (by rw [hS]; simp) [.fn A_fewest_faults, .fn A_fault_history, .fn A_lost_share, .fn A_lost_cycle, .fn A_fewest_stands] (fun x hx s' _ hs h7 => by
    obtain ⟨a, ha, rfl⟩ : ∃ a, a ∈ [A_fewest_faults, A_fault_history, A_lost_share, A_lost_cycle, A_fewest_stands] ∧ x = .fn a := by
      simp only [List.mem_cons, List.mem_nil_iff, or_false] at hx ⊢
      rcases hx with rfl | rfl | rfl | rfl | rfl <;> exact ⟨_, by simp, rfl⟩
    exact one_turn z5 nw (q5 s' hs) ha h7) S rfl (fun _ _ => rfl)
  obtain ⟨S2, u1, u2, u3⟩ := each_ok 7 (twoB P A_run A_held A_alike A_parting A_never_harder A_harder_history A_fewest_faults A_fault_history A_lost_share A_lost_cycle A_fewest_stands) m5 S (by rw [hS]; simp) [.fn A_run, .fn A_held] (fun x hx s' _ hs h7 => by
    obtain ⟨a, ha, rfl⟩ : ∃ a, a ∈ [A_run, A_held] ∧ x = .fn a := by
      simp only [List.mem_cons, List.mem_nil_iff, or_false] at hx ⊢
      rcases hx with rfl | rfl <;> exact ⟨_, by simp, rfl⟩
    exact two_turn z5 ok nw nv (q3 s' hs) (q5 s' hs) (q6 s' hs) ha h7) S1 t1 t2
  obtain ⟨S3, v1, v2, v3⟩ := each_ok 7 (threeB P A_run A_held A_alike A_parting A_never_harder A_harder_history A_fewest_faults A_fault_history A_lost_share A_lost_cycle A_fewest_stands) m5 S (by rw [hS]; simp) [.fn A_alike, .fn A_parting, .fn A_never_harder, .fn A_harder_history] (fun x hx s' _ hs h7 => by
    obtain ⟨a, ha, rfl⟩ : ∃ a, a ∈ [A_alike, A_parting, A_never_harder, A_harder_history] ∧ x = .fn a := by
      simp only [List.mem_cons, List.mem_nil_iff, or_false] at hx ⊢
      rcases hx with rfl | rfl | rfl | rfl <;> exact ⟨_, by simp, rfl⟩
    exact three_turn z5 ok nw (q3 s' hs) (q5 s' hs) ha h7) S2 u1 u2
  have hS3 : ∃ y, S3 = [some (.fz (ns.map PV.int)), some (.int k), some (.ref b), some R.enc, some (.tup (es.map Ev.enc)), some w, some v, y] := by
    subst hS
    match S3, v1 with
    | [w0, w1, w2, w3, w4, w5, w6, w7], _ =>
      have e0 := v2 0 (by decide)
      have e1 := v2 1 (by decide)
      have e2 := v2 2 (by decide)
      have e3 := v2 3 (by decide)
      have e4 := v2 4 (by decide)
      have e5 := v2 5 (by decide)
      have e6 := v2 6 (by decide)
      simp only [List.getElem?_cons_zero, List.getElem?_cons_succ, Option.some.injEq] at e0 e1 e2 e3 e4 e5 e6
      subst e0 e1 e2 e3 e4 e5 e6
      exact ⟨w7, rfl⟩
  obtain ⟨y, rfl⟩ := hS3
  refine ⟨some (.ref b), some R.enc, some (.tup (es.map Ev.enc)), some w, some v, y, m5, ?_, z5⟩
  have sl6 : ∀ m, oSlice none (some 6) R.enc m = .ok (.tup (R.parts.take 6), m) := fun m => rfl
  have sl1 : ∀ m, oSlice (some 1) none R.enc m = .ok (.tup (R.parts.drop 1), m) := fun m => rfl
  have ls : ∀ m, fList [R.enc] m = .ok (.vl R.parts, m) := fun m => rfl
  have ad : ∀ m, oAdd R.enc (.tup [.int 0]) m = .ok (.tup (R.parts ++ [.int 0]), m) := fun m => by
    show oAdd (.tup R.parts) (.tup [.int 0]) m = _
    rw [oAdd_tup, if_pos (by simp [Rule.parts, LINE])]
  have ad2 : ∀ m, oAdd (.tup [.int 3]) (.tup (R.parts.drop 1)) m = .ok (.tup (.int 3 :: R.parts.drop 1), m) := fun m => by
    rw [oAdd_tup, if_pos (by simp [Rule.parts, LINE])]; rfl
  have ad3 : ∀ m, oAdd (.tup (R.parts.take 6)) (.tup [.str [115, 116, 111, 112]]) m = .ok (.tup (R.parts.take 6 ++ [.str [115, 116, 111, 112]]), m) := fun m => by
    rw [oAdd_tup, if_pos (by simp [Rule.parts, LINE])]
  have lE : (es.map Ev.enc).length ≤ 10 := by rw [List.length_map]; exact hlen
  have ad4 : ∀ (z : List PV) m, z.length ≤ 100 → oAdd (.tup (es.map Ev.enc)) (.tup z) m = .ok (.tup (es.map Ev.enc ++ z), m) := fun z m hz => by
    rw [oAdd_tup, if_pos (by unfold LINE; omega)]
  have ad5 := fun m => ad4 [.str [98, 43], .str [98, 43]] m (by decide)
  have ad6 := fun m => ad4 [.str [99, 33]] m (by decide)
  have mu : ∀ m, oMul (.tup [.str [98, 43]]) (.int 2) m = .ok (.tup [.str [98, 43], .str [98, 43]], m) := fun m => rfl
  have le : ∀ m, fList [.tup (es.map Ev.enc)] m = .ok (.vl (es.map Ev.enc), m) := fun m => rfl
  have e3' : i_law_history [.ref b, .int 10, .str [97, 108, 108]] m2 = .ok (.tup (es.map Ev.enc), m3) := e3
  clear ad4 lE hO hW hlen hall
  rw [hWe] at e4
  rw [hOe] at e5
  rw [hS] at t3
  generalize es.map Ev.enc = E at *
  generalize R.parts.take 6 = T6 at *
  generalize R.parts.drop 1 = D1 at *
  generalize R.parts ++ [PV.int 0] = P0 at *
  generalize R.parts = PP at *
  generalize R.enc = RE at *
  generalize (E ++ [PV.str [98, 43], .str [98, 43]]) = E1 at *
  generalize (E ++ [PV.str [99, 33]]) = E2 at *
  generalize (T6 ++ [PV.str [115, 116, 111, 112]]) = T7 at *
  simp [bagB, cI, eb, e2, e3', sl6, sl1, ls, ad, ad2, ad3, ad5, ad6, mu, le, e4, e5, sFor_ap, t3, u3, v3]
theorem bags_ok (P : Nat) (A_run : Nat) (A_held : Nat) (A_alike : Nat) (A_parting : Nat) (A_never_harder : Nat) (A_harder_history : Nat) (A_fewest_faults : Nat) (A_fault_history : Nat) (A_lost_share : Nat) (A_lost_cycle : Nat) (A_fewest_stands : Nat) (ns : List Int) : ∀ (n : Nat) (k : Int), 0 ≤ k → k + n ≤ 1000 → ∀ (x1 x2 x3 x4 x5 x6 x7 : Option PV) (m : Mm), m[0]? = some (.tab P q_lam) → ∃ y1 y2 y3 y4 y5 y6 y7 m', forL (gName 1) (bagB P A_run A_held A_alike A_parting A_never_harder A_harder_history A_fewest_faults A_fault_history A_lost_share A_lost_cycle A_fewest_stands) (rngL k n) [some (.fz (ns.map PV.int)), x1, x2, x3, x4, x5, x6, x7] m = .ok (.nx, [some (.fz (ns.map PV.int)), y1, y2, y3, y4, y5, y6, y7], m')
  | 0, k, _, _, x1, x2, x3, x4, x5, x6, x7, m, _ => ⟨x1, x2, x3, x4, x5, x6, x7, m, rfl⟩
  | n + 1, k, h0, h1, x1, x2, x3, x4, x5, x6, x7, m, hm => by
    obtain ⟨y2, y3, y4, y5, y6, y7, m1, e1, hm1⟩ := bag_turn P A_run A_held A_alike A_parting A_never_harder A_harder_history A_fewest_faults A_fault_history A_lost_share A_lost_cycle A_fewest_stands ns k h0 (by omega) x2 x3 x4 x5 x6 x7 m hm
    obtain ⟨z1, z2, z3, z4, z5, z6, z7, m2, e2⟩ := bags_ok P A_run A_held A_alike A_parting A_never_harder A_harder_history A_fewest_faults A_fault_history A_lost_share A_lost_cycle A_fewest_stands ns n (k + 1) (by omega) (by omega) (some (.int k)) y2 y3 y4 y5 y6 y7 m1 hm1
    refine ⟨z1, z2, z3, z4, z5, z6, z7, m2, ?_⟩
    rw [rngL, forL_cons]
    simp [e1, e2]
theorem q4 (k : Nat) (hk : k ≤ 60) (m : Mm) : (if decide (-P62 ≤ (k : Int) + 1) && decide ((k : Int) + 1 < P62) then Rs.ok (rngL 0 ((k : Int) + 1).toNat, m) else .no) = .ok (rngL 0 (k + 1), m) := by
  have c1 : -P62 ≤ (k : Int) + 1 := by unfold P62; omega
  have c2 : (k : Int) + 1 < P62 := by unfold P62; omega
  have c3 : ((k : Int) + 1).toNat = k + 1 := by omega
  rw [c3, decide_eq_true c1, decide_eq_true c2]
  rfl
theorem span_ok (ns : List Int) (hl : ns.length ≤ 63) (s : Sl) (hs : s[0]? = some (some (.fz (ns.map PV.int)))) (m : Mm) : ∃ n : Nat, n ≤ 62 ∧ (TT.iRng1 (e2 oAdd (eN fMin (aCons (eN fLen (aCons (eVar 0) aNil)) (aCons (eC (.int 6)) aNil))) (eC (.int 1)))) s m = .ok (rngL 0 n, m) := by
  have hn : (ns.map PV.int).length ≤ LINE := by rw [List.length_map]; exact Nat.le_trans hl (by decide)
  refine ⟨min ns.length 6 + 1, by omega, ?_⟩
  have hz : (if (6 : Int) < ns.length then 6 else (ns.length : Int)) = ((min ns.length 6 : Nat) : Int) := by split <;> omega
  have q1 : (eN fLen (aCons (eVar 0) aNil)) s m = .ok (.int ns.length, m) := by
    simp [hs, fLen]
  have q2 : fMin [.int ns.length, .int 6] m = .ok (.int (min ns.length 6 : Nat), m) := by
    simp only [fMin, hz]
  have q3 : (e2 oAdd (eN fMin (aCons (eN fLen (aCons (eVar 0) aNil)) (aCons (eC (.int 6)) aNil))) (eC (.int 1))) s m = .ok (.int ((min ns.length 6 : Nat) + 1), m) := by
    generalize eN fLen (aCons (eVar 0) aNil) = L at q1
    simp [q1, q2]
  unfold iRng1
  rw [q3, Rs.bind_ok]
  exact q4 _ (by omega) m
theorem law_holds (P : Nat) (A_run : Nat) (A_held : Nat) (A_alike : Nat) (A_parting : Nat) (A_never_harder : Nat) (A_harder_history : Nat) (A_fewest_faults : Nat) (A_fault_history : Nat) (A_lost_share : Nat) (A_lost_cycle : Nat) (A_fewest_stands : Nat) (ns : List Int) (hl : ns.length ≤ 63) : ∃ m, bodyI 8 1 (s_law P A_run A_held A_alike A_parting A_never_harder A_harder_history A_fewest_faults A_fault_history A_lost_share A_lost_cycle A_fewest_stands) [.fz (ns.map PV.int)] [.tab P q_lam] = .ok (.bl true, m) := by
  obtain ⟨n, hn2, e2⟩ := span_ok ns hl [some (.fz (ns.map PV.int)), none, none, none, none, none, none, none] rfl [.tab P q_lam]
  obtain ⟨y1, y2, y3, y4, y5, y6, y7, m', e3⟩ := bags_ok P A_run A_held A_alike A_parting A_never_harder A_harder_history A_fewest_faults A_fault_history A_lost_share A_lost_cycle A_fewest_stands ns n 0 (by decide) (by omega) none none none none none none none [.tab P q_lam] rfl
  refine ⟨m', ?_⟩
  rw [law_eq]
  unfold bodyI
  rw [if_pos (show [PV.fz (ns.map PV.int)].length = 1 from rfl)]
  show endF (sSeq _ _ [some (.fz (ns.map PV.int)), none, none, none, none, none, none, none] [.tab P q_lam]) = _
  rw [sSeq_ap, sFor_ap, e2, Rs.bind_ok, e3]
  rfl
end TT
end

section
set_option Elab.async false
set_option linter.all false
set_option autoImplicit false
set_option maxRecDepth 100000
set_option maxHeartbeats 4000000
namespace TT
open PySem PySem.Spec PyProof.Rows L2
def topS (i : Nat) : Stmt := PySem.Challenge.pw_tokenturns_k28_errors_of_functions_in_or.main.body.getD i (.Pass ⟨0, 0, 0, 0⟩)
structure Blt (mg : Str → Option Value) : Prop where
  b_all : mg "all" = none
  b_bool : mg "bool" = none
  b_int : mg "int" = none
  b_isinstance : mg "isinstance" = none
  b_len : mg "len" = none
  b_list : mg "list" = none
  b_min : mg "min" = none
  b_range : mg "range" = none
  b_str : mg "str" = none
  b_tuple : mg "tuple" = none
  b_zip : mg "zip" = none
abbrev st_is_choice : Stmt := topS 7
abbrev n_is_choice : List Str := ["value", "choices", "one"]
theorem S_is_choice : FnScope n_is_choice ["value", "choices"] (defScope st_is_choice) := ⟨rfl, rfl, rfl, by decide +kernel, rfl, by decide +kernel, by decide +kernel⟩
abbrev st_is_event : Stmt := topS 20
abbrev n_is_event : List Str := ["value"]
theorem S_is_event : FnScope n_is_event ["value"] (defScope st_is_event) := ⟨rfl, rfl, rfl, by decide +kernel, rfl, by decide +kernel, by decide +kernel⟩
abbrev st__law_bag : Stmt := topS 62
abbrev n__law_bag : List Str := ["_law_script", "_law_k", "_law_cell", "_law_first", "_law_seed"]
theorem S__law_bag : FnScope n__law_bag ["_law_script", "_law_k"] (defScope st__law_bag) := ⟨rfl, rfl, rfl, by decide +kernel, rfl, by decide +kernel, by decide +kernel⟩
abbrev st__law_take : Stmt := topS 63
abbrev n__law_take : List Str := ["_law_bag_here", "_law_count", "_law_found", "_law_mixed"]
theorem S__law_take : FnScope n__law_take ["_law_bag_here", "_law_count"] (defScope st__law_take) := ⟨rfl, rfl, rfl, by decide +kernel, rfl, by decide +kernel, by decide +kernel⟩
abbrev st__law_next_events : Stmt := topS 66
abbrev n__law_next_events : List Str := ["_law_there", "_law_waits", "_law_kind", "_law_some", "_law_who", "_law_name"]
theorem S__law_next_events : FnScope n__law_next_events ["_law_there", "_law_waits", "_law_kind"] (defScope st__law_next_events) := ⟨rfl, rfl, rfl, by decide +kernel, rfl, by decide +kernel, by decide +kernel⟩
abbrev st__law_error : Stmt := topS 68
abbrev n__law_error : List Str := ["_law_call", "e"]
theorem S__law_error : FnScope n__law_error ["_law_call"] (defScope st__law_error) := ⟨rfl, rfl, rfl, by decide +kernel, rfl, by decide +kernel, by decide +kernel⟩
abbrev st_is_rule : Stmt := topS 8
abbrev n_is_rule : List Str := ["value", "part", "choices"]
theorem S_is_rule : FnScope n_is_rule ["value"] (defScope st_is_rule) := ⟨rfl, rfl, rfl, by decide +kernel, rfl, by decide +kernel, by decide +kernel⟩
abbrev st_is_history : Stmt := topS 21
abbrev n_is_history : List Str := ["value", "holds", "waits", "event", "holder"]
theorem S_is_history : FnScope n_is_history ["value"] (defScope st_is_history) := ⟨rfl, rfl, rfl, by decide +kernel, rfl, by decide +kernel, by decide +kernel⟩
abbrev st__law_of : Stmt := topS 64
abbrev n__law_of : List Str := ["_law_bag_here", "_law_some"]
theorem S__law_of : FnScope n__law_of ["_law_bag_here", "_law_some"] (defScope st__law_of) := ⟨rfl, rfl, rfl, by decide +kernel, rfl, by decide +kernel, by decide +kernel⟩
abbrev st_need_rule : Stmt := topS 9
abbrev n_need_rule : List Str := ["value"]
theorem S_need_rule : FnScope n_need_rule ["value"] (defScope st_need_rule) := ⟨rfl, rfl, rfl, by decide +kernel, rfl, by decide +kernel, by decide +kernel⟩
abbrev st_need_history : Stmt := topS 22
abbrev n_need_history : List Str := ["value"]
theorem S_need_history : FnScope n_need_history ["value"] (defScope st_need_history) := ⟨rfl, rfl, rfl, by decide +kernel, rfl, by decide +kernel, by decide +kernel⟩
abbrev st__law_rule : Stmt := topS 65
abbrev n__law_rule : List Str := ["_law_bag_here", "_law_first", "_law_second"]
theorem S__law_rule : FnScope n__law_rule ["_law_bag_here"] (defScope st__law_rule) := ⟨rfl, rfl, rfl, by decide +kernel, rfl, by decide +kernel, by decide +kernel⟩
abbrev st__law_history : Stmt := topS 67
abbrev n__law_history : List Str := ["_law_bag_here", "_law_most", "_law_kind", "_law_found", "_law_there", "_law_waits", "_law_turn", "_law_event"]
theorem S__law_history : FnScope n__law_history ["_law_bag_here", "_law_most", "_law_kind"] (defScope st__law_history) := ⟨rfl, rfl, rfl, by decide +kernel, rfl, by decide +kernel, by decide +kernel⟩
abbrev st_run : Stmt := topS 25
abbrev n_run : List Str := ["rule", "history", "careful"]
theorem S_run : FnScope n_run ["rule", "history", "careful"] (defScope st_run) := ⟨rfl, rfl, rfl, by decide +kernel, rfl, by decide +kernel, by decide +kernel⟩
abbrev st_held : Stmt := topS 26
abbrev n_held : List Str := ["rule", "history", "careful"]
theorem S_held : FnScope n_held ["rule", "history", "careful"] (defScope st_held) := ⟨rfl, rfl, rfl, by decide +kernel, rfl, by decide +kernel, by decide +kernel⟩
abbrev st_parting : Stmt := topS 32
abbrev n_parting : List Str := ["one", "other"]
theorem S_parting : FnScope n_parting ["one", "other"] (defScope st_parting) := ⟨rfl, rfl, rfl, by decide +kernel, rfl, by decide +kernel, by decide +kernel⟩
abbrev st_harder_history : Stmt := topS 34
abbrev n_harder_history : List Str := ["one", "other"]
theorem S_harder_history : FnScope n_harder_history ["one", "other"] (defScope st_harder_history) := ⟨rfl, rfl, rfl, by decide +kernel, rfl, by decide +kernel, by decide +kernel⟩
abbrev st_fewest_faults : Stmt := topS 53
abbrev n_fewest_faults : List Str := ["rule", "careful"]
theorem S_fewest_faults : FnScope n_fewest_faults ["rule", "careful"] (defScope st_fewest_faults) := ⟨rfl, rfl, rfl, by decide +kernel, rfl, by decide +kernel, by decide +kernel⟩
abbrev st_fault_history : Stmt := topS 54
abbrev n_fault_history : List Str := ["rule", "careful", "faults"]
theorem S_fault_history : FnScope n_fault_history ["rule", "careful"] (defScope st_fault_history) := ⟨rfl, rfl, rfl, by decide +kernel, rfl, by decide +kernel, by decide +kernel⟩
abbrev st_lost_share : Stmt := topS 56
abbrev n_lost_share : List Str := ["rule"]
theorem S_lost_share : FnScope n_lost_share ["rule"] (defScope st_lost_share) := ⟨rfl, rfl, rfl, by decide +kernel, rfl, by decide +kernel, by decide +kernel⟩
abbrev st_lost_cycle : Stmt := topS 57
abbrev n_lost_cycle : List Str := ["rule"]
theorem S_lost_cycle : FnScope n_lost_cycle ["rule"] (defScope st_lost_cycle) := ⟨rfl, rfl, rfl, by decide +kernel, rfl, by decide +kernel, by decide +kernel⟩
abbrev st_fewest_stands : Stmt := topS 60
abbrev n_fewest_stands : List Str := ["rule"]
theorem S_fewest_stands : FnScope n_fewest_stands ["rule"] (defScope st_fewest_stands) := ⟨rfl, rfl, rfl, by decide +kernel, rfl, by decide +kernel, by decide +kernel⟩
abbrev st_alike : Stmt := topS 31
abbrev n_alike : List Str := ["one", "other"]
theorem S_alike : FnScope n_alike ["one", "other"] (defScope st_alike) := ⟨rfl, rfl, rfl, by decide +kernel, rfl, by decide +kernel, by decide +kernel⟩
abbrev st_never_harder : Stmt := topS 33
abbrev n_never_harder : List Str := ["one", "other"]
theorem S_never_harder : FnScope n_never_harder ["one", "other"] (defScope st_never_harder) := ⟨rfl, rfl, rfl, by decide +kernel, rfl, by decide +kernel, by decide +kernel⟩
abbrev st_law : Stmt := topS 69
abbrev n_law : List Str := ["_law_script", "_law_k", "_law_bag_here", "_law_rule_here", "_law_events", "_law_wrong", "_law_odd", "_law_call"]
theorem S_law : FnScope n_law ["_law_script"] (defScope st_law) := ⟨rfl, rfl, rfl, by decide +kernel, rfl, by decide +kernel, by decide +kernel⟩
section
variable {P : Program} {w : World} {K : PySem.W.Frag} {mg : Str → Option Value} {base : Heap}
theorem ok_is_choice (B : Blt mg) {f : Addr} {fd : FuncData} (F : Fun K "is_choice" "is_choice" st_is_choice f fd) (hm : mg "is_choice" = some (.ref f)) : Has P w K mg base "is_choice" 1 (spI K 2 (bodyI 3 2 s_is_choice)) :=
  has_def F hm S_is_choice (by decide) (fun _ _ _ _ _ _ us hl => match us, hl with | [_, _], _ => rfl) fun cdv A outer s H E hr => (ss_cons (ss_if (st_isN (se_var 0)) (ss_one (ss_ret (se_cmp (op_tIn hr.units) se_non (se_var 1) rfl))) ss_nil)
  (ss_cons (ss_if (st_tru (se_isA .tStr (by rfl) B.b_isinstance bb_isinstance (se_var 0) (by rfl) B.b_str bb_str)) (ss_one (ss_ret (se_cmp (op_tIn hr.units) (se_var 0) (se_lc 2 rfl S_is_choice.nd (si_tup (se_var 1)) (blkOk_by (own := [("one", 2)]) (N := n_is_choice) (sc := defScope st_is_choice) (by decide +kernel)) (fun _ _ _ _ _ => pg_name (i := 2) S_is_choice.nd rfl (Or.inl rfl)) (fun _ _ _ _ _ => (sts_one (st_tru (se_isA .tStr (by rfl) B.b_isinstance bb_isinstance (se_var 2) (by rfl) B.b_str bb_str)))) (fun _ _ _ _ _ => (se_var 2))) rfl))) ss_nil)
  (ss_cons (ss_if (st_tru (se_isA .tBool (by rfl) B.b_isinstance bb_isinstance (se_var 0) (by rfl) B.b_bool bb_bool)) (ss_one (ss_ret (se_cmp (op_tIn hr.units) (se_var 0) (se_lc 2 rfl S_is_choice.nd (si_tup (se_var 1)) (blkOk_by (own := [("one", 2)]) (N := n_is_choice) (sc := defScope st_is_choice) (by decide +kernel)) (fun _ _ _ _ _ => pg_name (i := 2) S_is_choice.nd rfl (Or.inl rfl)) (fun _ _ _ _ _ => (sts_one (st_tru (se_isA .tBool (by rfl) B.b_isinstance bb_isinstance (se_var 2) (by rfl) B.b_bool bb_bool)))) (fun _ _ _ _ _ => (se_var 2))) rfl))) ss_nil)
  (ss_cons (ss_if (st_not (st_tru (se_isA .tInt (by rfl) B.b_isinstance bb_isinstance (se_var 0) (by rfl) B.b_int bb_int))) (ss_one (ss_ret se_bl)) ss_nil)
  (ss_one (ss_ret (se_cmp (op_tIn hr.units) (se_var 0) (se_lc 2 rfl S_is_choice.nd (si_tup (se_var 1)) (blkOk_by (own := [("one", 2)]) (N := n_is_choice) (sc := defScope st_is_choice) (by decide +kernel)) (fun _ _ _ _ _ => pg_name (i := 2) S_is_choice.nd rfl (Or.inl rfl)) (fun _ _ _ _ _ => (sts_one (st_w (sw_and (st_tru (se_isA .tInt (by rfl) B.b_isinstance bb_isinstance (se_var 2) (by rfl) B.b_int bb_int)) (sw_and1 (st_not (st_tru (se_isA .tBool (by rfl) B.b_isinstance bb_isinstance (se_var 2) (by rfl) B.b_bool bb_bool)))))))) (fun _ _ _ _ _ => (se_var 2))) rfl)))))))
theorem ok_is_event (B : Blt mg) (C_HOLDERS : HasC K mg "HOLDERS" c_HOLDERS) (C_TICK : HasC K mg "TICK" c_TICK) {f : Addr} {fd : FuncData} (F : Fun K "is_event" "is_event" st_is_event f fd) (hm : mg "is_event" = some (.ref f)) : Has P w K mg base "is_event" 1 (spI K 1 (bodyI 1 1 s_is_event)) :=
  has_def F hm S_is_event (by decide) (fun _ _ _ _ _ _ us hl => match us, hl with | [_], _ => rfl) fun cdv A outer s H E hr => (ss_cons (ss_if (st_not (st_tru (se_isA .tStr (by rfl) B.b_isinstance bb_isinstance (se_var 0) (by rfl) B.b_str bb_str))) (ss_one (ss_ret se_bl)) ss_nil)
  (ss_cons (ss_if (st_cmp (op_tIn hr.units) (se_var 0) (se_tup (sa_cons (sh_glob C_TICK) (sa_cons (se_str [97, 98]) (sa_cons (se_str [98, 97]) sa_nil))) (al_cons (al_cons (al_cons al_nil)))) rfl) (ss_one (ss_ret se_bl)) ss_nil)
  (ss_one (ss_ret (se_and (se_cmp (op_tEq hr.units) (se_callB call_tLen (by rfl) B.b_len bb_len (sa_cons (se_var 0) sa_nil)) se_int (nomark _)) (se_and (se_cmp (op_tIn hr.units) (se_ix (se_var 0) se_int) (sh_glob C_HOLDERS) rfl) (se_and1 (se_cmp (op_tIn hr.units) (se_ix (se_var 0) se_int) (se_str [33, 45, 126, 43]) rfl))))))))
theorem ok__law_bag (B : Blt mg) {f : Addr} {fd : FuncData} (F : Fun K "_law_bag" "_law_bag" st__law_bag f fd) (hm : mg "_law_bag" = some (.ref f)) : Has P w K mg base "_law_bag" 1 (spI K 2 (bodyI 5 2 s_law_bag)) :=
  has_def F hm S__law_bag (by decide) (fun _ _ _ _ _ _ us hl => match us, hl with | [_, _], _ => rfl) fun cdv A outer s H E hr => (ss_cons (ss_set 2 S__law_bag.nd se_int)
  (ss_cons (ss_if (st_cmp op_tLt (se_var 1) (se_callB call_tLen (by rfl) B.b_len bb_len (sa_cons (se_var 0) sa_nil)) (nomark _)) (ss_one (ss_set 2 S__law_bag.nd (se_bin op_tMod (se_callTy call_tInt (by rfl) B.b_int bb_int (sa_cons (se_ix (se_var 0) (se_var 1)) sa_nil)) (se_bin op_tPow se_int se_int)))) ss_nil)
  (ss_cons (ss_set 3 S__law_bag.nd (se_bin op_tAdd (se_bin op_tMul (se_bin op_tMod (se_callTy call_tInt (by rfl) B.b_int bb_int (sa_cons (se_var 2) sa_nil)) se_int) se_int) (se_bin op_tMul (se_bin op_tMul se_int (se_var 1)) (se_var 1))))
  (ss_cons (ss_set 4 S__law_bag.nd (se_bin op_tAdd se_int (se_bin op_tMod (se_callTy call_tInt (by rfl) B.b_int bb_int (sa_cons (se_bin op_tAdd (se_bin op_tAdd (se_var 3) (se_bin op_tMul se_int (se_var 1))) se_int) sa_nil)) se_int)))
  (ss_cons (ss_if (st_cmp op_tLt (se_var 2) (se_bin op_tPow se_int se_int) (nomark _)) (ss_one (ss_ret (se_lstM (sa_cons se_int (sa_cons (se_var 4) sa_nil)) (al_cons (al_cons al_nil))))) ss_nil)
  (ss_one (ss_ret (se_lstM (sa_cons (se_var 2) (sa_cons (se_var 4) sa_nil)) (al_cons (al_cons al_nil))))))))))
theorem ok__law_take (B : Blt mg) {f : Addr} {fd : FuncData} (F : Fun K "_law_take" "_law_take" st__law_take f fd) (hm : mg "_law_take" = some (.ref f)) : Has P w K mg base "_law_take" 1 (spI K 2 (bodyI 4 2 s_law_take)) :=
  has_def F hm S__law_take (by decide) (fun _ _ _ _ _ _ us hl => match us, hl with | [_, _], _ => rfl) fun cdv A outer s H E hr => (ss_cons (ss_if (st_cmp op_tGt (se_ix (se_var 0) se_int) se_int (nomark _)) (ss_cons (ss_set 2 S__law_take.nd (se_bin op_tMod (se_callTy call_tInt (by rfl) B.b_int bb_int (sa_cons (se_ix (se_var 0) se_int) sa_nil)) (se_var 1)))
  (ss_cons (ss_asg (se_bin op_tFDiv (se_callTy call_tInt (by rfl) B.b_int bb_int (sa_cons (se_ix (se_var 0) se_int) sa_nil)) (se_var 1)) (sg_sub (se_var 0) se_int))
  (ss_one (ss_ret (se_var 2))))) ss_nil)
  (ss_cons (ss_asg (se_bin op_tMod (se_callTy call_tInt (by rfl) B.b_int bb_int (sa_cons (se_bin op_tMul (se_ix (se_var 0) se_int) se_int) sa_nil)) se_int) (sg_sub (se_var 0) se_int))
  (ss_cons (ss_set 3 S__law_take.nd (se_bin op_tMul (se_bin op_tFDiv (se_callTy call_tInt (by rfl) B.b_int bb_int (sa_cons (se_ix (se_var 0) se_int) sa_nil)) se_int) (se_bin op_tAdd (se_bin op_tMod (se_callTy call_tInt (by rfl) B.b_int bb_int (sa_cons (se_ix (se_var 0) se_int) sa_nil)) se_int) se_int)))
  (ss_one (ss_ret (se_bin op_tMod (se_callTy call_tInt (by rfl) B.b_int bb_int (sa_cons (se_bin op_tFDiv (se_bin op_tMod (se_callTy call_tInt (by rfl) B.b_int bb_int (sa_cons (se_var 3) sa_nil)) se_int) se_int) sa_nil)) (se_var 1)))))))
theorem ok__law_next_events (B : Blt mg) {f : Addr} {fd : FuncData} (F : Fun K "_law_next_events" "_law_next_events" st__law_next_events f fd) (hm : mg "_law_next_events" = some (.ref f)) : Has P w K mg base "_law_next_events" 1 (spI K 3 (bodyI 6 3 s_law_next_events)) :=
  has_def F hm S__law_next_events (by decide) (fun _ _ _ _ _ _ us hl => match us, hl with | [_, _, _], _ => rfl) fun cdv A outer s H E hr => (ss_cons (ss_set 3 S__law_next_events.nd (se_lst (sa_cons (se_str [46, 46]) sa_nil) (al_cons al_nil)))
  (ss_cons (ss_for PassesOwn.never rfl (si_rng1 (by rfl) B.b_range se_int) (sg_name 4 S__law_next_events.nd) (ss_cons (ss_set 5 S__law_next_events.nd (se_ix (se_str [97, 98]) (se_var 4)))
  (ss_one (ss_if (st_w (sw_and (st_tru (se_ix (se_var 0) (se_var 4))) (sw_and1 (st_w (sw_or (st_cmp (op_tEq hr.units) (se_var 4) se_int (nomark _)) (sw_or1 (st_cmp (op_tNe hr.units) (se_var 2) (se_str [97, 108, 111, 110, 101]) (nomark _)))))))) (ss_cons (ss_set 3 S__law_next_events.nd (se_bin op_tAdd (se_var 3) (se_lst (sa_cons (se_bin op_tAdd (se_var 5) (se_str [33])) (sa_cons (se_bin op_tAdd (se_var 5) (se_str [33])) (sa_cons (se_bin op_tAdd (se_var 5) (se_str [45])) sa_nil))) (al_cons (al_cons (al_cons al_nil))))))
  (ss_cons (ss_if (st_cmp (op_tNe hr.units) (se_var 2) (se_str [112, 108, 97, 105, 110]) (nomark _)) (ss_one (ss_set 3 S__law_next_events.nd (se_bin op_tAdd (se_bin op_tAdd (se_var 3) (se_lst (sa_cons (se_bin op_tAdd (se_var 5) (se_str [126])) sa_nil) (al_cons al_nil))) (se_bin op_tMul (se_lst (sa_cons (se_bin op_tAdd (se_var 5) (se_str [43])) sa_nil) (al_cons al_nil)) (se_callTy call_tInt (by rfl) B.b_int bb_int (sa_cons (se_ix (se_var 1) (se_var 4)) sa_nil)))))) ss_nil)
  (ss_one (ss_if (st_cmp (op_tNe hr.units) (se_var 2) (se_str [97, 108, 111, 110, 101]) (nomark _)) (ss_one (ss_set 3 S__law_next_events.nd (se_bin op_tAdd (se_var 3) (se_slLH (se_lst (sa_cons (se_str [97, 98]) (sa_cons (se_str [98, 97]) sa_nil)) (al_cons (al_cons al_nil))) (se_var 4) (se_bin op_tAdd (se_var 4) se_int))))) ss_nil)))) ss_nil))))
  (ss_one (ss_ret (se_var 3)))))
theorem told__law_error (B : Blt mg) (E_T : HasE K mg "TurnError") (hd_T : ∀ C, mg "TurnError" = some (.ref C) → PySem.W.hasDictIn K C = true) (X_InvalidRule : ∀ D, mg "InvalidRule" = some (.ref D) → ExcC K D) (sb_InvalidRule : ∀ D C, mg "InvalidRule" = some (.ref D) → mg "TurnError" = some (.ref C) → PySem.W.subIn K (.ref D) (.ref C) = some true) (X_InvalidHistory : ∀ D, mg "InvalidHistory" = some (.ref D) → ExcC K D) (sb_InvalidHistory : ∀ D C, mg "InvalidHistory" = some (.ref D) → mg "TurnError" = some (.ref C) → PySem.W.subIn K (.ref D) (.ref C) = some true) (G_InvalidRule : ∃ C, mg "InvalidRule" = some (.ref C)) (S_InvalidRule_InvalidRule : HasSub K mg "InvalidRule" "InvalidRule" (isSub 1 1)) (S_InvalidHistory_InvalidRule : HasSub K mg "InvalidHistory" "InvalidRule" (isSub 2 1)) (G_InvalidHistory : ∃ C, mg "InvalidHistory" = some (.ref C)) (S_InvalidRule_InvalidHistory : HasSub K mg "InvalidRule" "InvalidHistory" (isSub 1 2)) (S_InvalidHistory_InvalidHistory : HasSub K mg "InvalidHistory" "InvalidHistory" (isSub 2 2)) {f : Addr} {fd : FuncData} (F : Fun K "_law_error" "_law_error" st__law_error f fd) (hm : mg "_law_error" = some (.ref f)) : ToldAt K mg "_law_error" t__law_error [110, 111, 110, 101] [1, 2] := by
  have hb := F.binds (ps := ["_law_call"]) (fun _ _ _ _ _ _ us hl => match us, hl with | [_], _ => rfl)
  obtain ⟨⟨oc, od, kV, doc, pm, an, cdv, ct, osl, rfl, lk, hcd⟩, kp⟩ := F
  obtain ⟨CT, hT⟩ := E_T
  obtain ⟨C_InvalidRule, hG_InvalidRule⟩ := G_InvalidRule
  obtain ⟨C_InvalidHistory, hG_InvalidHistory⟩ := G_InvalidHistory
  refine ⟨f, n__law_error, "_law_call", defScope st__law_error, defArgs st__law_error, defBody st__law_error, .none, kV, doc, pm, cdv, ct, oc, an, od, osl, hm, kp, lk, hcd, hb, S__law_error, rfl, .inl rfl, by decide, by decide, fun X q hK hM => ?_⟩
  subst hK hM
  refine told_gives (i := 1) S__law_error.nd rfl rfl rfl hT.g (by decide) (fun _ => rfl) rfl (fun c hc D hD => ?_) (fun Y hYK hYm hYN hYs c hc D hD a oe pn hz hf => ?_)
  · rcases (by simpa using hc : c = 1 ∨ c = 2) with rfl | rfl
    · exact PySem.W.exm_ref hT.b (hd_T _ hT.g) hT.t (sb_InvalidRule D CT hD hT.g)
    · exact PySem.W.exm_ref hT.b (hd_T _ hT.g) hT.t (sb_InvalidHistory D CT hD hT.g)
  · have hg : ∀ {x : Str} C, X.mg x = some (.ref C) → Y.mg x = some (.ref C) := fun C h => by rw [hYm]; exact h
    have hk : ∀ {D C : Addr} {b : Bool}, Unit → PySem.W.kitOne X.K (.ref D) (.ref C) = some b → PySem.W.kitOne Y.K (.ref D) (.ref C) = some b := fun {D C b} _ h => by rw [hYK]; exact h
    have hx : ∀ {D : Addr}, Unit → ExcC X.K D → ExcC Y.K D := fun {D} _ h => by rw [hYK]; exact h
    have gsu : ∀ {x : Str}, (defScope st__law_error).names.lookup x = some .globalImplicit → Gl (Y.suite a ((a, oe) :: pn)) x := fun {x} h => by show Y.env.scope.names.lookup x = _; rw [hYs]; exact h
    have hl : (n__law_error).length = Y.N.length := by rw [hYN]
    rw [hl]
    rcases (by simpa using hc : c = 1 ∨ c = 2) with rfl | rfl
    · exact (told_sif (told_is (cn := "InvalidRule") (hk () (S_InvalidRule_InvalidRule D _ hD hG_InvalidRule)) (hg _ hG_InvalidRule) (hx () (X_InvalidRule D hD)) hz hf (by rw [hYN]; rfl) (by rw [hYm]; exact B.b_isinstance) (gsu rfl) (gsu rfl) (by rw [hYs]; exact .inl rfl) (by decide) (by decide) (by decide) rfl rfl rfl) (told_ret (told_ite (told_is (cn := "InvalidHistory") (hk () (S_InvalidRule_InvalidHistory D _ hD hG_InvalidHistory)) (hg _ hG_InvalidHistory) (hx () (X_InvalidRule D hD)) hz hf (by rw [hYN]; rfl) (by rw [hYm]; exact B.b_isinstance) (gsu rfl) (gsu rfl) (by rw [hYs]; exact .inl rfl) (by decide) (by decide) (by decide) rfl rfl rfl) told_str told_str)) (told_ret (told_ite (told_is (cn := "InvalidHistory") (hk () (S_InvalidRule_InvalidHistory D _ hD hG_InvalidHistory)) (hg _ hG_InvalidHistory) (hx () (X_InvalidRule D hD)) hz hf (by rw [hYN]; rfl) (by rw [hYm]; exact B.b_isinstance) (gsu rfl) (gsu rfl) (by rw [hYs]; exact .inl rfl) (by decide) (by decide) (by decide) rfl rfl rfl) told_str told_str)))
    · exact (told_sif (told_is (cn := "InvalidRule") (hk () (S_InvalidHistory_InvalidRule D _ hD hG_InvalidRule)) (hg _ hG_InvalidRule) (hx () (X_InvalidHistory D hD)) hz hf (by rw [hYN]; rfl) (by rw [hYm]; exact B.b_isinstance) (gsu rfl) (gsu rfl) (by rw [hYs]; exact .inl rfl) (by decide) (by decide) (by decide) rfl rfl rfl) (told_ret (told_ite (told_is (cn := "InvalidHistory") (hk () (S_InvalidHistory_InvalidHistory D _ hD hG_InvalidHistory)) (hg _ hG_InvalidHistory) (hx () (X_InvalidHistory D hD)) hz hf (by rw [hYN]; rfl) (by rw [hYm]; exact B.b_isinstance) (gsu rfl) (gsu rfl) (by rw [hYs]; exact .inl rfl) (by decide) (by decide) (by decide) rfl rfl rfl) told_str told_str)) (told_ret (told_ite (told_is (cn := "InvalidHistory") (hk () (S_InvalidHistory_InvalidHistory D _ hD hG_InvalidHistory)) (hg _ hG_InvalidHistory) (hx () (X_InvalidHistory D hD)) hz hf (by rw [hYN]; rfl) (by rw [hYm]; exact B.b_isinstance) (gsu rfl) (gsu rfl) (by rw [hYs]; exact .inl rfl) (by decide) (by decide) (by decide) rfl rfl rfl) told_str told_str)))
theorem ok_is_rule (B : Blt mg) (H_is_choice : Has P w K mg base "is_choice" 1 (spP K 2 f_is_choice)) (C_CHOICES : HasC K mg "CHOICES" c_CHOICES) (C_PARTS : HasC K mg "PARTS" c_PARTS) {f : Addr} {fd : FuncData} (F : Fun K "is_rule" "is_rule" st_is_rule f fd) (hm : mg "is_rule" = some (.ref f)) : Has P w K mg base "is_rule" 2 (spI K 1 (bodyI 3 1 s_is_rule)) :=
  has_def F hm S_is_rule (by decide) (fun _ _ _ _ _ _ us hl => match us, hl with | [_], _ => rfl) fun cdv A outer s H E hr => (ss_cons (ss_if (st_w (sw_or (st_not (st_tru (se_isA .tTup (by rfl) B.b_isinstance bb_isinstance (se_var 0) (by rfl) B.b_tuple bb_tuple))) (sw_or1 (st_cmp (op_tNe hr.units) (se_callB call_tLen (by rfl) B.b_len bb_len (sa_cons (se_var 0) sa_nil)) (se_callB call_tLen (by rfl) B.b_len bb_len (sa_cons (sh_glob C_PARTS) sa_nil)) (nomark _))))) (ss_one (ss_ret se_bl)) ss_nil)
  (ss_one (ss_ret (se_callB (call_tAll rfl) (by rfl) B.b_all bb_all (sa_cons (se_lcT [1, 2] rfl S_is_rule.nd (si_zip (by rfl) B.b_zip (se_var 0) (sh_glob C_CHOICES)) (blkOk_by (own := [("part", 1), ("choices", 2)]) (N := n_is_rule) (sc := defScope st_is_rule) (by decide +kernel)) (fun _ _ _ _ _ => pg_tup rfl (sgt_cons 1 S_is_rule.nd (sgt_cons 2 S_is_rule.nd sgt_nil))) (fun _ _ _ _ _ => sts_nil) (fun _ _ _ _ _ => (sh_callP H_is_choice (hr.mono (by decide)) (sa_cons (se_var 1) (sa_cons (se_var 2) sa_nil)) (al_cons (al_cons al_nil))))) sa_nil)))))
theorem ok_is_history (B : Blt mg) (H_is_event : Has P w K mg base "is_event" 1 (spP K 1 f_is_event)) (C_HOLDERS : HasC K mg "HOLDERS" c_HOLDERS) (C_TICK : HasC K mg "TICK" c_TICK) (C_MOST_EVENTS : HasC K mg "MOST_EVENTS" c_MOST_EVENTS) {f : Addr} {fd : FuncData} (F : Fun K "is_history" "is_history" st_is_history f fd) (hm : mg "is_history" = some (.ref f)) : Has P w K mg base "is_history" 2 (spI K 1 (bodyI 5 1 s_is_history)) :=
  has_def F hm S_is_history (by decide) (fun _ _ _ _ _ _ us hl => match us, hl with | [_], _ => rfl) fun cdv A outer s H E hr => (ss_cons (ss_if (st_w (sw_or (st_not (st_tru (se_isA .tTup (by rfl) B.b_isinstance bb_isinstance (se_var 0) (by rfl) B.b_tuple bb_tuple))) (sw_or1 (st_cmp op_tGt (se_callB call_tLen (by rfl) B.b_len bb_len (sa_cons (se_var 0) sa_nil)) (sh_glob C_MOST_EVENTS) (nomark _))))) (ss_one (ss_ret se_bl)) ss_nil)
  (ss_cons (ss_set 1 S_is_history.nd (se_lstM (sa_cons se_bl (sa_cons se_bl sa_nil)) (al_cons (al_cons al_nil))))
  (ss_cons (ss_set 2 S_is_history.nd (se_lstM (sa_cons se_bl (sa_cons se_bl sa_nil)) (al_cons (al_cons al_nil))))
  (ss_cons (ss_for PassesOwn.never rfl (si_tup (se_var 0)) (sg_name 3 S_is_history.nd) (ss_cons (ss_if (st_not (st_tru (sh_callP H_is_event (hr.mono (by decide)) (sa_cons (se_var 3) sa_nil) (al_cons al_nil)))) (ss_one (ss_ret se_bl)) ss_nil)
  (ss_cons (ss_if (st_cmp (op_tEq hr.units) (se_var 3) (sh_glob C_TICK) (nomark _)) (ss_one ss_cont) ss_nil)
  (ss_cons (ss_set 4 S_is_history.nd (se_meth (t := .str) PySem.F.plainAttrs_str PySem.F.slot_str_index PySem.F.type_str_index mt_tIndexS (sh_glob C_HOLDERS) (sa_cons (se_ix (se_var 3) se_int) sa_nil)))
  (ss_cons (ss_if (st_w (sw_or (st_not (st_tru (se_ix (se_var 1) (se_var 4)))) (sw_or1 (st_w (sw_and (st_cmp (op_tEq hr.units) (se_ix (se_var 3) se_int) (se_str [43]) (nomark _)) (sw_and1 (st_not (st_tru (se_ix (se_var 2) (se_var 4)))))))))) (ss_one (ss_ret se_bl)) ss_nil)
  (ss_one (ss_if (st_cmp (op_tIn hr.units) (se_ix (se_var 3) se_int) (sh_glob C_HOLDERS) rfl) (ss_cons (ss_asg se_bl (sg_sub (se_var 1) (se_bin op_tSub se_int (se_var 4))))
  (ss_one (ss_asg se_bl (sg_sub (se_var 2) (se_bin op_tSub se_int (se_var 4)))))) (ss_one (ss_if (st_cmp (op_tIn hr.units) (se_ix (se_var 3) se_int) (se_str [126, 43]) rfl) (ss_one (ss_asg (se_cmp (op_tEq hr.units) (se_ix (se_var 3) se_int) (se_str [126]) (nomark _)) (sg_sub (se_var 2) (se_var 4)))) ss_nil)))))))))
  (ss_one (ss_ret se_bl))))))
theorem ok__law_of (B : Blt mg) (H__law_take : Has P w K mg base "_law_take" 1 (spI K 2 i_law_take)) {f : Addr} {fd : FuncData} (F : Fun K "_law_of" "_law_of" st__law_of f fd) (hm : mg "_law_of" = some (.ref f)) : Has P w K mg base "_law_of" 2 (spI K 2 (bodyI 2 2 s_law_of)) :=
  has_def F hm S__law_of (by decide) (fun _ _ _ _ _ _ us hl => match us, hl with | [_, _], _ => rfl) fun cdv A outer s H E hr => (ss_one (ss_ret (se_ix (se_var 1) (sh_callI H__law_take (hr.mono (by decide)) (sa_cons (se_var 0) (sa_cons (se_callB call_tLen (by rfl) B.b_len bb_len (sa_cons (se_var 1) sa_nil)) sa_nil)) (al_cons (al_cons al_nil))))))
theorem ok_need_rule (B : Blt mg) (H_is_rule : Has P w K mg base "is_rule" 2 (spP K 1 f_is_rule)) (E_InvalidRule : HasE K mg "InvalidRule") {f : Addr} {fd : FuncData} (F : Fun K "need_rule" "need_rule" st_need_rule f fd) (hm : mg "need_rule" = some (.ref f)) : HasX P w K mg base "need_rule" 3 (spXI K mg 1 (bodyI 1 1 s_need_rule)) :=
  has_defX F hm S_need_rule (by decide) (fun _ _ _ _ _ _ us hl => match us, hl with | [_], _ => rfl) fun cdv A outer s H E hr => (ss_one (ss_if (st_not (st_tru (sh_callP H_is_rule (hr.mono (by decide)) (sa_cons (se_var 0) sa_nil) (al_cons al_nil)))) (ss_one (ss_raise 1 E_InvalidRule rfl rfl (takes_of rfl rfl rfl rfl))) ss_nil))
theorem ok_need_history (B : Blt mg) (H_is_history : Has P w K mg base "is_history" 2 (spP K 1 f_is_history)) (E_InvalidHistory : HasE K mg "InvalidHistory") {f : Addr} {fd : FuncData} (F : Fun K "need_history" "need_history" st_need_history f fd) (hm : mg "need_history" = some (.ref f)) : HasX P w K mg base "need_history" 3 (spXI K mg 1 (bodyI 1 1 s_need_history)) :=
  has_defX F hm S_need_history (by decide) (fun _ _ _ _ _ _ us hl => match us, hl with | [_], _ => rfl) fun cdv A outer s H E hr => (ss_one (ss_if (st_not (st_tru (sh_callP H_is_history (hr.mono (by decide)) (sa_cons (se_var 0) sa_nil) (al_cons al_nil)))) (ss_one (ss_raise 2 E_InvalidHistory rfl rfl (takes_of rfl rfl rfl rfl))) ss_nil))
theorem ok__law_rule (B : Blt mg) (H__law_of : Has P w K mg base "_law_of" 2 (spI K 2 i_law_of)) (H__law_take : Has P w K mg base "_law_take" 1 (spI K 2 i_law_take)) {f : Addr} {fd : FuncData} (F : Fun K "_law_rule" "_law_rule" st__law_rule f fd) (hm : mg "_law_rule" = some (.ref f)) : Has P w K mg base "_law_rule" 3 (spI K 1 (bodyI 3 1 s_law_rule)) :=
  has_def F hm S__law_rule (by decide) (fun _ _ _ _ _ _ us hl => match us, hl with | [_], _ => rfl) fun cdv A outer s H E hr => (ss_cons (ss_set 1 S__law_rule.nd (se_tup (sa_cons (sh_callI H__law_take (hr.mono (by decide)) (sa_cons (se_var 0) (sa_cons se_int sa_nil)) (al_cons (al_cons al_nil))) (sa_cons (sh_callI H__law_of (hr.mono (by decide)) (sa_cons (se_var 0) (sa_cons (se_lst (sa_cons (se_str [115, 97, 109, 101]) (sa_cons (se_str [110, 101, 119]) sa_nil)) (al_cons (al_cons al_nil))) sa_nil)) (al_cons (al_cons al_nil))) (sa_cons (se_cmp (op_tEq hr.units) (sh_callI H__law_take (hr.mono (by decide)) (sa_cons (se_var 0) (sa_cons se_int sa_nil)) (al_cons (al_cons al_nil))) se_int (nomark _)) sa_nil))) (al_cons (al_cons (al_cons al_nil)))))
  (ss_cons (ss_set 2 S__law_rule.nd (se_tup (sa_cons (sh_callI H__law_of (hr.mono (by decide)) (sa_cons (se_var 0) (sa_cons (se_lst (sa_cons se_non (sa_cons se_non (sa_cons se_int (sa_cons se_int (sa_cons se_int sa_nil))))) (al_cons (al_cons (al_cons (al_cons (al_cons al_nil)))))) sa_nil)) (al_cons (al_cons al_nil))) (sa_cons (sh_callI H__law_of (hr.mono (by decide)) (sa_cons (se_var 0) (sa_cons (se_lst (sa_cons se_non (sa_cons se_non (sa_cons se_int (sa_cons se_int (sa_cons se_int sa_nil))))) (al_cons (al_cons (al_cons (al_cons (al_cons al_nil)))))) sa_nil)) (al_cons (al_cons al_nil))) sa_nil)) (al_cons (al_cons al_nil))))
  (ss_one (ss_ret (se_bin op_tAdd (se_bin op_tAdd (se_var 1) (se_var 2)) (se_tup (sa_cons (se_bin op_tAdd se_int (sh_callI H__law_take (hr.mono (by decide)) (sa_cons (se_var 0) (sa_cons se_int sa_nil)) (al_cons (al_cons al_nil)))) (sa_cons (sh_callI H__law_of (hr.mono (by decide)) (sa_cons (se_var 0) (sa_cons (se_lst (sa_cons (se_str [114, 101, 102, 117, 115, 101]) (sa_cons (se_str [101, 110, 100]) sa_nil)) (al_cons (al_cons al_nil))) sa_nil)) (al_cons (al_cons al_nil))) sa_nil)) (al_cons (al_cons al_nil))))))))
theorem ok__law_history (B : Blt mg) (H__law_take : Has P w K mg base "_law_take" 1 (spI K 2 i_law_take)) (H__law_of : Has P w K mg base "_law_of" 2 (spI K 2 i_law_of)) (H__law_next_events : Has P w K mg base "_law_next_events" 1 (spI K 3 i_law_next_events)) {f : Addr} {fd : FuncData} (F : Fun K "_law_history" "_law_history" st__law_history f fd) (hm : mg "_law_history" = some (.ref f)) : Has P w K mg base "_law_history" 3 (spI K 3 (bodyI 8 3 s_law_history)) :=
  has_def F hm S__law_history (by decide) (fun _ _ _ _ _ _ us hl => match us, hl with | [_, _, _], _ => rfl) fun cdv A outer s H E hr => (ss_cons (ss_par3 3 4 5 rfl S__law_history.nd (sa_cons (se_lstM sa_nil al_nil) (sa_cons (se_lstM (sa_cons se_bl (sa_cons se_bl sa_nil)) (al_cons (al_cons al_nil))) (sa_cons (se_lstM (sa_cons se_bl (sa_cons se_bl sa_nil)) (al_cons (al_cons al_nil))) sa_nil))))
  (ss_cons (ss_for PassesOwn.never rfl (si_rng1 (by rfl) B.b_range (sh_callI H__law_take (hr.mono (by decide)) (sa_cons (se_var 0) (sa_cons (se_bin op_tAdd (se_var 1) se_int) sa_nil)) (al_cons (al_cons al_nil)))) (sg_name 6 S__law_history.nd) (ss_cons (ss_set 7 S__law_history.nd (sh_callI H__law_of (hr.mono (by decide)) (sa_cons (se_var 0) (sa_cons (sh_callI H__law_next_events (hr.mono (by decide)) (sa_cons (se_var 4) (sa_cons (se_var 5) (sa_cons (se_var 2) sa_nil))) (al_cons (al_cons (al_cons al_nil)))) sa_nil)) (al_cons (al_cons al_nil))))
  (ss_cons (ss_expr (se_meth (t := .list) PySem.F.plainAttrs_list PySem.F.slot_list_append PySem.F.type_list_append mt_tAppend (se_var 3) (sa_cons (se_var 7) sa_nil)))
  (ss_one (ss_if (st_cmp (op_tIn hr.units) (se_var 7) (se_lst (sa_cons (se_str [97, 98]) (sa_cons (se_str [98, 97]) sa_nil)) (al_cons (al_cons al_nil))) rfl) (ss_cons (ss_asg se_bl (sg_sub (se_var 4) (se_meth (t := .str) PySem.F.plainAttrs_str PySem.F.slot_str_index PySem.F.type_str_index mt_tIndexS (se_str [98, 97]) (sa_cons (se_ix (se_var 7) se_int) sa_nil))))
  (ss_one (ss_asg se_bl (sg_sub (se_var 5) (se_meth (t := .str) PySem.F.plainAttrs_str PySem.F.slot_str_index PySem.F.type_str_index mt_tIndexS (se_str [98, 97]) (sa_cons (se_ix (se_var 7) se_int) sa_nil)))))) (ss_one (ss_if (st_w (sw_and (st_cmp (op_tIn hr.units) (se_ix (se_var 7) se_int) (se_str [126, 43]) rfl) (sw_and1 (st_cmp (op_tNe hr.units) (se_var 7) (se_str [46, 46]) (nomark _))))) (ss_one (ss_asg (se_cmp (op_tEq hr.units) (se_ix (se_var 7) se_int) (se_str [126]) (nomark _)) (sg_sub (se_var 5) (se_meth (t := .str) PySem.F.plainAttrs_str PySem.F.slot_str_index PySem.F.type_str_index mt_tIndexS (se_str [97, 98]) (sa_cons (se_ix (se_var 7) se_int) sa_nil))))) ss_nil)))))))
  (ss_one (ss_ret (se_callTy call_tTuple (by rfl) B.b_tuple bb_tuple (sa_cons (se_var 3) sa_nil))))))
theorem fn_run (B : Blt mg) (H_need_history : HasX P w K mg base "need_history" 3 (spX K mg 1 f_need_history)) (H_need_rule : HasX P w K mg base "need_rule" 3 (spX K mg 1 f_need_rule)) {f : Addr} {fd : FuncData} (F : Fun K "run" "run" st_run f fd) : FnOk P w K mg base (L2.CX P w) 4 f fd ["rule", "history", "careful"] (spXI K mg 3 (bodyI 3 3 s_run)) :=
  defX F S_run (by decide) fun cdv A outer s H E hr => (ss_cons (ss_expr (sh_callX H_need_rule (hr.mono (by decide)) (takes_of rfl rfl rfl rfl) (sa_cons (se_var 0) sa_nil) (al_cons al_nil)))
  (ss_cons (ss_expr (sh_callX H_need_history (hr.mono (by decide)) (takes_of rfl rfl rfl rfl) (sa_cons (se_var 1) sa_nil) (al_cons al_nil)))
  ss_nevers))
theorem okV_run {f : Addr} {fd : FuncData} (a : FnOk P w K mg base (L2.CX P w) 4 f fd ["rule", "history", "careful"] (spXI K mg 3 (bodyI 3 3 s_run))) (hm : mg "run" = some (.ref f)) (F : FunD K "run" "run" (defArgs st_run) (defBody st_run) (defScope st_run) [] [("careful", .bl false)] f fd) : CalV P w K mg base "run" f 4 [(.bl false)] (spXI K mg 3 (bodyI 3 3 s_run)) :=
  cal_defD (st := st_run) 2 a hm F (by decide) rfl (fun D doc pm an cdv ct us ks hl hl2 => match us, hl, ks, hl2 with | [_, _], _, [_], _ => ⟨_, _, _, _, _, _, rfl, rfl, rfl⟩) (fun g H => .cons (.bl _) (.nil))
theorem fn_held (B : Blt mg) (H_need_history : HasX P w K mg base "need_history" 3 (spX K mg 1 f_need_history)) (H_need_rule : HasX P w K mg base "need_rule" 3 (spX K mg 1 f_need_rule)) {f : Addr} {fd : FuncData} (F : Fun K "held" "held" st_held f fd) : FnOk P w K mg base (L2.CX P w) 4 f fd ["rule", "history", "careful"] (spXI K mg 3 (bodyI 3 3 s_held)) :=
  defX F S_held (by decide) fun cdv A outer s H E hr => (ss_cons (ss_expr (sh_callX H_need_rule (hr.mono (by decide)) (takes_of rfl rfl rfl rfl) (sa_cons (se_var 0) sa_nil) (al_cons al_nil)))
  (ss_cons (ss_expr (sh_callX H_need_history (hr.mono (by decide)) (takes_of rfl rfl rfl rfl) (sa_cons (se_var 1) sa_nil) (al_cons al_nil)))
  ss_nevers))
theorem okV_held {f : Addr} {fd : FuncData} (a : FnOk P w K mg base (L2.CX P w) 4 f fd ["rule", "history", "careful"] (spXI K mg 3 (bodyI 3 3 s_held))) (hm : mg "held" = some (.ref f)) (F : FunD K "held" "held" (defArgs st_held) (defBody st_held) (defScope st_held) [] [("careful", .bl false)] f fd) : CalV P w K mg base "held" f 4 [(.bl false)] (spXI K mg 3 (bodyI 3 3 s_held)) :=
  cal_defD (st := st_held) 2 a hm F (by decide) rfl (fun D doc pm an cdv ct us ks hl hl2 => match us, hl, ks, hl2 with | [_, _], _, [_], _ => ⟨_, _, _, _, _, _, rfl, rfl, rfl⟩) (fun g H => .cons (.bl _) (.nil))
theorem fn_parting (B : Blt mg) (H_need_rule : HasX P w K mg base "need_rule" 3 (spX K mg 1 f_need_rule)) {f : Addr} {fd : FuncData} (F : Fun K "parting" "parting" st_parting f fd) : FnOk P w K mg base (L2.CX P w) 4 f fd ["one", "other"] (spXI K mg 2 (bodyI 2 2 s_parting)) :=
  defX F S_parting (by decide) fun cdv A outer s H E hr => (ss_cons (ss_expr (sh_callX H_need_rule (hr.mono (by decide)) (takes_of rfl rfl rfl rfl) (sa_cons (se_var 0) sa_nil) (al_cons al_nil)))
  (ss_cons (ss_expr (sh_callX H_need_rule (hr.mono (by decide)) (takes_of rfl rfl rfl rfl) (sa_cons (se_var 1) sa_nil) (al_cons al_nil)))
  ss_nevers))
theorem okV_parting {f : Addr} {fd : FuncData} (a : FnOk P w K mg base (L2.CX P w) 4 f fd ["one", "other"] (spXI K mg 2 (bodyI 2 2 s_parting))) (hm : mg "parting" = some (.ref f)) (F : Fun K "parting" "parting" st_parting f fd) : CalV P w K mg base "parting" f 4 [] (spXI K mg 2 (bodyI 2 2 s_parting)) :=
  cal_def a F hm (fun _ _ _ _ _ _ us hl => match us, hl with | [_, _], _ => rfl)
theorem fn_harder_history (B : Blt mg) (H_need_rule : HasX P w K mg base "need_rule" 3 (spX K mg 1 f_need_rule)) {f : Addr} {fd : FuncData} (F : Fun K "harder_history" "harder_history" st_harder_history f fd) : FnOk P w K mg base (L2.CX P w) 4 f fd ["one", "other"] (spXI K mg 2 (bodyI 2 2 s_harder_history)) :=
  defX F S_harder_history (by decide) fun cdv A outer s H E hr => (ss_cons (ss_expr (sh_callX H_need_rule (hr.mono (by decide)) (takes_of rfl rfl rfl rfl) (sa_cons (se_var 0) sa_nil) (al_cons al_nil)))
  (ss_cons (ss_expr (sh_callX H_need_rule (hr.mono (by decide)) (takes_of rfl rfl rfl rfl) (sa_cons (se_var 1) sa_nil) (al_cons al_nil)))
  ss_nevers))
theorem okV_harder_history {f : Addr} {fd : FuncData} (a : FnOk P w K mg base (L2.CX P w) 4 f fd ["one", "other"] (spXI K mg 2 (bodyI 2 2 s_harder_history))) (hm : mg "harder_history" = some (.ref f)) (F : Fun K "harder_history" "harder_history" st_harder_history f fd) : CalV P w K mg base "harder_history" f 4 [] (spXI K mg 2 (bodyI 2 2 s_harder_history)) :=
  cal_def a F hm (fun _ _ _ _ _ _ us hl => match us, hl with | [_, _], _ => rfl)
theorem fn_fewest_faults (B : Blt mg) (H_need_rule : HasX P w K mg base "need_rule" 3 (spX K mg 1 f_need_rule)) {f : Addr} {fd : FuncData} (F : Fun K "fewest_faults" "fewest_faults" st_fewest_faults f fd) : FnOk P w K mg base (L2.CX P w) 4 f fd ["rule", "careful"] (spXI K mg 2 (bodyI 2 2 s_fewest_faults)) :=
  defX F S_fewest_faults (by decide) fun cdv A outer s H E hr => (ss_cons (ss_expr (sh_callX H_need_rule (hr.mono (by decide)) (takes_of rfl rfl rfl rfl) (sa_cons (se_var 0) sa_nil) (al_cons al_nil)))
  ss_nevers)
theorem okV_fewest_faults {f : Addr} {fd : FuncData} (a : FnOk P w K mg base (L2.CX P w) 4 f fd ["rule", "careful"] (spXI K mg 2 (bodyI 2 2 s_fewest_faults))) (hm : mg "fewest_faults" = some (.ref f)) (F : FunD K "fewest_faults" "fewest_faults" (defArgs st_fewest_faults) (defBody st_fewest_faults) (defScope st_fewest_faults) [] [("careful", .bl false)] f fd) : CalV P w K mg base "fewest_faults" f 4 [(.bl false)] (spXI K mg 2 (bodyI 2 2 s_fewest_faults)) :=
  cal_defD (st := st_fewest_faults) 1 a hm F (by decide) rfl (fun D doc pm an cdv ct us ks hl hl2 => match us, hl, ks, hl2 with | [_], _, [_], _ => ⟨_, _, _, _, _, _, rfl, rfl, rfl⟩) (fun g H => .cons (.bl _) (.nil))
theorem fn_fault_history (B : Blt mg) (H_need_rule : HasX P w K mg base "need_rule" 3 (spX K mg 1 f_need_rule)) {f : Addr} {fd : FuncData} (F : Fun K "fault_history" "fault_history" st_fault_history f fd) : FnOk P w K mg base (L2.CX P w) 4 f fd ["rule", "careful"] (spXI K mg 2 (bodyI 3 2 s_fault_history)) :=
  defX F S_fault_history (by decide) fun cdv A outer s H E hr => (ss_cons (ss_expr (sh_callX H_need_rule (hr.mono (by decide)) (takes_of rfl rfl rfl rfl) (sa_cons (se_var 0) sa_nil) (al_cons al_nil)))
  ss_nevers)
theorem okV_fault_history {f : Addr} {fd : FuncData} (a : FnOk P w K mg base (L2.CX P w) 4 f fd ["rule", "careful"] (spXI K mg 2 (bodyI 3 2 s_fault_history))) (hm : mg "fault_history" = some (.ref f)) (F : FunD K "fault_history" "fault_history" (defArgs st_fault_history) (defBody st_fault_history) (defScope st_fault_history) [] [("careful", .bl false)] f fd) : CalV P w K mg base "fault_history" f 4 [(.bl false)] (spXI K mg 2 (bodyI 3 2 s_fault_history)) :=
  cal_defD (st := st_fault_history) 1 a hm F (by decide) rfl (fun D doc pm an cdv ct us ks hl hl2 => match us, hl, ks, hl2 with | [_], _, [_], _ => ⟨_, _, _, _, _, _, rfl, rfl, rfl⟩) (fun g H => .cons (.bl _) (.nil))
theorem fn_lost_share (B : Blt mg) (H_need_rule : HasX P w K mg base "need_rule" 3 (spX K mg 1 f_need_rule)) {f : Addr} {fd : FuncData} (F : Fun K "lost_share" "lost_share" st_lost_share f fd) : FnOk P w K mg base (L2.CX P w) 4 f fd ["rule"] (spXI K mg 1 (bodyI 1 1 s_lost_share)) :=
  defX F S_lost_share (by decide) fun cdv A outer s H E hr => (ss_cons (ss_expr (sh_callX H_need_rule (hr.mono (by decide)) (takes_of rfl rfl rfl rfl) (sa_cons (se_var 0) sa_nil) (al_cons al_nil)))
  ss_nevers)
theorem okV_lost_share {f : Addr} {fd : FuncData} (a : FnOk P w K mg base (L2.CX P w) 4 f fd ["rule"] (spXI K mg 1 (bodyI 1 1 s_lost_share))) (hm : mg "lost_share" = some (.ref f)) (F : Fun K "lost_share" "lost_share" st_lost_share f fd) : CalV P w K mg base "lost_share" f 4 [] (spXI K mg 1 (bodyI 1 1 s_lost_share)) :=
  cal_def a F hm (fun _ _ _ _ _ _ us hl => match us, hl with | [_], _ => rfl)
theorem fn_lost_cycle (B : Blt mg) (H_need_rule : HasX P w K mg base "need_rule" 3 (spX K mg 1 f_need_rule)) {f : Addr} {fd : FuncData} (F : Fun K "lost_cycle" "lost_cycle" st_lost_cycle f fd) : FnOk P w K mg base (L2.CX P w) 4 f fd ["rule"] (spXI K mg 1 (bodyI 1 1 s_lost_cycle)) :=
  defX F S_lost_cycle (by decide) fun cdv A outer s H E hr => (ss_cons (ss_expr (sh_callX H_need_rule (hr.mono (by decide)) (takes_of rfl rfl rfl rfl) (sa_cons (se_var 0) sa_nil) (al_cons al_nil)))
  ss_nevers)
theorem okV_lost_cycle {f : Addr} {fd : FuncData} (a : FnOk P w K mg base (L2.CX P w) 4 f fd ["rule"] (spXI K mg 1 (bodyI 1 1 s_lost_cycle))) (hm : mg "lost_cycle" = some (.ref f)) (F : Fun K "lost_cycle" "lost_cycle" st_lost_cycle f fd) : CalV P w K mg base "lost_cycle" f 4 [] (spXI K mg 1 (bodyI 1 1 s_lost_cycle)) :=
  cal_def a F hm (fun _ _ _ _ _ _ us hl => match us, hl with | [_], _ => rfl)
theorem fn_fewest_stands (B : Blt mg) (H_need_rule : HasX P w K mg base "need_rule" 3 (spX K mg 1 f_need_rule)) {f : Addr} {fd : FuncData} (F : Fun K "fewest_stands" "fewest_stands" st_fewest_stands f fd) : FnOk P w K mg base (L2.CX P w) 4 f fd ["rule"] (spXI K mg 1 (bodyI 1 1 s_fewest_stands)) :=
  defX F S_fewest_stands (by decide) fun cdv A outer s H E hr => (ss_cons (ss_expr (sh_callX H_need_rule (hr.mono (by decide)) (takes_of rfl rfl rfl rfl) (sa_cons (se_var 0) sa_nil) (al_cons al_nil)))
  ss_nevers)
theorem okV_fewest_stands {f : Addr} {fd : FuncData} (a : FnOk P w K mg base (L2.CX P w) 4 f fd ["rule"] (spXI K mg 1 (bodyI 1 1 s_fewest_stands))) (hm : mg "fewest_stands" = some (.ref f)) (F : Fun K "fewest_stands" "fewest_stands" st_fewest_stands f fd) : CalV P w K mg base "fewest_stands" f 4 [] (spXI K mg 1 (bodyI 1 1 s_fewest_stands)) :=
  cal_def a F hm (fun _ _ _ _ _ _ us hl => match us, hl with | [_], _ => rfl)
theorem fn_alike (B : Blt mg) (H_parting : HasX P w K mg base "parting" 4 (spX K mg 2 f_parting)) {f : Addr} {fd : FuncData} (F : Fun K "alike" "alike" st_alike f fd) : FnOk P w K mg base (L2.CX P w) 5 f fd ["one", "other"] (spXI K mg 2 (bodyI 2 2 s_alike)) :=
  defX F S_alike (by decide) fun cdv A outer s H E hr => (ss_one (ss_ret (se_isN (sh_callX H_parting (hr.mono (by decide)) (takes_of rfl rfl rfl rfl) (sa_cons (se_var 0) (sa_cons (se_var 1) sa_nil)) (al_cons (al_cons al_nil))))))
theorem okV_alike {f : Addr} {fd : FuncData} (a : FnOk P w K mg base (L2.CX P w) 5 f fd ["one", "other"] (spXI K mg 2 (bodyI 2 2 s_alike))) (hm : mg "alike" = some (.ref f)) (F : Fun K "alike" "alike" st_alike f fd) : CalV P w K mg base "alike" f 5 [] (spXI K mg 2 (bodyI 2 2 s_alike)) :=
  cal_def a F hm (fun _ _ _ _ _ _ us hl => match us, hl with | [_, _], _ => rfl)
theorem fn_never_harder (B : Blt mg) (H_harder_history : HasX P w K mg base "harder_history" 4 (spX K mg 2 f_harder_history)) {f : Addr} {fd : FuncData} (F : Fun K "never_harder" "never_harder" st_never_harder f fd) : FnOk P w K mg base (L2.CX P w) 5 f fd ["one", "other"] (spXI K mg 2 (bodyI 2 2 s_never_harder)) :=
  defX F S_never_harder (by decide) fun cdv A outer s H E hr => (ss_one (ss_ret (se_isN (sh_callX H_harder_history (hr.mono (by decide)) (takes_of rfl rfl rfl rfl) (sa_cons (se_var 0) (sa_cons (se_var 1) sa_nil)) (al_cons (al_cons al_nil))))))
theorem okV_never_harder {f : Addr} {fd : FuncData} (a : FnOk P w K mg base (L2.CX P w) 5 f fd ["one", "other"] (spXI K mg 2 (bodyI 2 2 s_never_harder))) (hm : mg "never_harder" = some (.ref f)) (F : Fun K "never_harder" "never_harder" st_never_harder f fd) : CalV P w K mg base "never_harder" f 5 [] (spXI K mg 2 (bodyI 2 2 s_never_harder)) :=
  cal_def a F hm (fun _ _ _ _ _ _ us hl => match us, hl with | [_, _], _ => rfl)
theorem ok_law (B : Blt mg) {A_run : Addr} (V_run : CalV P w K mg base "run" A_run 4 [(.bl false)] (spX K mg 3 f_run)) {A_held : Addr} (V_held : CalV P w K mg base "held" A_held 4 [(.bl false)] (spX K mg 3 f_held)) {A_alike : Addr} (V_alike : CalV P w K mg base "alike" A_alike 5 [] (spX K mg 2 f_alike)) {A_parting : Addr} (V_parting : CalV P w K mg base "parting" A_parting 4 [] (spX K mg 2 f_parting)) {A_never_harder : Addr} (V_never_harder : CalV P w K mg base "never_harder" A_never_harder 5 [] (spX K mg 2 f_never_harder)) {A_harder_history : Addr} (V_harder_history : CalV P w K mg base "harder_history" A_harder_history 4 [] (spX K mg 2 f_harder_history)) {A_fewest_faults : Addr} (V_fewest_faults : CalV P w K mg base "fewest_faults" A_fewest_faults 4 [(.bl false)] (spX K mg 2 f_fewest_faults)) {A_fault_history : Addr} (V_fault_history : CalV P w K mg base "fault_history" A_fault_history 4 [(.bl false)] (spX K mg 2 f_fault_history)) {A_lost_share : Addr} (V_lost_share : CalV P w K mg base "lost_share" A_lost_share 4 [] (spX K mg 1 f_lost_share)) {A_lost_cycle : Addr} (V_lost_cycle : CalV P w K mg base "lost_cycle" A_lost_cycle 4 [] (spX K mg 1 f_lost_cycle)) {A_fewest_stands : Addr} (V_fewest_stands : CalV P w K mg base "fewest_stands" A_fewest_stands 4 [] (spX K mg 1 f_fewest_stands)) (H__law_of : Has P w K mg base "_law_of" 2 (spI K 2 i_law_of)) (H__law_history : Has P w K mg base "_law_history" 3 (spI K 3 i_law_history)) (H__law_rule : Has P w K mg base "_law_rule" 3 (spI K 1 i_law_rule)) (H__law_bag : Has P w K mg base "_law_bag" 1 (spI K 2 i_law_bag)) (T__law_error : ToldAt K mg "_law_error" t__law_error [110, 111, 110, 101] [1, 2]) {f c Pt : Addr} {oc kV doc pm ct : Value} {od an : Option Addr} {osl : Array (Option Value)} (lk : K.lookup f = some ⟨oc, od, .func (PySem.W.fnOf "law" "law" (defArgs st_law) (defBody st_law) (defScope st_law) .none kV doc pm an (.ref c) ct), osl⟩) (hcd : PySem.W.codeIn K (.ref c) "law" = true) (TB : LamX.TabB base mg c Pt) (hlaw : ∀ ns : List Int, ns.length ≤ 63 → ∃ m, bodyI 8 1 (s_law Pt A_run A_held A_alike A_parting A_never_harder A_harder_history A_fewest_faults A_fault_history A_lost_share A_lost_cycle A_fewest_stands) [.fz (ns.map PV.int)] [.tab Pt q_lam] = .ok (.bl true, m)) : FnOk P w K mg base CX0 8 f (PySem.W.fnOf "law" "law" (defArgs st_law) (defBody st_law) (defScope st_law) .none kV doc pm an (.ref c) ct) ["_law_script"] (spLawT K Pt) :=
  law_fnT lk hcd S_law (by decide) (fun A outer s H E hr => by have hcode : (Value.ref c) = .ref c := rfl; exact (ss_cons (ss_for PassesOwn.never rfl (si_rng1 (by rfl) B.b_range (se_bin op_tAdd (se_callB (call_tMin rfl) (by rfl) B.b_min bb_min (sa_cons (se_callB call_tLen (by rfl) B.b_len bb_len (sa_cons (se_var 0) sa_nil)) (sa_cons se_int sa_nil))) se_int)) (sg_name 1 S_law.nd) (ss_cons (ss_set 2 S_law.nd (sh_callI H__law_bag (hr.mono (by decide)) (sa_cons (se_var 0) (sa_cons (se_var 1) sa_nil)) (al_cons (al_cons al_nil))))
  (ss_cons (ss_asg (se_tup (sa_cons (sh_callI H__law_rule (hr.mono (by decide)) (sa_cons (se_var 2) sa_nil) (al_cons al_nil)) (sa_cons (sh_callI H__law_history (hr.mono (by decide)) (sa_cons (se_var 2) (sa_cons se_int (sa_cons (se_str [97, 108, 108]) sa_nil))) (al_cons (al_cons (al_cons al_nil)))) sa_nil)) (al_cons (al_cons al_nil))) (sg_tup 2 rfl (sgs_cons 3 S_law.nd (sgs_cons 4 S_law.nd sgs_nil))))
  (ss_cons (ss_set 5 S_law.nd (sh_callI H__law_of (hr.mono (by decide)) (sa_cons (se_var 2) (sa_cons (se_lst (sa_cons se_non (sa_cons (se_tup sa_nil al_nil) (sa_cons (se_slH (se_var 3) se_int) (sa_cons (se_callTy call_tList (by rfl) B.b_list bb_list (sa_cons (se_var 3) sa_nil)) (sa_cons (se_bin op_tAdd (se_var 3) (se_tup (sa_cons se_int sa_nil) (al_cons al_nil))) (sa_cons (se_bin op_tAdd (se_tup (sa_cons se_int sa_nil) (al_cons al_nil)) (se_slL (se_var 3) se_int)) (sa_cons (se_bin op_tAdd (se_slH (se_var 3) se_int) (se_tup (sa_cons (se_str [115, 116, 111, 112]) sa_nil) (al_cons al_nil))) sa_nil))))))) (al_cons (al_cons (al_cons (al_cons (al_cons (al_cons (al_cons al_nil)))))))) sa_nil)) (al_cons (al_cons al_nil))))
  (ss_cons (ss_set 6 S_law.nd (sh_callI H__law_of (hr.mono (by decide)) (sa_cons (se_var 2) (sa_cons (se_lst (sa_cons se_non (sa_cons (se_str [97, 33]) (sa_cons (se_callTy call_tList (by rfl) B.b_list bb_list (sa_cons (se_var 4) sa_nil)) (sa_cons (se_tup (sa_cons (se_str [98, 33]) sa_nil) (al_cons al_nil)) (sa_cons (se_bin op_tAdd (se_var 4) (se_bin op_tMul (se_tup (sa_cons (se_str [98, 43]) sa_nil) (al_cons al_nil)) se_int)) (sa_cons (se_bin op_tAdd (se_var 4) (se_tup (sa_cons (se_str [99, 33]) sa_nil) (al_cons al_nil))) (sa_cons (se_tup (sa_cons se_int sa_nil) (al_cons al_nil)) sa_nil))))))) (al_cons (al_cons (al_cons (al_cons (al_cons (al_cons (al_cons al_nil)))))))) sa_nil)) (al_cons (al_cons al_nil))))
  (ss_cons (ss_for PassesOwn.never rfl (si_list (se_lst (sa_cons (se_fnv V_fewest_faults) (sa_cons (se_fnv V_fault_history) (sa_cons (se_fnv V_lost_share) (sa_cons (se_fnv V_lost_cycle) (sa_cons (se_fnv V_fewest_stands) sa_nil))))) (al_cons (al_cons (al_cons (al_cons (al_cons al_nil))))))) (sg_name 7 S_law.nd) (ss_one (ss_if (st_cmp (op_tNe hr.units) (se_told (k := 4) T__law_error TB hcode (hr.mono (by decide)) (fun A outer s H E f c' hr => (se_callV (j := 4) 7 (tbl_cons V_fewest_faults (by decide) rfl (tbl_cons V_fault_history (by decide) rfl (tbl_cons V_lost_share (by decide) rfl (tbl_cons V_lost_cycle (by decide) rfl (tbl_cons V_fewest_stands (by decide) rfl tbl_nil))))) (hr.mono (by decide)) (takes_of rfl rfl rfl rfl) (sa_cons (se_var 5) sa_nil) (al_cons al_nil)))) (se_str [114, 117, 108, 101]) (nomark _)) (ss_one (ss_ret se_bl)) ss_nil)))
  (ss_cons (ss_for PassesOwn.never rfl (si_list (se_lst (sa_cons (se_fnv V_run) (sa_cons (se_fnv V_held) sa_nil)) (al_cons (al_cons al_nil)))) (sg_name 7 S_law.nd) (ss_cons (ss_if (st_cmp (op_tNe hr.units) (se_told (k := 4) T__law_error TB hcode (hr.mono (by decide)) (fun A outer s H E f c' hr => (se_callV (j := 4) 7 (tbl_cons V_run (by decide) rfl (tbl_cons V_held (by decide) rfl tbl_nil)) (hr.mono (by decide)) (takes_of rfl rfl rfl rfl) (sa_cons (se_var 5) (sa_cons (se_var 6) sa_nil)) (al_cons (al_cons al_nil))))) (se_str [114, 117, 108, 101]) (nomark _)) (ss_one (ss_ret se_bl)) ss_nil)
  (ss_one (ss_if (st_cmp (op_tNe hr.units) (se_told (k := 4) T__law_error TB hcode (hr.mono (by decide)) (fun A outer s H E f c' hr => (se_callV (j := 4) 7 (tbl_cons V_run (by decide) rfl (tbl_cons V_held (by decide) rfl tbl_nil)) (hr.mono (by decide)) (takes_of rfl rfl rfl rfl) (sa_cons (se_var 3) (sa_cons (se_var 6) sa_nil)) (al_cons (al_cons al_nil))))) (se_str [104, 105, 115, 116, 111, 114, 121]) (nomark _)) (ss_one (ss_ret se_bl)) ss_nil))))
  (ss_one (ss_for PassesOwn.never rfl (si_list (se_lst (sa_cons (se_fnv V_alike) (sa_cons (se_fnv V_parting) (sa_cons (se_fnv V_never_harder) (sa_cons (se_fnv V_harder_history) sa_nil)))) (al_cons (al_cons (al_cons (al_cons al_nil)))))) (sg_name 7 S_law.nd) (ss_cons (ss_if (st_cmp (op_tNe hr.units) (se_told (k := 5) T__law_error TB hcode (hr.mono (by decide)) (fun A outer s H E f c' hr => (se_callV (j := 5) 7 (tbl_cons V_alike (by decide) rfl (tbl_cons V_parting (by decide) rfl (tbl_cons V_never_harder (by decide) rfl (tbl_cons V_harder_history (by decide) rfl tbl_nil)))) (hr.mono (by decide)) (takes_of rfl rfl rfl rfl) (sa_cons (se_var 5) (sa_cons (se_var 3) sa_nil)) (al_cons (al_cons al_nil))))) (se_str [114, 117, 108, 101]) (nomark _)) (ss_one (ss_ret se_bl)) ss_nil)
  (ss_one (ss_if (st_cmp (op_tNe hr.units) (se_told (k := 5) T__law_error TB hcode (hr.mono (by decide)) (fun A outer s H E f c' hr => (se_callV (j := 5) 7 (tbl_cons V_alike (by decide) rfl (tbl_cons V_parting (by decide) rfl (tbl_cons V_never_harder (by decide) rfl (tbl_cons V_harder_history (by decide) rfl tbl_nil)))) (hr.mono (by decide)) (takes_of rfl rfl rfl rfl) (sa_cons (se_var 3) (sa_cons (se_var 5) sa_nil)) (al_cons (al_cons al_nil))))) (se_str [114, 117, 108, 101]) (nomark _)) (ss_one (ss_ret se_bl)) ss_nil))))))))))))
  (ss_one (ss_ret se_bl)))) hlaw
end
end TT
end

section
set_option Elab.async false
set_option linter.all false
set_option autoImplicit false
set_option maxRecDepth 100000
set_option maxHeartbeats 4000000
namespace TT
open PySem PySem.Spec PyProof.Rows L2
theorem all_mk {l : PySem.W.OpenLaw} {w : World} {K : PySem.W.Frag} {h : Heap} {mg : Str → Option Value} {fa : Addr} (X : K.In h) (G : h.Ns mainGlobals mg) (hfa : mg "law" = some (.ref fa)) (own : LamX.OwnTab K fa h)
    {f1 : Addr} {od1 an1 : Option Addr} {sl1 : Array (Option Value)} {oc1 kV1 dc1 pm1 cd1 ct1 : Value} (a1 : PySem.W.nsIn K mainGlobals "is_choice" = some (some (.ref f1))) (l1 : K.lookup f1 = some ⟨oc1, od1, .func (PySem.W.fnOf "is_choice" "is_choice" (defArgs st_is_choice) (defBody st_is_choice) (defScope st_is_choice) .none kV1 dc1 pm1 an1 cd1 ct1), sl1⟩) (e1 : PySem.W.codeIn K cd1 "is_choice" = true) (k1 : PySem.W.keepIn K (.ref f1) = true)
    {f2 : Addr} {od2 an2 : Option Addr} {sl2 : Array (Option Value)} {oc2 kV2 dc2 pm2 cd2 ct2 : Value} (a2 : PySem.W.nsIn K mainGlobals "is_event" = some (some (.ref f2))) (l2 : K.lookup f2 = some ⟨oc2, od2, .func (PySem.W.fnOf "is_event" "is_event" (defArgs st_is_event) (defBody st_is_event) (defScope st_is_event) .none kV2 dc2 pm2 an2 cd2 ct2), sl2⟩) (e2 : PySem.W.codeIn K cd2 "is_event" = true) (k2 : PySem.W.keepIn K (.ref f2) = true)
    {f3 : Addr} {od3 an3 : Option Addr} {sl3 : Array (Option Value)} {oc3 kV3 dc3 pm3 cd3 ct3 : Value} (a3 : PySem.W.nsIn K mainGlobals "_law_bag" = some (some (.ref f3))) (l3 : K.lookup f3 = some ⟨oc3, od3, .func (PySem.W.fnOf "_law_bag" "_law_bag" (defArgs st__law_bag) (defBody st__law_bag) (defScope st__law_bag) .none kV3 dc3 pm3 an3 cd3 ct3), sl3⟩) (e3 : PySem.W.codeIn K cd3 "_law_bag" = true) (k3 : PySem.W.keepIn K (.ref f3) = true)
    {f4 : Addr} {od4 an4 : Option Addr} {sl4 : Array (Option Value)} {oc4 kV4 dc4 pm4 cd4 ct4 : Value} (a4 : PySem.W.nsIn K mainGlobals "_law_take" = some (some (.ref f4))) (l4 : K.lookup f4 = some ⟨oc4, od4, .func (PySem.W.fnOf "_law_take" "_law_take" (defArgs st__law_take) (defBody st__law_take) (defScope st__law_take) .none kV4 dc4 pm4 an4 cd4 ct4), sl4⟩) (e4 : PySem.W.codeIn K cd4 "_law_take" = true) (k4 : PySem.W.keepIn K (.ref f4) = true)
    {f5 : Addr} {od5 an5 : Option Addr} {sl5 : Array (Option Value)} {oc5 kV5 dc5 pm5 cd5 ct5 : Value} (a5 : PySem.W.nsIn K mainGlobals "_law_next_events" = some (some (.ref f5))) (l5 : K.lookup f5 = some ⟨oc5, od5, .func (PySem.W.fnOf "_law_next_events" "_law_next_events" (defArgs st__law_next_events) (defBody st__law_next_events) (defScope st__law_next_events) .none kV5 dc5 pm5 an5 cd5 ct5), sl5⟩) (e5 : PySem.W.codeIn K cd5 "_law_next_events" = true) (k5 : PySem.W.keepIn K (.ref f5) = true)
    {f6 : Addr} {od6 an6 : Option Addr} {sl6 : Array (Option Value)} {oc6 kV6 dc6 pm6 cd6 ct6 : Value} (a6 : PySem.W.nsIn K mainGlobals "_law_error" = some (some (.ref f6))) (l6 : K.lookup f6 = some ⟨oc6, od6, .func (PySem.W.fnOf "_law_error" "_law_error" (defArgs st__law_error) (defBody st__law_error) (defScope st__law_error) .none kV6 dc6 pm6 an6 cd6 ct6), sl6⟩) (e6 : PySem.W.codeIn K cd6 "_law_error" = true) (k6 : PySem.W.keepIn K (.ref f6) = true)
    {f7 : Addr} {od7 an7 : Option Addr} {sl7 : Array (Option Value)} {oc7 kV7 dc7 pm7 cd7 ct7 : Value} (a7 : PySem.W.nsIn K mainGlobals "is_rule" = some (some (.ref f7))) (l7 : K.lookup f7 = some ⟨oc7, od7, .func (PySem.W.fnOf "is_rule" "is_rule" (defArgs st_is_rule) (defBody st_is_rule) (defScope st_is_rule) .none kV7 dc7 pm7 an7 cd7 ct7), sl7⟩) (e7 : PySem.W.codeIn K cd7 "is_rule" = true) (k7 : PySem.W.keepIn K (.ref f7) = true)
    {f8 : Addr} {od8 an8 : Option Addr} {sl8 : Array (Option Value)} {oc8 kV8 dc8 pm8 cd8 ct8 : Value} (a8 : PySem.W.nsIn K mainGlobals "is_history" = some (some (.ref f8))) (l8 : K.lookup f8 = some ⟨oc8, od8, .func (PySem.W.fnOf "is_history" "is_history" (defArgs st_is_history) (defBody st_is_history) (defScope st_is_history) .none kV8 dc8 pm8 an8 cd8 ct8), sl8⟩) (e8 : PySem.W.codeIn K cd8 "is_history" = true) (k8 : PySem.W.keepIn K (.ref f8) = true)
    {f9 : Addr} {od9 an9 : Option Addr} {sl9 : Array (Option Value)} {oc9 kV9 dc9 pm9 cd9 ct9 : Value} (a9 : PySem.W.nsIn K mainGlobals "_law_of" = some (some (.ref f9))) (l9 : K.lookup f9 = some ⟨oc9, od9, .func (PySem.W.fnOf "_law_of" "_law_of" (defArgs st__law_of) (defBody st__law_of) (defScope st__law_of) .none kV9 dc9 pm9 an9 cd9 ct9), sl9⟩) (e9 : PySem.W.codeIn K cd9 "_law_of" = true) (k9 : PySem.W.keepIn K (.ref f9) = true)
    {f10 : Addr} {od10 an10 : Option Addr} {sl10 : Array (Option Value)} {oc10 kV10 dc10 pm10 cd10 ct10 : Value} (a10 : PySem.W.nsIn K mainGlobals "need_rule" = some (some (.ref f10))) (l10 : K.lookup f10 = some ⟨oc10, od10, .func (PySem.W.fnOf "need_rule" "need_rule" (defArgs st_need_rule) (defBody st_need_rule) (defScope st_need_rule) .none kV10 dc10 pm10 an10 cd10 ct10), sl10⟩) (e10 : PySem.W.codeIn K cd10 "need_rule" = true) (k10 : PySem.W.keepIn K (.ref f10) = true)
    {f11 : Addr} {od11 an11 : Option Addr} {sl11 : Array (Option Value)} {oc11 kV11 dc11 pm11 cd11 ct11 : Value} (a11 : PySem.W.nsIn K mainGlobals "need_history" = some (some (.ref f11))) (l11 : K.lookup f11 = some ⟨oc11, od11, .func (PySem.W.fnOf "need_history" "need_history" (defArgs st_need_history) (defBody st_need_history) (defScope st_need_history) .none kV11 dc11 pm11 an11 cd11 ct11), sl11⟩) (e11 : PySem.W.codeIn K cd11 "need_history" = true) (k11 : PySem.W.keepIn K (.ref f11) = true)
    {f12 : Addr} {od12 an12 : Option Addr} {sl12 : Array (Option Value)} {oc12 kV12 dc12 pm12 cd12 ct12 : Value} (a12 : PySem.W.nsIn K mainGlobals "_law_rule" = some (some (.ref f12))) (l12 : K.lookup f12 = some ⟨oc12, od12, .func (PySem.W.fnOf "_law_rule" "_law_rule" (defArgs st__law_rule) (defBody st__law_rule) (defScope st__law_rule) .none kV12 dc12 pm12 an12 cd12 ct12), sl12⟩) (e12 : PySem.W.codeIn K cd12 "_law_rule" = true) (k12 : PySem.W.keepIn K (.ref f12) = true)
    {f13 : Addr} {od13 an13 : Option Addr} {sl13 : Array (Option Value)} {oc13 kV13 dc13 pm13 cd13 ct13 : Value} (a13 : PySem.W.nsIn K mainGlobals "_law_history" = some (some (.ref f13))) (l13 : K.lookup f13 = some ⟨oc13, od13, .func (PySem.W.fnOf "_law_history" "_law_history" (defArgs st__law_history) (defBody st__law_history) (defScope st__law_history) .none kV13 dc13 pm13 an13 cd13 ct13), sl13⟩) (e13 : PySem.W.codeIn K cd13 "_law_history" = true) (k13 : PySem.W.keepIn K (.ref f13) = true)
    {f14 D14 : Addr} {od14 an14 : Option Addr} {sl14 : Array (Option Value)} {oc14 dc14 pm14 cd14 ct14 : Value} (a14 : PySem.W.nsIn K mainGlobals "run" = some (some (.ref f14))) (l14 : K.lookup f14 = some ⟨oc14, od14, .func (PySem.W.fnOf "run" "run" (defArgs st_run) (defBody st_run) (defScope st_run) .none (.ref D14) dc14 pm14 an14 cd14 ct14), sl14⟩) (e14 : PySem.W.codeIn K cd14 "run" = true) (k14 : PySem.W.keepIn K (.ref f14) = true)
    (d14_careful : PySem.W.nsIn K D14 "careful" = some (some (.bool false)))
    {f15 D15 : Addr} {od15 an15 : Option Addr} {sl15 : Array (Option Value)} {oc15 dc15 pm15 cd15 ct15 : Value} (a15 : PySem.W.nsIn K mainGlobals "held" = some (some (.ref f15))) (l15 : K.lookup f15 = some ⟨oc15, od15, .func (PySem.W.fnOf "held" "held" (defArgs st_held) (defBody st_held) (defScope st_held) .none (.ref D15) dc15 pm15 an15 cd15 ct15), sl15⟩) (e15 : PySem.W.codeIn K cd15 "held" = true) (k15 : PySem.W.keepIn K (.ref f15) = true)
    (d15_careful : PySem.W.nsIn K D15 "careful" = some (some (.bool false)))
    {f16 : Addr} {od16 an16 : Option Addr} {sl16 : Array (Option Value)} {oc16 kV16 dc16 pm16 cd16 ct16 : Value} (a16 : PySem.W.nsIn K mainGlobals "parting" = some (some (.ref f16))) (l16 : K.lookup f16 = some ⟨oc16, od16, .func (PySem.W.fnOf "parting" "parting" (defArgs st_parting) (defBody st_parting) (defScope st_parting) .none kV16 dc16 pm16 an16 cd16 ct16), sl16⟩) (e16 : PySem.W.codeIn K cd16 "parting" = true) (k16 : PySem.W.keepIn K (.ref f16) = true)
    {f17 : Addr} {od17 an17 : Option Addr} {sl17 : Array (Option Value)} {oc17 kV17 dc17 pm17 cd17 ct17 : Value} (a17 : PySem.W.nsIn K mainGlobals "harder_history" = some (some (.ref f17))) (l17 : K.lookup f17 = some ⟨oc17, od17, .func (PySem.W.fnOf "harder_history" "harder_history" (defArgs st_harder_history) (defBody st_harder_history) (defScope st_harder_history) .none kV17 dc17 pm17 an17 cd17 ct17), sl17⟩) (e17 : PySem.W.codeIn K cd17 "harder_history" = true) (k17 : PySem.W.keepIn K (.ref f17) = true)
    {f18 D18 : Addr} {od18 an18 : Option Addr} {sl18 : Array (Option Value)} {oc18 dc18 pm18 cd18 ct18 : Value} (a18 : PySem.W.nsIn K mainGlobals "fewest_faults" = some (some (.ref f18))) (l18 : K.lookup f18 = some ⟨oc18, od18, .func (PySem.W.fnOf "fewest_faults" "fewest_faults" (defArgs st_fewest_faults) (defBody st_fewest_faults) (defScope st_fewest_faults) .none (.ref D18) dc18 pm18 an18 cd18 ct18), sl18⟩) (e18 : PySem.W.codeIn K cd18 "fewest_faults" = true) (k18 : PySem.W.keepIn K (.ref f18) = true)
    (d18_careful : PySem.W.nsIn K D18 "careful" = some (some (.bool false)))
    {f19 D19 : Addr} {od19 an19 : Option Addr} {sl19 : Array (Option Value)} {oc19 dc19 pm19 cd19 ct19 : Value} (a19 : PySem.W.nsIn K mainGlobals "fault_history" = some (some (.ref f19))) (l19 : K.lookup f19 = some ⟨oc19, od19, .func (PySem.W.fnOf "fault_history" "fault_history" (defArgs st_fault_history) (defBody st_fault_history) (defScope st_fault_history) .none (.ref D19) dc19 pm19 an19 cd19 ct19), sl19⟩) (e19 : PySem.W.codeIn K cd19 "fault_history" = true) (k19 : PySem.W.keepIn K (.ref f19) = true)
    (d19_careful : PySem.W.nsIn K D19 "careful" = some (some (.bool false)))
    {f20 : Addr} {od20 an20 : Option Addr} {sl20 : Array (Option Value)} {oc20 kV20 dc20 pm20 cd20 ct20 : Value} (a20 : PySem.W.nsIn K mainGlobals "lost_share" = some (some (.ref f20))) (l20 : K.lookup f20 = some ⟨oc20, od20, .func (PySem.W.fnOf "lost_share" "lost_share" (defArgs st_lost_share) (defBody st_lost_share) (defScope st_lost_share) .none kV20 dc20 pm20 an20 cd20 ct20), sl20⟩) (e20 : PySem.W.codeIn K cd20 "lost_share" = true) (k20 : PySem.W.keepIn K (.ref f20) = true)
    {f21 : Addr} {od21 an21 : Option Addr} {sl21 : Array (Option Value)} {oc21 kV21 dc21 pm21 cd21 ct21 : Value} (a21 : PySem.W.nsIn K mainGlobals "lost_cycle" = some (some (.ref f21))) (l21 : K.lookup f21 = some ⟨oc21, od21, .func (PySem.W.fnOf "lost_cycle" "lost_cycle" (defArgs st_lost_cycle) (defBody st_lost_cycle) (defScope st_lost_cycle) .none kV21 dc21 pm21 an21 cd21 ct21), sl21⟩) (e21 : PySem.W.codeIn K cd21 "lost_cycle" = true) (k21 : PySem.W.keepIn K (.ref f21) = true)
    {f22 : Addr} {od22 an22 : Option Addr} {sl22 : Array (Option Value)} {oc22 kV22 dc22 pm22 cd22 ct22 : Value} (a22 : PySem.W.nsIn K mainGlobals "fewest_stands" = some (some (.ref f22))) (l22 : K.lookup f22 = some ⟨oc22, od22, .func (PySem.W.fnOf "fewest_stands" "fewest_stands" (defArgs st_fewest_stands) (defBody st_fewest_stands) (defScope st_fewest_stands) .none kV22 dc22 pm22 an22 cd22 ct22), sl22⟩) (e22 : PySem.W.codeIn K cd22 "fewest_stands" = true) (k22 : PySem.W.keepIn K (.ref f22) = true)
    {f23 : Addr} {od23 an23 : Option Addr} {sl23 : Array (Option Value)} {oc23 kV23 dc23 pm23 cd23 ct23 : Value} (a23 : PySem.W.nsIn K mainGlobals "alike" = some (some (.ref f23))) (l23 : K.lookup f23 = some ⟨oc23, od23, .func (PySem.W.fnOf "alike" "alike" (defArgs st_alike) (defBody st_alike) (defScope st_alike) .none kV23 dc23 pm23 an23 cd23 ct23), sl23⟩) (e23 : PySem.W.codeIn K cd23 "alike" = true) (k23 : PySem.W.keepIn K (.ref f23) = true)
    {f24 : Addr} {od24 an24 : Option Addr} {sl24 : Array (Option Value)} {oc24 kV24 dc24 pm24 cd24 ct24 : Value} (a24 : PySem.W.nsIn K mainGlobals "never_harder" = some (some (.ref f24))) (l24 : K.lookup f24 = some ⟨oc24, od24, .func (PySem.W.fnOf "never_harder" "never_harder" (defArgs st_never_harder) (defBody st_never_harder) (defScope st_never_harder) .none kV24 dc24 pm24 an24 cd24 ct24), sl24⟩) (e24 : PySem.W.codeIn K cd24 "never_harder" = true) (k24 : PySem.W.keepIn K (.ref f24) = true)
    {f25 : Addr} {od25 an25 : Option Addr} {sl25 : Array (Option Value)} {oc25 kV25 dc25 pm25 ct25 : Value} {c_law P_law : Addr} (a25 : PySem.W.nsIn K mainGlobals "law" = some (some (.ref f25))) (l25 : K.lookup f25 = some ⟨oc25, od25, .func (PySem.W.fnOf "law" "law" (defArgs st_law) (defBody st_law) (defScope st_law) .none kV25 dc25 pm25 an25 (.ref c_law) ct25), sl25⟩) (e25 : PySem.W.codeIn K (.ref c_law) "law" = true) (k25 : PySem.W.keepIn K (.ref f25) = true)
    (z_all : PySem.W.nsIn K mainGlobals "all" = some none)
    (z_bool : PySem.W.nsIn K mainGlobals "bool" = some none)
    (z_int : PySem.W.nsIn K mainGlobals "int" = some none)
    (z_isinstance : PySem.W.nsIn K mainGlobals "isinstance" = some none)
    (z_len : PySem.W.nsIn K mainGlobals "len" = some none)
    (z_list : PySem.W.nsIn K mainGlobals "list" = some none)
    (z_min : PySem.W.nsIn K mainGlobals "min" = some none)
    (z_range : PySem.W.nsIn K mainGlobals "range" = some none)
    (z_str : PySem.W.nsIn K mainGlobals "str" = some none)
    (z_tuple : PySem.W.nsIn K mainGlobals "tuple" = some none)
    (z_zip : PySem.W.nsIn K mainGlobals "zip" = some none)
    {a_CHOICES : Addr} {a_CHOICES0 : Addr} {tk_CHOICES0_0 : Tok} {tk_CHOICES0_1 : Tok} {tk_CHOICES0_2 : Tok} {a_CHOICES1 : Addr} {tk_CHOICES1_0 : Tok} {tk_CHOICES1_1 : Tok} {a_CHOICES2 : Addr} {a_CHOICES3 : Addr} {tk_CHOICES3_1 : Tok} {tk_CHOICES3_2 : Tok} {tk_CHOICES3_3 : Tok} {a_CHOICES4 : Addr} {tk_CHOICES4_1 : Tok} {tk_CHOICES4_2 : Tok} {tk_CHOICES4_3 : Tok} {a_CHOICES5 : Addr} {tk_CHOICES5_0 : Tok} {tk_CHOICES5_1 : Tok} {tk_CHOICES5_2 : Tok} {a_CHOICES6 : Addr} {tk_CHOICES6_0 : Tok} {tk_CHOICES6_1 : Tok} (g_CHOICES : PySem.W.nsIn K mainGlobals "CHOICES" = some (some (.ref a_CHOICES))) {od_CHOICES : Option Addr} {n_CHOICES : Nat} {sl_CHOICES : Array (Option Value)} (l_CHOICES : K.lookup a_CHOICES = some ⟨.type "tuple", od_CHOICES, .seq #[.ref a_CHOICES0, .ref a_CHOICES1, .ref a_CHOICES2, .ref a_CHOICES3, .ref a_CHOICES4, .ref a_CHOICES5, .ref a_CHOICES6] n_CHOICES, sl_CHOICES⟩) {od_CHOICES0 : Option Addr} {n_CHOICES0 : Nat} {sl_CHOICES0 : Array (Option Value)} (l_CHOICES0 : K.lookup a_CHOICES0 = some ⟨.type "tuple", od_CHOICES0, .seq #[.int 0 tk_CHOICES0_0, .int 1 tk_CHOICES0_1, .int 2 tk_CHOICES0_2] n_CHOICES0, sl_CHOICES0⟩) {od_CHOICES1 : Option Addr} {n_CHOICES1 : Nat} {sl_CHOICES1 : Array (Option Value)} (l_CHOICES1 : K.lookup a_CHOICES1 = some ⟨.type "tuple", od_CHOICES1, .seq #[.str ⟨#[110, 101, 119]⟩ tk_CHOICES1_0, .str ⟨#[115, 97, 109, 101]⟩ tk_CHOICES1_1] n_CHOICES1, sl_CHOICES1⟩) {od_CHOICES2 : Option Addr} {n_CHOICES2 : Nat} {sl_CHOICES2 : Array (Option Value)} (l_CHOICES2 : K.lookup a_CHOICES2 = some ⟨.type "tuple", od_CHOICES2, .seq #[.bool false, .bool true] n_CHOICES2, sl_CHOICES2⟩) {od_CHOICES3 : Option Addr} {n_CHOICES3 : Nat} {sl_CHOICES3 : Array (Option Value)} (l_CHOICES3 : K.lookup a_CHOICES3 = some ⟨.type "tuple", od_CHOICES3, .seq #[.none, .int 0 tk_CHOICES3_1, .int 1 tk_CHOICES3_2, .int 2 tk_CHOICES3_3] n_CHOICES3, sl_CHOICES3⟩) {od_CHOICES4 : Option Addr} {n_CHOICES4 : Nat} {sl_CHOICES4 : Array (Option Value)} (l_CHOICES4 : K.lookup a_CHOICES4 = some ⟨.type "tuple", od_CHOICES4, .seq #[.none, .int 0 tk_CHOICES4_1, .int 1 tk_CHOICES4_2, .int 2 tk_CHOICES4_3] n_CHOICES4, sl_CHOICES4⟩) {od_CHOICES5 : Option Addr} {n_CHOICES5 : Nat} {sl_CHOICES5 : Array (Option Value)} (l_CHOICES5 : K.lookup a_CHOICES5 = some ⟨.type "tuple", od_CHOICES5, .seq #[.int 1 tk_CHOICES5_0, .int 2 tk_CHOICES5_1, .int 3 tk_CHOICES5_2] n_CHOICES5, sl_CHOICES5⟩) {od_CHOICES6 : Option Addr} {n_CHOICES6 : Nat} {sl_CHOICES6 : Array (Option Value)} (l_CHOICES6 : K.lookup a_CHOICES6 = some ⟨.type "tuple", od_CHOICES6, .seq #[.str ⟨#[101, 110, 100]⟩ tk_CHOICES6_0, .str ⟨#[114, 101, 102, 117, 115, 101]⟩ tk_CHOICES6_1] n_CHOICES6, sl_CHOICES6⟩)
    {t_HOLDERS : Tok} (g_HOLDERS : PySem.W.nsIn K mainGlobals "HOLDERS" = some (some (.str "ab" t_HOLDERS)))
    {t_MOST_EVENTS : Tok} (g_MOST_EVENTS : PySem.W.nsIn K mainGlobals "MOST_EVENTS" = some (some (.int 40 t_MOST_EVENTS)))
    {a_PARTS : Addr} {tk_PARTS_0 : Tok} {tk_PARTS_1 : Tok} {tk_PARTS_2 : Tok} {tk_PARTS_3 : Tok} {tk_PARTS_4 : Tok} {tk_PARTS_5 : Tok} {tk_PARTS_6 : Tok} (g_PARTS : PySem.W.nsIn K mainGlobals "PARTS" = some (some (.ref a_PARTS))) {od_PARTS : Option Addr} {n_PARTS : Nat} {sl_PARTS : Array (Option Value)} (l_PARTS : K.lookup a_PARTS = some ⟨.type "tuple", od_PARTS, .seq #[.str ⟨#[107, 101, 101, 112]⟩ tk_PARTS_0, .str ⟨#[114, 101, 112, 108, 121]⟩ tk_PARTS_1, .str ⟨#[115, 116, 114, 105, 99, 116]⟩ tk_PARTS_2, .str ⟨#[108, 101, 101, 119, 97, 121]⟩ tk_PARTS_3, .str ⟨#[115, 112, 97, 114, 101]⟩ tk_PARTS_4, .str ⟨#[101, 118, 101, 114, 121]⟩ tk_PARTS_5, .str ⟨#[111, 108, 100]⟩ tk_PARTS_6] n_PARTS, sl_PARTS⟩)
    {t_TICK : Tok} (g_TICK : PySem.W.nsIn K mainGlobals "TICK" = some (some (.str ".." t_TICK)))
    {C_InvalidHistory : Addr} (ga_InvalidHistory : PySem.W.nsIn K mainGlobals "InvalidHistory" = some (some (.ref C_InvalidHistory)))
    {C_InvalidRule : Addr} (ga_InvalidRule : PySem.W.nsIn K mainGlobals "InvalidRule" = some (some (.ref C_InvalidRule)))
    {C_TurnError : Addr} (ga_TurnError : PySem.W.nsIn K mainGlobals "TurnError" = some (some (.ref C_TurnError)))
    (ex_InvalidHistory : PySem.W.excIn K C_InvalidHistory [.type "ValueError", .type "Exception", .type "BaseException", .type "object"] "ValueError.__new__" = true) (ek_InvalidHistory : PySem.W.keepIn K (.ref C_InvalidHistory) = true) (eb_InvalidHistory : PySem.W.subIn K (.ref C_InvalidHistory) (.type "BaseException") = some true) (et_InvalidHistory : PySem.W.typeIn K (.ref C_InvalidHistory) = some (.type "type"))
    (ex_InvalidRule : PySem.W.excIn K C_InvalidRule [.type "ValueError", .type "Exception", .type "BaseException", .type "object"] "ValueError.__new__" = true) (ek_InvalidRule : PySem.W.keepIn K (.ref C_InvalidRule) = true) (eb_InvalidRule : PySem.W.subIn K (.ref C_InvalidRule) (.type "BaseException") = some true) (et_InvalidRule : PySem.W.typeIn K (.ref C_InvalidRule) = some (.type "type"))
    (ex_TurnError : PySem.W.excIn K C_TurnError [.type "ValueError", .type "Exception", .type "BaseException", .type "object"] "ValueError.__new__" = true) (ek_TurnError : PySem.W.keepIn K (.ref C_TurnError) = true) (eb_TurnError : PySem.W.subIn K (.ref C_TurnError) (.type "BaseException") = some true) (et_TurnError : PySem.W.typeIn K (.ref C_TurnError) = some (.type "type"))
    (xn : PySem.W.specialIn K (.builtin "object.__class__") "__get__" = some (some (.builtin "getset_descriptor.__get__"))) (xt : PySem.W.takesIn K (.builtin "object.__class__") = some true)
    (xg_InvalidHistory : PySem.W.findIn K (.ref C_InvalidHistory) "__getattribute__" = some (some (.builtin "BaseException.__getattribute__"))) (xk_InvalidHistory : PySem.W.findIn K (.ref C_InvalidHistory) "__getattr__" = some none) (xs_InvalidHistory : PySem.W.subIn K (.ref C_InvalidHistory) (.type "BaseException") = some true) (xd_InvalidHistory : PySem.W.hasDictIn K C_InvalidHistory = true) (xa_InvalidHistory : PySem.W.findIn K (.ref C_InvalidHistory) "__class__" = some (some (.builtin "object.__class__"))) (xm_InvalidHistory : PySem.W.mroIn K C_InvalidHistory (.type "object") = some true)
    (sb_InvalidHistory_TurnError : PySem.W.subIn K (.ref C_InvalidHistory) (.ref C_TurnError) = some true)
    (ki_InvalidHistory_InvalidHistory : PySem.W.kitOne K (.ref C_InvalidHistory) (.ref C_InvalidHistory) = some (isSub 2 2))
    (ki_InvalidHistory_InvalidRule : PySem.W.kitOne K (.ref C_InvalidHistory) (.ref C_InvalidRule) = some (isSub 2 1))
    (xg_InvalidRule : PySem.W.findIn K (.ref C_InvalidRule) "__getattribute__" = some (some (.builtin "BaseException.__getattribute__"))) (xk_InvalidRule : PySem.W.findIn K (.ref C_InvalidRule) "__getattr__" = some none) (xs_InvalidRule : PySem.W.subIn K (.ref C_InvalidRule) (.type "BaseException") = some true) (xd_InvalidRule : PySem.W.hasDictIn K C_InvalidRule = true) (xa_InvalidRule : PySem.W.findIn K (.ref C_InvalidRule) "__class__" = some (some (.builtin "object.__class__"))) (xm_InvalidRule : PySem.W.mroIn K C_InvalidRule (.type "object") = some true)
    (sb_InvalidRule_TurnError : PySem.W.subIn K (.ref C_InvalidRule) (.ref C_TurnError) = some true)
    (ki_InvalidRule_InvalidHistory : PySem.W.kitOne K (.ref C_InvalidRule) (.ref C_InvalidHistory) = some (isSub 1 2))
    (ki_InvalidRule_InvalidRule : PySem.W.kitOne K (.ref C_InvalidRule) (.ref C_InvalidRule) = some (isSub 1 1))
    (hb_TurnError : PySem.W.hasDictIn K C_TurnError = true)
    {ecl : Value} {dcl : Option Addr} {vcl : Array Value} {scl : Array (Option Value)} (lc : K.lookup c_law = some ⟨ecl, dcl, .fields vcl, scl⟩) (tc : vcl[11]? = some (.ref P_law)) (nT : K.lookup P_law = none) (chd : PySem.W.codeHdIn K c_law P_law = true) :
    LamX.LawAtS l w K CX0 8 63 "_law_script" mg fa h := by
  have e := hfa.symm.trans (PySem.W.mg_of X G a25)
  cases e
  have B : Blt mg := ⟨PySem.W.mg_none_of X G z_all, PySem.W.mg_none_of X G z_bool, PySem.W.mg_none_of X G z_int, PySem.W.mg_none_of X G z_isinstance, PySem.W.mg_none_of X G z_len, PySem.W.mg_none_of X G z_list, PySem.W.mg_none_of X G z_min, PySem.W.mg_none_of X G z_range, PySem.W.mg_none_of X G z_str, PySem.W.mg_none_of X G z_tuple, PySem.W.mg_none_of X G z_zip⟩
  have C_CHOICES : HasC K mg "CHOICES" c_CHOICES := HasC.tup2 (PySem.W.mg_of X G g_CHOICES) ⟨_, _, [.ref a_CHOICES0, .ref a_CHOICES1, .ref a_CHOICES2, .ref a_CHOICES3, .ref a_CHOICES4, .ref a_CHOICES5, .ref a_CHOICES6], _, _, rfl, l_CHOICES, Nat.le_of_ble_eq_true rfl, .cons (.inr ⟨_, a_CHOICES0, rfl, rfl, ⟨_, _, [.int 0 tk_CHOICES0_0, .int 1 tk_CHOICES0_1, .int 2 tk_CHOICES0_2], _, _, rfl, l_CHOICES0, Nat.le_of_ble_eq_true rfl, .cons (.int _ _) (.cons (.int _ _) (.cons (.int _ _) (.nil)))⟩⟩) (.cons (.inr ⟨_, a_CHOICES1, rfl, rfl, ⟨_, _, [.str ⟨#[110, 101, 119]⟩ tk_CHOICES1_0, .str ⟨#[115, 97, 109, 101]⟩ tk_CHOICES1_1], _, _, rfl, l_CHOICES1, Nat.le_of_ble_eq_true rfl, .cons (.str [110, 101, 119] _) (.cons (.str [115, 97, 109, 101] _) (.nil))⟩⟩) (.cons (.inr ⟨_, a_CHOICES2, rfl, rfl, ⟨_, _, [.bool false, .bool true], _, _, rfl, l_CHOICES2, Nat.le_of_ble_eq_true rfl, .cons (.bl _) (.cons (.bl _) (.nil))⟩⟩) (.cons (.inr ⟨_, a_CHOICES3, rfl, rfl, ⟨_, _, [.none, .int 0 tk_CHOICES3_1, .int 1 tk_CHOICES3_2, .int 2 tk_CHOICES3_3], _, _, rfl, l_CHOICES3, Nat.le_of_ble_eq_true rfl, .cons .non (.cons (.int _ _) (.cons (.int _ _) (.cons (.int _ _) (.nil))))⟩⟩) (.cons (.inr ⟨_, a_CHOICES4, rfl, rfl, ⟨_, _, [.none, .int 0 tk_CHOICES4_1, .int 1 tk_CHOICES4_2, .int 2 tk_CHOICES4_3], _, _, rfl, l_CHOICES4, Nat.le_of_ble_eq_true rfl, .cons .non (.cons (.int _ _) (.cons (.int _ _) (.cons (.int _ _) (.nil))))⟩⟩) (.cons (.inr ⟨_, a_CHOICES5, rfl, rfl, ⟨_, _, [.int 1 tk_CHOICES5_0, .int 2 tk_CHOICES5_1, .int 3 tk_CHOICES5_2], _, _, rfl, l_CHOICES5, Nat.le_of_ble_eq_true rfl, .cons (.int _ _) (.cons (.int _ _) (.cons (.int _ _) (.nil)))⟩⟩) (.cons (.inr ⟨_, a_CHOICES6, rfl, rfl, ⟨_, _, [.str ⟨#[101, 110, 100]⟩ tk_CHOICES6_0, .str ⟨#[114, 101, 102, 117, 115, 101]⟩ tk_CHOICES6_1], _, _, rfl, l_CHOICES6, Nat.le_of_ble_eq_true rfl, .cons (.str [101, 110, 100] _) (.cons (.str [114, 101, 102, 117, 115, 101] _) (.nil))⟩⟩) (.nil)))))))⟩
  have C_HOLDERS : HasC K mg "HOLDERS" c_HOLDERS := HasC.str [97, 98] (PySem.W.mg_of X G g_HOLDERS) (by rfl)
  have C_MOST_EVENTS : HasC K mg "MOST_EVENTS" c_MOST_EVENTS := HasC.int (PySem.W.mg_of X G g_MOST_EVENTS)
  have C_PARTS : HasC K mg "PARTS" c_PARTS := HasC.tup (PySem.W.mg_of X G g_PARTS) ⟨_, _, [.str ⟨#[107, 101, 101, 112]⟩ tk_PARTS_0, .str ⟨#[114, 101, 112, 108, 121]⟩ tk_PARTS_1, .str ⟨#[115, 116, 114, 105, 99, 116]⟩ tk_PARTS_2, .str ⟨#[108, 101, 101, 119, 97, 121]⟩ tk_PARTS_3, .str ⟨#[115, 112, 97, 114, 101]⟩ tk_PARTS_4, .str ⟨#[101, 118, 101, 114, 121]⟩ tk_PARTS_5, .str ⟨#[111, 108, 100]⟩ tk_PARTS_6], _, _, rfl, l_PARTS, Nat.le_of_ble_eq_true rfl, .cons (.str [107, 101, 101, 112] _) (.cons (.str [114, 101, 112, 108, 121] _) (.cons (.str [115, 116, 114, 105, 99, 116] _) (.cons (.str [108, 101, 101, 119, 97, 121] _) (.cons (.str [115, 112, 97, 114, 101] _) (.cons (.str [101, 118, 101, 114, 121] _) (.cons (.str [111, 108, 100] _) (.nil)))))))⟩
  have C_TICK : HasC K mg "TICK" c_TICK := HasC.str [46, 46] (PySem.W.mg_of X G g_TICK) (by rfl)
  refine ⟨PySem.W.fnOf "law" "law" (defArgs st_law) (defBody st_law) (defScope st_law) .none kV25 dc25 pm25 an25 (.ref c_law) ct25, [(c_law, P_law)], spLawT K P_law, fun p hp => by cases List.mem_singleton.mp hp; exact own _ _ _ _ _ _ _ _ l25 rfl rfl lc tc, fun p hp => by cases List.mem_singleton.mp hp; exact nT, fun p hp => by cases List.mem_singleton.mp hp; exact PySem.W.codeHd_of_K X chd, fun s v => .of_eq rfl, fun H a ns hl _ hT hS => ⟨a, ns, rfl, hS, hl, hT _ (List.mem_singleton.mpr rfl), fun _ => rfl⟩, fun base _ _ TBs => ?_⟩
  have TB := TBs _ (List.mem_singleton.mpr rfl)
  have E_InvalidHistory : HasE K mg "InvalidHistory" := ⟨C_InvalidHistory, PySem.W.mg_of X G ga_InvalidHistory, ex_InvalidHistory, ek_InvalidHistory, eb_InvalidHistory, et_InvalidHistory⟩
  have E_InvalidRule : HasE K mg "InvalidRule" := ⟨C_InvalidRule, PySem.W.mg_of X G ga_InvalidRule, ex_InvalidRule, ek_InvalidRule, eb_InvalidRule, et_InvalidRule⟩
  have E_TurnError : HasE K mg "TurnError" := ⟨C_TurnError, PySem.W.mg_of X G ga_TurnError, ex_TurnError, ek_TurnError, eb_TurnError, et_TurnError⟩
  have H_is_choice := (ok_is_choice (P := l.prog) (w := w) (base := base) B (fun_mk (st := st_is_choice) l1 e1 k1) (PySem.W.mg_of X G a1)).toP
  have H_is_event := (ok_is_event (P := l.prog) (w := w) (base := base) B C_HOLDERS C_TICK (fun_mk (st := st_is_event) l2 e2 k2) (PySem.W.mg_of X G a2)).toP
  have H__law_bag := (ok__law_bag (P := l.prog) (w := w) (base := base) B (fun_mk (st := st__law_bag) l3 e3 k3) (PySem.W.mg_of X G a3))
  have H__law_take := (ok__law_take (P := l.prog) (w := w) (base := base) B (fun_mk (st := st__law_take) l4 e4 k4) (PySem.W.mg_of X G a4))
  have H__law_next_events := (ok__law_next_events (P := l.prog) (w := w) (base := base) B (fun_mk (st := st__law_next_events) l5 e5 k5) (PySem.W.mg_of X G a5))
  have T__law_error := told__law_error B E_TurnError (fun C hC => by rw [PySem.W.mg_of X G ga_TurnError] at hC; cases hC; exact hb_TurnError) (fun D hD => by rw [PySem.W.mg_of X G ga_InvalidRule] at hD; cases hD; exact ⟨xg_InvalidRule, xk_InvalidRule, xs_InvalidRule, xd_InvalidRule, xa_InvalidRule, xn, xt, xm_InvalidRule⟩) (fun D C hD hC => by rw [PySem.W.mg_of X G ga_InvalidRule] at hD; rw [PySem.W.mg_of X G ga_TurnError] at hC; cases hD; cases hC; exact sb_InvalidRule_TurnError) (fun D hD => by rw [PySem.W.mg_of X G ga_InvalidHistory] at hD; cases hD; exact ⟨xg_InvalidHistory, xk_InvalidHistory, xs_InvalidHistory, xd_InvalidHistory, xa_InvalidHistory, xn, xt, xm_InvalidHistory⟩) (fun D C hD hC => by rw [PySem.W.mg_of X G ga_InvalidHistory] at hD; rw [PySem.W.mg_of X G ga_TurnError] at hC; cases hD; cases hC; exact sb_InvalidHistory_TurnError) ⟨_, PySem.W.mg_of X G ga_InvalidRule⟩ (fun D C hD hC => by rw [PySem.W.mg_of X G ga_InvalidRule] at hD; rw [PySem.W.mg_of X G ga_InvalidRule] at hC; cases hD; cases hC; exact ki_InvalidRule_InvalidRule) (fun D C hD hC => by rw [PySem.W.mg_of X G ga_InvalidHistory] at hD; rw [PySem.W.mg_of X G ga_InvalidRule] at hC; cases hD; cases hC; exact ki_InvalidHistory_InvalidRule) ⟨_, PySem.W.mg_of X G ga_InvalidHistory⟩ (fun D C hD hC => by rw [PySem.W.mg_of X G ga_InvalidRule] at hD; rw [PySem.W.mg_of X G ga_InvalidHistory] at hC; cases hD; cases hC; exact ki_InvalidRule_InvalidHistory) (fun D C hD hC => by rw [PySem.W.mg_of X G ga_InvalidHistory] at hD; rw [PySem.W.mg_of X G ga_InvalidHistory] at hC; cases hD; cases hC; exact ki_InvalidHistory_InvalidHistory) (fun_mk (st := st__law_error) l6 e6 k6) (PySem.W.mg_of X G a6)
  have H_is_rule := (ok_is_rule (P := l.prog) (w := w) (base := base) B H_is_choice C_CHOICES C_PARTS (fun_mk (st := st_is_rule) l7 e7 k7) (PySem.W.mg_of X G a7)).toP
  have H_is_history := (ok_is_history (P := l.prog) (w := w) (base := base) B H_is_event C_HOLDERS C_TICK C_MOST_EVENTS (fun_mk (st := st_is_history) l8 e8 k8) (PySem.W.mg_of X G a8)).toP
  have H__law_of := (ok__law_of (P := l.prog) (w := w) (base := base) B H__law_take (fun_mk (st := st__law_of) l9 e9 k9) (PySem.W.mg_of X G a9))
  have H_need_rule := (ok_need_rule (P := l.prog) (w := w) (base := base) B H_is_rule E_InvalidRule (fun_mk (st := st_need_rule) l10 e10 k10) (PySem.W.mg_of X G a10)).toX
  have H_need_history := (ok_need_history (P := l.prog) (w := w) (base := base) B H_is_history E_InvalidHistory (fun_mk (st := st_need_history) l11 e11 k11) (PySem.W.mg_of X G a11)).toX
  have H__law_rule := (ok__law_rule (P := l.prog) (w := w) (base := base) B H__law_of H__law_take (fun_mk (st := st__law_rule) l12 e12 k12) (PySem.W.mg_of X G a12))
  have H__law_history := (ok__law_history (P := l.prog) (w := w) (base := base) B H__law_take H__law_of H__law_next_events (fun_mk (st := st__law_history) l13 e13 k13) (PySem.W.mg_of X G a13))
  have X_run := fn_run (P := l.prog) (w := w) (mg := mg) (base := base) B H_need_history H_need_rule (fun_mk (st := st_run) l14 e14 k14)
  have V_run := (okV_run X_run (PySem.W.mg_of X G a14) (funD_mk (st := st_run) l14 e14 k14 fun q hq => by cases List.mem_singleton.mp hq; exact ⟨_, d14_careful, rfl⟩)).toX
  have X_held := fn_held (P := l.prog) (w := w) (mg := mg) (base := base) B H_need_history H_need_rule (fun_mk (st := st_held) l15 e15 k15)
  have V_held := (okV_held X_held (PySem.W.mg_of X G a15) (funD_mk (st := st_held) l15 e15 k15 fun q hq => by cases List.mem_singleton.mp hq; exact ⟨_, d15_careful, rfl⟩)).toX
  have X_parting := fn_parting (P := l.prog) (w := w) (mg := mg) (base := base) B H_need_rule (fun_mk (st := st_parting) l16 e16 k16)
  have V_parting := (okV_parting X_parting (PySem.W.mg_of X G a16) (fun_mk (st := st_parting) l16 e16 k16)).toX
  have H_parting := V_parting.hasX
  have X_harder_history := fn_harder_history (P := l.prog) (w := w) (mg := mg) (base := base) B H_need_rule (fun_mk (st := st_harder_history) l17 e17 k17)
  have V_harder_history := (okV_harder_history X_harder_history (PySem.W.mg_of X G a17) (fun_mk (st := st_harder_history) l17 e17 k17)).toX
  have H_harder_history := V_harder_history.hasX
  have X_fewest_faults := fn_fewest_faults (P := l.prog) (w := w) (mg := mg) (base := base) B H_need_rule (fun_mk (st := st_fewest_faults) l18 e18 k18)
  have V_fewest_faults := (okV_fewest_faults X_fewest_faults (PySem.W.mg_of X G a18) (funD_mk (st := st_fewest_faults) l18 e18 k18 fun q hq => by cases List.mem_singleton.mp hq; exact ⟨_, d18_careful, rfl⟩)).toX
  have X_fault_history := fn_fault_history (P := l.prog) (w := w) (mg := mg) (base := base) B H_need_rule (fun_mk (st := st_fault_history) l19 e19 k19)
  have V_fault_history := (okV_fault_history X_fault_history (PySem.W.mg_of X G a19) (funD_mk (st := st_fault_history) l19 e19 k19 fun q hq => by cases List.mem_singleton.mp hq; exact ⟨_, d19_careful, rfl⟩)).toX
  have X_lost_share := fn_lost_share (P := l.prog) (w := w) (mg := mg) (base := base) B H_need_rule (fun_mk (st := st_lost_share) l20 e20 k20)
  have V_lost_share := (okV_lost_share X_lost_share (PySem.W.mg_of X G a20) (fun_mk (st := st_lost_share) l20 e20 k20)).toX
  have H_lost_share := V_lost_share.hasX
  have X_lost_cycle := fn_lost_cycle (P := l.prog) (w := w) (mg := mg) (base := base) B H_need_rule (fun_mk (st := st_lost_cycle) l21 e21 k21)
  have V_lost_cycle := (okV_lost_cycle X_lost_cycle (PySem.W.mg_of X G a21) (fun_mk (st := st_lost_cycle) l21 e21 k21)).toX
  have H_lost_cycle := V_lost_cycle.hasX
  have X_fewest_stands := fn_fewest_stands (P := l.prog) (w := w) (mg := mg) (base := base) B H_need_rule (fun_mk (st := st_fewest_stands) l22 e22 k22)
  have V_fewest_stands := (okV_fewest_stands X_fewest_stands (PySem.W.mg_of X G a22) (fun_mk (st := st_fewest_stands) l22 e22 k22)).toX
  have H_fewest_stands := V_fewest_stands.hasX
  have X_alike := fn_alike (P := l.prog) (w := w) (mg := mg) (base := base) B H_parting (fun_mk (st := st_alike) l23 e23 k23)
  have V_alike := (okV_alike X_alike (PySem.W.mg_of X G a23) (fun_mk (st := st_alike) l23 e23 k23)).toX
  have H_alike := V_alike.hasX
  have X_never_harder := fn_never_harder (P := l.prog) (w := w) (mg := mg) (base := base) B H_harder_history (fun_mk (st := st_never_harder) l24 e24 k24)
  have V_never_harder := (okV_never_harder X_never_harder (PySem.W.mg_of X G a24) (fun_mk (st := st_never_harder) l24 e24 k24)).toX
  have H_never_harder := V_never_harder.hasX
  exact ok_law B V_run V_held V_alike V_parting V_never_harder V_harder_history V_fewest_faults V_fault_history V_lost_share V_lost_cycle V_fewest_stands H__law_of H__law_history H__law_rule H__law_bag T__law_error l25 e25 TB (law_holds P_law f14 f15 f23 f16 f24 f17 f18 f19 f20 f21 f22)
end TT
open PySem PySem.W PyProof.Rows
set_option maxHeartbeats 0 in
theorem PySem.Challenge.cw_tokenturns_k28_errors_of_functions_in_or_holds : PySem.Challenge.rw_tokenturns_k28_errors_of_functions_in_or.Holds := by
  w_on; o_law; k_head; (case hw => w_witness2)
  k_fill
  refine LamX.walk_ofOwn (l := PySem.Challenge.rw_tokenturns_k28_errors_of_functions_in_or) (n := 63) (k := 8) (x := "_law_script") (CX := fun _ => L2.CX0) rfl (by decide) rfl ⟨rfl, by decide, by decide⟩ (by decide +kernel) (fun w h Y => PySem.W.km_in_of Y) ?F (fun _ _ _ _ _ h => h)
  case F =>
    intro w mg fa h _ KX G hmg own
    refine' TT.all_mk KX G hmg own ?a1 ?l1 ?e1 ?k1 ?a2 ?l2 ?e2 ?k2 ?a3 ?l3 ?e3 ?k3 ?a4 ?l4 ?e4 ?k4 ?a5 ?l5 ?e5 ?k5 ?a6 ?l6 ?e6 ?k6 ?a7 ?l7 ?e7 ?k7 ?a8 ?l8 ?e8 ?k8 ?a9 ?l9 ?e9 ?k9 ?a10 ?l10 ?e10 ?k10 ?a11 ?l11 ?e11 ?k11 ?a12 ?l12 ?e12 ?k12 ?a13 ?l13 ?e13 ?k13 ?a14 ?l14 ?e14 ?k14 ?d14_careful ?a15 ?l15 ?e15 ?k15 ?d15_careful ?a16 ?l16 ?e16 ?k16 ?a17 ?l17 ?e17 ?k17 ?a18 ?l18 ?e18 ?k18 ?d18_careful ?a19 ?l19 ?e19 ?k19 ?d19_careful ?a20 ?l20 ?e20 ?k20 ?a21 ?l21 ?e21 ?k21 ?a22 ?l22 ?e22 ?k22 ?a23 ?l23 ?e23 ?k23 ?a24 ?l24 ?e24 ?k24 ?a25 ?l25 ?e25 ?k25 ?z_all ?z_bool ?z_int ?z_isinstance ?z_len ?z_list ?z_min ?z_range ?z_str ?z_tuple ?z_zip ?g_CHOICES ?l_CHOICES ?l_CHOICES0 ?l_CHOICES1 ?l_CHOICES2 ?l_CHOICES3 ?l_CHOICES4 ?l_CHOICES5 ?l_CHOICES6 ?g_HOLDERS ?g_MOST_EVENTS ?g_PARTS ?l_PARTS ?g_TICK ?ga_InvalidHistory ?ga_InvalidRule ?ga_TurnError ?ex_InvalidHistory ?ek_InvalidHistory ?eb_InvalidHistory ?et_InvalidHistory ?ex_InvalidRule ?ek_InvalidRule ?eb_InvalidRule ?et_InvalidRule ?ex_TurnError ?ek_TurnError ?eb_TurnError ?et_TurnError ?xn ?xt ?xg_InvalidHistory ?xk_InvalidHistory ?xs_InvalidHistory ?xd_InvalidHistory ?xa_InvalidHistory ?xm_InvalidHistory ?sb_InvalidHistory_TurnError ?ki_InvalidHistory_InvalidHistory ?ki_InvalidHistory_InvalidRule ?xg_InvalidRule ?xk_InvalidRule ?xs_InvalidRule ?xd_InvalidRule ?xa_InvalidRule ?xm_InvalidRule ?sb_InvalidRule_TurnError ?ki_InvalidRule_InvalidHistory ?ki_InvalidRule_InvalidRule ?hb_TurnError ?lc ?tc ?nT ?chd
    (case a1 => k_is); (case l1 => k_is); (case e1 => k_is); (case k1 => k_is); (case a2 => k_is); (case l2 => k_is); (case e2 => k_is); (case k2 => k_is); (case a3 => k_is); (case l3 => k_is); (case e3 => k_is); (case k3 => k_is); (case a4 => k_is); (case l4 => k_is); (case e4 => k_is); (case k4 => k_is); (case a5 => k_is); (case l5 => k_is); (case e5 => k_is); (case k5 => k_is); (case a6 => k_is); (case l6 => k_is); (case e6 => k_is); (case k6 => k_is); (case a7 => k_is); (case l7 => k_is); (case e7 => k_is); (case k7 => k_is); (case a8 => k_is); (case l8 => k_is); (case e8 => k_is); (case k8 => k_is); (case a9 => k_is); (case l9 => k_is); (case e9 => k_is); (case k9 => k_is); (case a10 => k_is); (case l10 => k_is); (case e10 => k_is); (case k10 => k_is); (case a11 => k_is); (case l11 => k_is); (case e11 => k_is); (case k11 => k_is); (case a12 => k_is); (case l12 => k_is); (case e12 => k_is); (case k12 => k_is); (case a13 => k_is); (case l13 => k_is); (case e13 => k_is); (case k13 => k_is); (case a14 => k_is); (case l14 => k_is); (case e14 => k_is); (case k14 => k_is); (case d14_careful => k_is); (case a15 => k_is); (case l15 => k_is); (case e15 => k_is); (case k15 => k_is); (case d15_careful => k_is); (case a16 => k_is); (case l16 => k_is); (case e16 => k_is); (case k16 => k_is); (case a17 => k_is); (case l17 => k_is); (case e17 => k_is); (case k17 => k_is); (case a18 => k_is); (case l18 => k_is); (case e18 => k_is); (case k18 => k_is); (case d18_careful => k_is); (case a19 => k_is); (case l19 => k_is); (case e19 => k_is); (case k19 => k_is); (case d19_careful => k_is); (case a20 => k_is); (case l20 => k_is); (case e20 => k_is); (case k20 => k_is); (case a21 => k_is); (case l21 => k_is); (case e21 => k_is); (case k21 => k_is); (case a22 => k_is); (case l22 => k_is); (case e22 => k_is); (case k22 => k_is); (case a23 => k_is); (case l23 => k_is); (case e23 => k_is); (case k23 => k_is); (case a24 => k_is); (case l24 => k_is); (case e24 => k_is); (case k24 => k_is); (case a25 => k_is); (case l25 => k_is); (case e25 => k_is); (case k25 => k_is); (case z_all => k_is); (case z_bool => k_is); (case z_int => k_is); (case z_isinstance => k_is); (case z_len => k_is); (case z_list => k_is); (case z_min => k_is); (case z_range => k_is); (case z_str => k_is); (case z_tuple => k_is); (case z_zip => k_is); (case g_CHOICES => k_is); (case l_CHOICES => k_is); (case l_CHOICES0 => k_is); (case l_CHOICES1 => k_is); (case l_CHOICES2 => k_is); (case l_CHOICES3 => k_is); (case l_CHOICES4 => k_is); (case l_CHOICES5 => k_is); (case l_CHOICES6 => k_is); (case g_HOLDERS => k_is); (case g_MOST_EVENTS => k_is); (case g_PARTS => k_is); (case l_PARTS => k_is); (case g_TICK => k_is); (case ga_InvalidHistory => k_is); (case ga_InvalidRule => k_is); (case ga_TurnError => k_is); (case ex_InvalidHistory => first | k_is | k_exc); (case ek_InvalidHistory => k_is); (case eb_InvalidHistory => k_is); (case et_InvalidHistory => k_is); (case ex_InvalidRule => first | k_is | k_exc); (case ek_InvalidRule => k_is); (case eb_InvalidRule => k_is); (case et_InvalidRule => k_is); (case ex_TurnError => first | k_is | k_exc); (case ek_TurnError => k_is); (case eb_TurnError => k_is); (case et_TurnError => k_is); (case xn => k_is); (case xt => k_is); (case xg_InvalidHistory => k_is); (case xk_InvalidHistory => k_is); (case xs_InvalidHistory => k_is); (case xd_InvalidHistory => k_is); (case xa_InvalidHistory => k_is); (case xm_InvalidHistory => k_is); (case sb_InvalidHistory_TurnError => k_is); (case ki_InvalidHistory_InvalidHistory => first | kit_is | k_is); (case ki_InvalidHistory_InvalidRule => first | kit_is | k_is); (case xg_InvalidRule => k_is); (case xk_InvalidRule => k_is); (case xs_InvalidRule => k_is); (case xd_InvalidRule => k_is); (case xa_InvalidRule => k_is); (case xm_InvalidRule => k_is); (case sb_InvalidRule_TurnError => k_is); (case ki_InvalidRule_InvalidHistory => first | kit_is | k_is); (case ki_InvalidRule_InvalidRule => first | kit_is | k_is); (case hb_TurnError => k_is); (case lc => k_is); (case tc => first | rfl | k_is); (case nT => first | rfl | kernel_rfl); (case chd => first | rfl | kernel_rfl)
end
