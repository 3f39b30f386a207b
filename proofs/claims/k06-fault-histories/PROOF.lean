import PyProof.Rows.All
import Wide.All
import OpenK.AllK
import Wide.FinOn
import HandS.ForMost
import HandS.IsInst
import HandS.TupAny
import HandS.TupMul
import HandS.Style
import HandS.Lambda
import KE.DataEq
import KE.KDictKeyed
import HandS.Zip
import KE.KRevSl
import HandS.Defaults
import HandS.NoneIn
import HandS.Replace
import HandS.StrMore
import HandS.Dict
import HandS.ExcOwn
import HandS.WordsExc
import HandS.TryOnly
import HandS.ExcIs
import KE.KDictDisplayH
import HandS.Iter
import KE.KDictCopyH
import PySem.Challenge.RW_tokenturns_k06_histories_with_fewest_fau
section
set_option autoImplicit false
set_option linter.all false
/-! TT, the pure half: values, memory, results, and a Lean function for each construct of Python that the texts use. -/
namespace TT

/-- values: lists and dicts that are never changed again are values (vl, vd); what is changed stands in the memory (ref) -/
inductive PV where
  | non
  | bl (b : Bool)
  | int (i : Int)
  | str (s : List Nat)
  | tup (xs : List PV)
  | vl (xs : List PV)
  | fz (xs : List PV)
  | vd (kvs : List (PV × PV))
  | ref (n : Nat)
  | fn (a : Nat)
  deriving Inhabited

/-- what stands in the memory -/
inductive Ob where
  | lst (xs : List PV)
  | dict (kvs : List (PV × PV))
  | dead
  | tab (P : Nat) (q : List Nat)
  | kd (kvs : List (PV × PV))
  | kl (kvs : List (PV × PV))
  deriving Inhabited

abbrev Mm := List Ob
abbrev Sl := List (Option PV)

/-- an exception: its class by number, its fields -/
inductive Exn where
  | mk (c : Nat) (fs : List PV)
  deriving Inhabited

inductive Rs (α : Type) where
  | ok (a : α)
  | ex (e : Exn) (m : Mm)
  | no

namespace Rs
def bind {α β : Type} : Rs α → (α → Rs β) → Rs β
  | ok a, f => f a
  | ex e m, _ => ex e m
  | no, _ => no
@[simp] theorem bind_ok {α β : Type} (a : α) (f : α → Rs β) : (ok a).bind f = f a := rfl
@[simp] theorem bind_ex {α β : Type} (e : Exn) (m : Mm) (f : α → Rs β) : (ex e m : Rs α).bind f = ex e m := rfl
@[simp] theorem bind_no {α β : Type} (f : α → Rs β) : (no : Rs α).bind f = no := rfl
theorem bind_eq_ok {α β : Type} {r : Rs α} {f : α → Rs β} {b : β} (h : r.bind f = ok b) : ∃ a, r = ok a ∧ f a = ok b := by
  cases r with
  | ok a => exact ⟨a, rfl, h⟩
  | ex e m => cases h
  | no => cases h
/-- nothing is raised -/
def nx {α : Type} : Rs α → Rs α
  | ok a => ok a
  | ex _ _ => no
  | no => no
@[simp] theorem nx_ok {α : Type} (a : α) : (ok a).nx = ok a := rfl
@[simp] theorem nx_ex {α : Type} (e : Exn) (m : Mm) : (ex e m : Rs α).nx = no := rfl
@[simp] theorem nx_no {α : Type} : (no : Rs α).nx = no := rfl
def ofO {α : Type} : Option α → Rs α
  | some a => ok a
  | none => no
@[simp] theorem ofO_some {α : Type} (a : α) : ofO (some a) = ok a := rfl
@[simp] theorem ofO_none {α : Type} : ofO (none : Option α) = no := rfl
end Rs

abbrev SE := Sl → Mm → Rs (PV × Mm)
abbrev SA := Sl → Mm → Rs (List PV × Mm)
abbrev ST := Sl → Mm → Rs (Bool × Mm)
inductive Fl where
  | nx | bk | ct
  | rt (v : PV)
abbrev SS := Sl → Mm → Rs (Fl × Sl × Mm)
/-- by values -/
abbrev O1 := PV → Mm → Rs (PV × Mm)
abbrev O2 := PV → PV → Mm → Rs (PV × Mm)
abbrev ON := List PV → Mm → Rs (PV × Mm)

/-! ### plain data: shallow, no refs, no dicts -/
def b2i (b : Bool) : Int := if b then 1 else 0
namespace PV
/-- data without refs and dicts, at most n deep -/
def sh : Nat → PV → Bool
  | _, .non => true
  | _, .bl _ => true
  | _, .int _ => true
  | _, .str _ => true
  | n + 1, .tup xs => xs.all (sh n)
  | n + 1, .vl xs => xs.all (sh n)
  | _, _ => false
/-- what may be a key: None, truth values, whole numbers, texts and tuples of these, at most n deep -/
def ky : Nat → PV → Bool
  | _, .non => true
  | _, .bl _ => true
  | _, .int _ => true
  | _, .str _ => true
  | n + 1, .tup xs => xs.all (ky n)
  | _, _ => false
mutual
def eqv : PV → PV → Bool
  | .non, .non => true
  | .bl a, .bl b => a == b
  | .bl a, .int j => b2i a == j
  | .int i, .bl b => i == b2i b
  | .int i, .int j => i == j
  | .str x, .str y => x == y
  | .tup xs, .tup ys => eqvs xs ys
  | .vl xs, .vl ys => eqvs xs ys
  | _, _ => false
def eqvs : List PV → List PV → Bool
  | [], [] => true
  | x :: xs, y :: ys => eqv x y && eqvs xs ys
  | _, _ => false
end
end PV
/-- a list in the memory, as a value -/
def look1 (m : Mm) : PV → PV
  | .ref n => match m[n]? with
    | some (.lst xs) => .vl xs
    | _ => .ref n
  | v => v

/-! ### operators by values -/
def DEP : Nat := 12
def oEq : O2 := fun a b m => if (look1 m a).sh DEP && (look1 m b).sh DEP then .ok (.bl (PV.eqv (look1 m a) (look1 m b)), m) else .no
def oNe : O2 := fun a b m => if (look1 m a).sh DEP && (look1 m b).sh DEP then .ok (.bl (!PV.eqv (look1 m a) (look1 m b)), m) else .no
/-- is None, is True ..: the right side a constant -/
def oIs (neg : Bool) (c : PV) : O1 := fun a m => match c, a with
  | .non, .non => .ok (.bl (!neg), m)
  | .non, _ => .ok (.bl neg, m)
  | .bl b, .bl a => .ok (.bl (if a == b then !neg else neg), m)
  | _, _ => .no
def LINE : Nat := 16000000
def oAdd : O2 := fun a b m => match look1 m a, look1 m b with
  | .int i, .int j => .ok (.int (i + j), m)
  | .vl x, .vl y => if x.length + y.length ≤ LINE then .ok (.vl (x ++ y), m) else .no
  | .str x, .str y => if x.length + y.length ≤ LINE then .ok (.str (x ++ y), m) else .no
  | .tup x, .tup y => if x.length + y.length ≤ LINE then .ok (.tup (x ++ y), m) else .no
  | _, _ => .no
def oSub : O2 := fun a b m => match a, b with
  | .int i, .int j => .ok (.int (i - j), m)
  | _, _ => .no
def within64 (i : Int) : Bool := decide (-(2 ^ 64) < i) && decide (i < 2 ^ 64)
def rep {α : Type} (xs : List α) (k : Int) : List α := (List.replicate k.toNat xs).flatten
/-- list * int, tuple * int: a new value -/
def oMul : O2 := fun a b m => match look1 m a, b with
  | .int i, .int j => if within64 i || within64 j then .ok (.int (i * j), m) else .no
  | .vl x, .int k => if decide (k ≤ 1000) && decide (-1000 ≤ k) && decide (x.length ≤ 1000) then .ok (.vl (rep x k), m) else .no
  | .tup x, .int k => if decide (k ≤ 1000) && decide (-1000 ≤ k) && decide (x.length ≤ 1000) then .ok (.tup (rep x k), m) else .no
  | _, _ => .no
def oFDiv : O2 := fun a b m => match a, b with
  | .int i, .int j => if decide (0 < j) && decide (j < 1073741824) then .ok (.int (i / j), m) else .no
  | _, _ => .no
def oMod : O2 := fun a b m => match a, b with
  | .int i, .int j => if decide (0 < j) then .ok (.int (i % j), m) else .no
  | _, _ => .no
def oPow : O2 := fun a b m => match a, b with
  | .int i, .int j => if decide (0 ≤ j) && decide (j ≤ 1000) && decide (i.natAbs < 2 ^ 64) then .ok (.int (i ^ j.toNat), m) else .no
  | _, _ => .no
def oNeg : O1 := fun a m => match a with
  | .int i => .ok (.int (-i), m)
  | _ => .no
def oCmp (p : Int → Int → Bool) : O2 := fun a b m => match a, b with
  | .int i, .int j => .ok (.bl (p i j), m)
  | _, _ => .no
def oLt : O2 := oCmp fun i j => decide (i < j)
def oLe : O2 := oCmp fun i j => decide (i ≤ j)
def oGt : O2 := oCmp fun i j => decide (j < i)
def oGe : O2 := oCmp fun i j => decide (j ≤ i)
/-- x in c: a list, a tuple; one sign in a text -/
def oIn (neg : Bool) : O2 := fun a c m => match look1 m c with
  | .vl xs => if xs.all (PV.sh DEP) && a.sh DEP then .ok (.bl (if neg then !(xs.any fun y => PV.eqv y a) else xs.any fun y => PV.eqv y a), m) else .no
  | .tup xs => if xs.all (PV.sh DEP) && a.sh DEP then .ok (.bl (if neg then !(xs.any fun y => PV.eqv y a) else xs.any fun y => PV.eqv y a), m) else .no
  | .str z => match a with
    | .str [c] => .ok (.bl (if neg then !(decide (c ∈ z)) else decide (c ∈ z)), m)
    | _ => .no
  | _ => .no

/-! ### subscripts -/
def ixN (n : Nat) (i : Int) : Option Nat := if 0 ≤ i then (if i < n then some i.toNat else none) else if -(n : Int) ≤ i then some (i + n).toNat else none
def atI {α : Type} (xs : List α) (i : Int) : Option α := (ixN xs.length i).bind fun j => xs[j]?
def oIx : O2 := fun a i m => match look1 m a, i with
  | .vl xs, .int k => match atI xs k with
    | some v => .ok (v, m)
    | none => .no
  | .fz xs, .int k => match atI xs k with
    | some v => .ok (v, m)
    | none => .no
  | .tup xs, .int k => match atI xs k with
    | some v => .ok (v, m)
    | none => .no
  | .str z, .int k => if z.length ≤ LINE then (match atI z k with
    | some c => .ok (.str [c], m)
    | none => .no) else .no
  | _, _ => .no
def sIx (n d : Nat) : Option Int → Nat
  | none => d
  | some v => if v < 0 then (v + n).toNat else min v.toNat n
def cutL {α : Type} (xs : List α) (lo hi : Option Int) : List α := (xs.drop (sIx xs.length 0 lo)).take (sIx xs.length xs.length hi - sIx xs.length 0 lo)
def oSlice (lo hi : Option Int) : O1 := fun a m => match look1 m a with
  | .vl xs => .ok (.vl (cutL xs lo hi), m)
  | .tup xs => .ok (.tup (cutL xs lo hi), m)
  | .str z => if z.length ≤ LINE then .ok (.str (cutL z lo hi), m) else .no
  | _ => .no
/-- x[::-1] -/
def oRevL : O1 := fun a m => match look1 m a with
  | .vl xs => .ok (.vl xs.reverse, m)
  | _ => .no
def oRevT : O1 := fun a m => match a with
  | .tup xs => .ok (.tup xs.reverse, m)
  | _ => .no
/-- o[i] = v of a list in the memory -/
def oSet (o i v : PV) (m : Mm) : Rs Mm := match o, i with
  | .ref n, .int k => match m[n]? with
    | some (.lst xs) => match ixN xs.length k with
      | some j => .ok (m.set n (.lst (xs.set j v)))
      | none => .no
    | _ => .no
  | _, _ => .no

/-! ### built-in functions -/
def fLen : ON := fun xs m => match xs with
  | [a] => match look1 m a with
    | .vl ys => .ok (.int ys.length, m)
    | .fz ys => .ok (.int ys.length, m)
    | .tup ys => .ok (.int ys.length, m)
    | .str z => if z.length ≤ LINE then .ok (.int z.length, m) else .no
    | _ => .no
  | _ => .no
def fInt : ON := fun xs m => match xs with
  | [.int i] => .ok (.int i, m)
  | [.bl b] => .ok (.int (b2i b), m)
  | _ => .no
def fMax : ON := fun xs m => match xs with
  | [.int i, .int j] => .ok (.int (if j > i then j else i), m)
  | _ => .no
def fMin : ON := fun xs m => match xs with
  | [.int i, .int j] => .ok (.int (if j < i then j else i), m)
  | _ => .no
/-- list(x): a new value -/
def fList : ON := fun xs m => match xs with
  | [a] => match look1 m a with
    | .vl ys => .ok (.vl ys, m)
    | .tup ys => .ok (.vl ys, m)
    | _ => .no
  | _ => .no
def fTuple : ON := fun xs m => match xs with
  | [a] => match look1 m a with
    | .vl ys => .ok (.tup ys, m)
    | .tup ys => .ok (.tup ys, m)
    | _ => .no
  | _ => .no
def bools : List PV → Option (List Bool)
  | [] => some []
  | .bl b :: r => (bools r).map (b :: ·)
  | _ :: _ => none
def fAll : ON := fun xs m => match xs with
  | [a] => match look1 m a with
    | .vl ys => match bools ys with
      | some bs => .ok (.bl (bs.all id), m)
      | none => .no
    | _ => .no
  | _ => .no
/-- isinstance(x, T) -/
inductive Ty where
  | tInt | tStr | tBool | tTup | tList
def isA : Ty → PV → Option Bool
  | _, .non => some false
  | .tInt, .bl _ => some true
  | .tBool, .bl _ => some true
  | _, .bl _ => some false
  | .tInt, .int _ => some true
  | _, .int _ => some false
  | .tStr, .str _ => some true
  | _, .str _ => some false
  | .tTup, .tup _ => some true
  | _, .tup _ => some false
  | .tList, .vl _ => some true
  | _, .vl _ => some false
  | .tList, .fz _ => some true
  | _, .fz _ => some false
  | _, _ => none
def oIsA (t : Ty) : O1 := fun a m => match isA t (look1 m a) with
  | some b => .ok (.bl b, m)
  | none => .no
/-- repr of None, a bool -/
def fReprB : ON := fun xs m => match xs with
  | [.bl true] => .ok (.str [84, 114, 117, 101], m)
  | [.bl false] => .ok (.str [70, 97, 108, 115, 101], m)
  | _ => .no

/-! ### methods -/
def mAppend (o : PV) (xs : List PV) (m : Mm) : Rs (PV × Mm) := match o, xs with
  | .ref n, [v] => match m[n]? with
    | some (.lst ys) => if ys.length < LINE then .ok (.non, m.set n (.lst (ys ++ [v]))) else .no
    | _ => .no
  | _, _ => .no
def idx (p : PV → Bool) : List PV → Nat → Option Nat
  | [], _ => none
  | x :: r, i => if p x then some i else idx p r (i + 1)
/-- xs.index(y) of flat items -/
def flat : PV → Bool
  | .non => true
  | .bl _ => true
  | .int _ => true
  | .str _ => true
  | _ => false
def mIndex (o : PV) (xs : List PV) (m : Mm) : Rs (PV × Mm) := match look1 m o, xs with
  | .vl ys, [v] => if ys.all flat && flat v then (match idx (fun y => PV.eqv y v) ys 0 with
    | some i => .ok (.int i, m)
    | none => .no) else .no
  | .tup ys, [v] => if ys.all flat && flat v then (match idx (fun y => PV.eqv y v) ys 0 with
    | some i => .ok (.int i, m)
    | none => .no) else .no
  | _, _ => .no
def idxN (c : Nat) : List Nat → Nat → Option Nat
  | [], _ => none
  | x :: r, i => if x == c then some i else idxN c r (i + 1)
/-- text.index(one sign), a text of two signs, where it is there -/
def mIndexS (o : PV) (xs : List PV) (m : Mm) : Rs (PV × Mm) := match o, xs with
  | .str [p, q], [.str [c]] => if c = p then .ok (.int 0, m) else if c = q then .ok (.int 1, m) else .no
  | _, _ => .no
/-- text.find(one sign), a text of two signs -/
def mFindS (o : PV) (xs : List PV) (m : Mm) : Rs (PV × Mm) := match o, xs with
  | .str [p, q], [.str [c]] => .ok (.int (if c = p then 0 else if c = q then 1 else -1), m)
  | _, _ => .no

/-! ### expressions -/
def eVar (i : Nat) : SE := fun s m => match s[i]? with
  | some (some v) => .ok (v, m)
  | _ => .no
def eC (v : PV) : SE := fun _ m => .ok (v, m)
def e1 (f : O1) (a : SE) : SE := fun s m => (a s m).bind fun (x, m1) => f x m1
def e2 (f : O2) (a b : SE) : SE := fun s m => (a s m).bind fun (x, m1) => (b s m1).bind fun (y, m2) => f x y m2
def aNil : SA := fun _ m => .ok ([], m)
def aCons (a : SE) (r : SA) : SA := fun s m => (a s m).bind fun (x, m1) => (r s m1).bind fun (xs, m2) => .ok (x :: xs, m2)
def eN (f : ON) (a : SA) : SE := fun s m => (a s m).bind fun (xs, m1) => f xs m1
def eTup (a : SA) : SE := fun s m => (a s m).bind fun (xs, m1) => .ok (.tup xs, m1)
/-- a list display that is never changed -/
def eLst (a : SA) : SE := fun s m => (a s m).bind fun (xs, m1) => .ok (.vl xs, m1)
/-- a list display that will be changed -/
def eLstM (a : SA) : SE := fun s m => (a s m).bind fun (xs, m1) => .ok (.ref m1.length, m1 ++ [.lst xs])
def eIf (t : ST) (a b : SE) : SE := fun s m => (t s m).bind fun (c, m1) => if c then a s m1 else b s m1
/-- method of a value: o.m(args), o of the type told -/
inductive Tag where
  | list | str
def tyOk (m : Mm) : Tag → PV → Bool
  | .str, .str _ => true
  | .list, .ref n => match m[n]? with
    | some (.lst _) => true
    | _ => false
  | .list, .vl _ => true
  | _, _ => false
def eM (t : Tag) (f : PV → List PV → Mm → Rs (PV × Mm)) (o : SE) (a : SA) : SE := fun s m => (o s m).bind fun (x, m1) => if tyOk m1 t x then (a s m1).bind fun (xs, m2) => f x xs m2 else .no
/-- a[lo:hi] -/
def eSlL (lo fa : SE) : SE := fun s m => (fa s m).bind fun (x, m1) => (lo s m1).bind fun (l, m2) => match l with
  | .int i => oSlice (some i) none x m2
  | _ => .no
def eSlH (hi fa : SE) : SE := fun s m => (fa s m).bind fun (x, m1) => (hi s m1).bind fun (l, m2) => match l with
  | .int i => oSlice none (some i) x m2
  | _ => .no
def eSlLH (lo hi fa : SE) : SE := fun s m => (fa s m).bind fun (x, m1) => (lo s m1).bind fun (l, m2) => match l with
  | .int i => (hi s m2).bind fun (u, m3) => match u with
    | .int j => oSlice (some i) (some j) x m3
    | _ => .no
  | _ => .no
def asB : PV → Mm → Rs (Bool × Mm)
  | .bl b, m => .ok (b, m)
  | _, _ => .no
/-- and, or, not of truth values -/
def eAnd (a b : SE) : SE := fun s m => (a s m).bind fun (x, m1) => match x with
  | .bl true => b s m1
  | .bl false => .ok (.bl false, m1)
  | _ => .no
def eOr (a b : SE) : SE := fun s m => (a s m).bind fun (x, m1) => match x with
  | .bl false => b s m1
  | .bl true => .ok (.bl true, m1)
  | _ => .no
def eNot (a : SE) : SE := fun s m => (a s m).bind fun (x, m1) => match x with
  | .bl b => .ok (.bl (!b), m1)
  | _ => .no
/-- a < b < c -/
def eChain (f g : O2) (a b c : SE) : SE := fun s m => (a s m).bind fun (x, m1) => (b s m1).bind fun (y, m2) => (f x y m2).bind fun (z, m3) => match z with
  | .bl true => (c s m3).bind fun (u, m4) => g y u m4
  | .bl false => .ok (.bl false, m3)
  | _ => .no
/-! tests -/
def tV (a : SE) : ST := fun s m => (a s m).bind fun (x, m1) => asB x m1
def tAnd (a b : ST) : ST := fun s m => (a s m).bind fun (c, m1) => if c then b s m1 else .ok (false, m1)
def tOr (a b : ST) : ST := fun s m => (a s m).bind fun (c, m1) => if c then .ok (true, m1) else b s m1
def tNot (a : ST) : ST := fun s m => (a s m).bind fun (c, m1) => .ok (!c, m1)
/-- the truth of a value -/
def tru (m : Mm) : PV → Option Bool
  | .non => some false
  | .bl b => some b
  | .int i => some (i != 0)
  | .str z => if z.length ≤ LINE then some (!z.isEmpty) else none
  | .tup xs => some (!xs.isEmpty)
  | .vl xs => some (!xs.isEmpty)
  | .ref n => match m[n]? with
    | some (.lst xs) => some (!xs.isEmpty)
    | _ => none
  | _ => none
def tT (a : SE) : ST := fun s m => (a s m).bind fun (x, m1) => match tru m1 x with
  | some b => .ok (b, m1)
  | none => .no

/-! ### targets: a value is stored -/
abbrev SG := PV → Sl → Mm → Rs (Sl × Mm)
def gName (i : Nat) : SG := fun v s m => .ok (s.set i (some v), m)
def gNames : List Nat → List PV → Sl → Option Sl
  | [], [], s => some s
  | i :: is, v :: vs, s => gNames is vs (s.set i (some v))
  | _, _, _ => none
/-- a, b, .. = a tuple -/
def gTup (is : List Nat) : SG := fun v s m => match v with
  | .tup vs => match gNames is vs s with
    | some s' => .ok (s', m)
    | none => .no
  | _ => .no
/-- a, b, .. = a list -/
def gSeq (is : List Nat) : SG := fun v s m => match look1 m v with
  | .tup vs => match gNames is vs s with
    | some s' => .ok (s', m)
    | none => .no
  | .vl vs => match gNames is vs s with
    | some s' => .ok (s', m)
    | none => .no
  | _ => .no
def gUnp (is : List Nat) : SG := fun v s m => match look1 m v with
  | .vl vs => match gNames is vs s with
    | some s' => .ok (s', m)
    | none => .no
  | _ => .no
def gSub (o i : SE) : SG := fun v s m => (o s m).bind fun (x, m1) => (i s m1).bind fun (k, m2) => (oSet x k v m2).bind fun m3 => .ok (s, m3)

/-! ### statements -/
def sSkip : SS := fun s m => .ok (.nx, s, m)
def sSeq (a b : SS) : SS := fun s m => (a s m).bind fun (f, s1, m1) => match f with
  | .nx => b s1 m1
  | f => .ok (f, s1, m1)
def sExpr (e : SE) : SS := fun s m => (e s m).bind fun (_, m1) => .ok (.nx, s, m1)
def sAsg (e : SE) (g : SG) : SS := fun s m => (e s m).bind fun (v, m1) => (g v s m1).bind fun (s2, m2) => .ok (.nx, s2, m2)
def sRet (e : SE) : SS := fun s m => (e s m).bind fun (v, m1) => .ok (.rt v, s, m1)
def sRetN : SS := fun s m => .ok (.rt .non, s, m)
def sIf (t : ST) (a b : SS) : SS := fun s m => (t s m).bind fun (c, m1) => if c then a s m1 else b s m1
def sBreak : SS := fun s m => .ok (.bk, s, m)
def sCont : SS := fun s m => .ok (.ct, s, m)
/-- never reached -/
def sNever : SS := fun _ _ => .no
/-- a, b = e1, e2 with local names -/
def sPar2 (i j : Nat) (a : SA) : SS := fun s m => (a s m).bind fun (xs, m1) => match xs with
  | [x, y] => .ok (.nx, (s.set i (some x)).set j (some y), m1)
  | _ => .no
def sPar3 (i j l : Nat) (a : SA) : SS := fun s m => (a s m).bind fun (xs, m1) => match xs with
  | [x, y, z] => .ok (.nx, ((s.set i (some x)).set j (some y)).set l (some z), m1)
  | _ => .no
def sPar (is : List Nat) (a : SA) : SS := fun s m => (a s m).bind fun (xs, m1) => match gNames is xs s with
  | some s' => .ok (.nx, s', m1)
  | none => .no
/-- x op= e -/
def sAug (i : Nat) (f : O2) (e : SE) : SS := fun s m => match s[i]? with
  | some (some x) => (e s m).bind fun (y, m1) => (f x y m1).bind fun (z, m2) => .ok (.nx, s.set i (some z), m2)
  | _ => .no
/-! loops over values -/
abbrev SI := Sl → Mm → Rs (List PV × Mm)
def forL (g : SG) (b : SS) : List PV → Sl → Mm → Rs (Fl × Sl × Mm)
  | [], s, m => .ok (.nx, s, m)
  | x :: xs, s, m => (g x s m).bind fun (s1, m1) => (b s1 m1).bind fun (f, s2, m2) => match f with
    | .nx => forL g b xs s2 m2
    | .ct => forL g b xs s2 m2
    | .bk => .ok (.nx, s2, m2)
    | .rt v => .ok (.rt v, s2, m2)
def sFor (it : SI) (g : SG) (b : SS) : SS := fun s m => (it s m).bind fun (xs, m1) => forL g b xs s m1
/-- what is walked: a value's items -/
def items : PV → Option (List PV)
  | .tup xs => some xs
  | .vl xs => some xs
  | .str z => some (z.map fun c => .str [c])
  | _ => none
def iV (e : SE) : SI := fun s m => (e s m).bind fun (x, m1) => (Rs.ofO (items x)).bind fun xs => .ok (xs, m1)
/-- over a list, a tuple -/
def iL (e : SE) : SI := fun s m => (e s m).bind fun (x, m1) => match x with
  | .vl xs => .ok (xs, m1)
  | _ => .no
def iT (e : SE) : SI := fun s m => (e s m).bind fun (x, m1) => match x with
  | .tup xs => .ok (xs, m1)
  | _ => .no
def rngL (lo : Int) : Nat → List PV
  | 0 => []
  | n + 1 => .int lo :: rngL (lo + 1) n
def P62 : Int := 4611686018427387904
def iRng1 (e : SE) : SI := fun s m => (e s m).bind fun (x, m1) => match x with
  | .int j => if decide (-P62 ≤ j) && decide (j < P62) then .ok (rngL 0 j.toNat, m1) else .no
  | _ => .no
def iRng2 (a b : SE) : SI := fun s m => (a s m).bind fun (x, m1) => (b s m1).bind fun (y, m2) => match x, y with
  | .int i, .int j => if decide (-P62 ≤ i) && decide (i < P62) && decide (-P62 ≤ j) && decide (j < P62) then .ok (rngL i (j - i).toNat, m2) else .no
  | _, _ => .no
def zipP : List PV → List PV → List PV
  | x :: xs, y :: ys => .tup [x, y] :: zipP xs ys
  | _, _ => []
def iZip (a b : SE) : SI := fun s m => (a s m).bind fun (x, m1) => (b s m1).bind fun (y, m2) => match x, y with
  | .tup xs, .tup ys => .ok (zipP xs ys, m2)
  | .vl xs, .vl ys => .ok (zipP xs ys, m2)
  | _, _ => .no
def enumP : Int → List PV → List PV
  | _, [] => []
  | i, x :: xs => .tup [.int i, x] :: enumP (i + 1) xs
def iEnum (a : SE) : SI := fun s m => (a s m).bind fun (x, m1) => match x with
  | .vl xs => .ok (enumP 0 xs, m1)
  | .tup xs => .ok (enumP 0 xs, m1)
  | _ => .no
/-! while -/
def whileF (t : ST) (b : SS) : Nat → Sl → Mm → Rs (Fl × Sl × Mm)
  | 0, _, _ => .no
  | n + 1, s, m => (t s m).bind fun (c, m1) => if c then (b s m1).bind fun (f, s2, m2) => match f with
      | .nx => whileF t b n s2 m2
      | .ct => whileF t b n s2 m2
      | .bk => .ok (.nx, s2, m2)
      | .rt v => .ok (.rt v, s2, m2)
    else .ok (.nx, s, m1)
def FUEL : Nat := 1000000000000
def sWhile (t : ST) (b : SS) : SS := fun s m => whileF t b FUEL s m
/-! comprehensions: own slots forgotten first -/
def wipe (s : Sl) : List Nat → Sl
  | [] => s
  | v :: vs => (wipe s vs).set v none
def lcL (g : SG) (t : ST) (e : SE) (s : Sl) : List PV → Mm → List PV → Rs (List PV × Mm)
  | [], m, acc => .ok (acc, m)
  | x :: xs, m, acc => (g x s m).nx.bind fun (s1, m1) => (t s1 m1).nx.bind fun (c, m2) =>
    if c then (e s1 m2).nx.bind fun (y, m3) => if acc.length < LINE then lcL g t e s xs m3 (acc ++ [y]) else .no else lcL g t e s xs m2 acc
def eLc (own : List Nat) (it : SI) (g : SG) (t : ST) (e : SE) : SE := fun s m => (it s m).bind fun (xs, m1) => (lcL g t e (wipe s own) xs m1 []).bind fun (ys, m2) => .ok (.vl ys, m2)
def tYes : ST := fun _ m => .ok (true, m)

/-! ### ghost steps -/
/-- the list in slot i is changed no more: it becomes a value -/
def sFrz (i : Nat) : SS := fun s m => match s[i]? with
  | some (some (.ref n)) => match m[n]? with
    | some (.lst xs) => .ok (.nx, s.set i (some (.vl xs)), m.set n .dead)
    | _ => .no
  | _ => .no
/-- an expression's list is changed no more -/
def eFrz (e : SE) : SE := fun s m => (e s m).bind fun (x, m1) => match x with
  | .ref n => match m1[n]? with
    | some (.lst xs) => .ok (.vl xs, m1.set n .dead)
    | _ => .no
  | x => .ok (x, m1)

/-! ### defs -/
/-- a def by the whole memory -/
abbrev IF := List PV → Mm → Rs (PV × Mm)
/-- a def by values alone -/
abbrev PF := List PV → Rs PV
def startS (n : Nat) (args : List PV) : Sl := args.map some ++ List.replicate (n - args.length) none
def endF : Rs (Fl × Sl × Mm) → Rs (PV × Mm)
  | .ok (.rt v, _, m) => .ok (v, m)
  | .ok (.nx, _, m) => .ok (.non, m)
  | .ok _ => .no
  | .ex e m => .ex e m
  | .no => .no
/-- n: the number of slots, k: of the parameters -/
def bodyI (n k : Nat) (b : SS) : IF := fun args m => if args.length = k then endF (b (startS n args) m) else .no
/-- values that hold no refs -/
def pure1 : PV → Bool
  | .non => true
  | .bl _ => true
  | .int _ => true
  | .str _ => true
  | _ => false
mutual
def PV.pu : PV → Bool
  | .ref _ => false
  | .tup xs => pus xs
  | .vl xs => pus xs
  | .fz xs => pus xs
  | .vd kvs => pud kvs
  | _ => true
def pus : List PV → Bool
  | [] => true
  | x :: xs => PV.pu x && pus xs
def pud : List (PV × PV) → Bool
  | [] => true
  | (k, v) :: r => PV.pu k && PV.pu v && pud r
end
/-- what is handed back as a value: lists of the memory become values -/
def frz : Nat → Mm → PV → Option PV
  | 0, _, v => if v.pu then some v else none
  | k + 1, m, v => if v.pu then some v else match v with
    | .ref n => match m[n]? with
      | some (.lst xs) => (frzs (frz k m) xs).map .vl
      | _ => none
    | .tup xs => (frzs (frz k m) xs).map .tup
    | _ => none
where
  frzs (f : PV → Option PV) : List PV → Option (List PV)
  | [] => some []
  | x :: xs => match f x, frzs f xs with
    | some y, some ys => some (y :: ys)
    | _, _ => none
/-- a def that neither changes nor keeps what it is given -/
def bodyP (n k : Nat) (b : SS) : PF := fun args => match bodyI n k b args [] with
  | .ok (v, m) => Rs.ofO (frz 4 m v)
  | .ex e _ => .ex e []
  | .no => .no
/-- the call of such a def: the arguments hold no refs -/
def cP (f : PF) : ON := fun xs m => if pus xs then (match f xs with
  | .ok v => .ok (v, m)
  | _ => .no) else .no
/-- the call of a def by the whole memory -/
def cI (f : IF) : ON := fun xs m => (f xs m).nx
/-- an object that holds no refs -/
def Ob.pu : Ob → Bool
  | .lst xs => pus xs
  | .dict kvs => pud kvs
  | .dead => true
  | .tab _ _ => true
  | .kd kvs => pud kvs
  | .kl kvs => pud kvs
end TT
end

section
set_option autoImplicit false
set_option linter.all false
/-! TT, the pure half, more -/
namespace TT
/-- f(.., k = ..) -/
def eNK (f : ON) (fs gs : SA) : SE := fun s m => (fs s m).bind fun (xs, m1) => (gs s m1).bind fun (ys, m2) => f (xs ++ ys) m2
/-- f(..), the rest by default -/
def eND (f : ON) (fs : SA) (ds : List PV) : SE := fun s m => (fs s m).bind fun (xs, m1) => f (xs ++ ds) m1
/-- x[lo::st] of lists -/
def stepIdx (lo st : Int) (n : Nat) : List Nat := (List.range (if lo < n then ((n : Int) - lo + st - 1) / st else 0).toNat).map fun (k : Nat) => (lo + st * (k : Int)).toNat
def stepL {α : Type} (xs : List α) (lo st : Int) : List α := (stepIdx lo st xs.length).filterMap fun i => xs[i]?
def oStep (st : Int) (n : Nat) : O1 := fun l m => match l with
  | .int i => match m[n]? with
    | some (.lst xs) => if decide (0 ≤ i) && decide (i ≤ xs.length) then .ok (.vl (stepL xs i st), m) else .no
    | _ => .no
  | _ => .no
def eSlS (lo : SE) (st : Int) (fa : SE) : SE := fun s m => (fa s m).bind fun (x, m1) => match x with
  | .ref n => (lo s m1).bind fun (l, m2) => oStep st n l m2
  | _ => .no
/-! dicts of texts and whole numbers -/
def keyOk : PV → Bool
  | .int _ => true
  | .str _ => true
  | _ => false
def keyEq : PV → PV → Bool
  | .int i, .int j => decide (i = j)
  | .str x, .str y => decide (x = y)
  | _, _ => false
def dFind (kvs : List (PV × PV)) (k : PV) : Option PV := (kvs.find? fun p => keyEq p.1 k).map (·.2)
def dPut (kvs : List (PV × PV)) (k v : PV) : List (PV × PV) :=
  if (kvs.any fun p => keyEq p.1 k) = true then kvs.map (fun p => if keyEq p.1 k = true then (p.1, v) else p) else kvs ++ [(k, v)]
def dMerge (kvs more : List (PV × PV)) : List (PV × PV) := more.foldl (fun acc p => dPut acc p.1 p.2) kvs
def pairsOf : List (SE × SE) → Sl → Mm → Rs (List (PV × PV) × Mm)
  | [], _, m => .ok ([], m)
  | (a, b) :: r, s, m => (a s m).bind fun (x, m1) => (b s m1).bind fun (y, m2) => (pairsOf r s m2).bind fun (ps, m3) => .ok ((x, y) :: ps, m3)
/-- {k: v, ..} -/
def eDict (L : List (SE × SE)) : SE := fun s m => (pairsOf L s m).bind fun (ps, m1) => if ps.all (fun p => keyOk p.1) && decide (ps.length ≤ 15) then .ok (.ref m1.length, m1 ++ [.dict (dMerge [] ps)]) else .no
/-- d[k] of a dict where the key is -/
def oDGet : O2 := fun d k m => match d with
  | .ref n => match m[n]? with
    | some (.dict kvs) => if keyOk k then (match dFind kvs k with
      | some v => .ok (v, m)
      | none => .no) else .no
    | _ => .no
  | _ => .no
def oDSet (d k v : PV) (m : Mm) : Rs Mm := match d with
  | .ref n => match m[n]? with
    | some (.dict kvs) => if keyOk k && decide (kvs.length < LINE) then .ok (m.set n (.dict (dPut kvs k v))) else .no
    | _ => .no
  | _ => .no
/-- d[k] = v -/
def sDSet (v d k : SE) : SS := fun s m => (v s m).bind fun (x, m1) => (d s m1).bind fun (o, m2) => (k s m2).bind fun (y, m3) => (oDSet o y x m3).bind fun m4 => .ok (.nx, s, m4)
/-! exceptions -/
/-- raise X('..'), the class with the number c -/
def sRaise (c : Nat) : SS := fun _ m => .ex (.mk c []) m
/-- the call of a def by values that may raise -/
def cX (F : PF) : ON := fun xs m => if pus xs then (match F xs with
  | .ok v => .ok (v, m)
  | .ex (.mk c fs) _ => if pus fs then .ex (.mk c fs) m else .no
  | .no => .no) else .no
/-- what is told of an exception: by its class, the first class is over all -/
inductive Told where
  | ret (l : List Nat)
  | ite (c : Nat) (a b : Told)
def isSub (c c' : Nat) : Bool := c' == 0 || c == c'
def Told.ev (c : Nat) : Told → List Nat
  | .ret l => l
  | .ite c' a b => if isSub c c' then a.ev c else b.ev c
/-- told(lambda: B), P: the table of code objects, q: the lambda's name -/
def eTold (P : Nat) (q : List Nat) (t : Told) (els : List Nat) (cs : List Nat) (B : SE) : SE := fun s (m : List Ob) => match m[(0 : Nat)]? with
  | some (.tab P' q') => if P' = P ∧ q' = q then (match B s m with
    | .ok (_, m') => .ok (.str els, m')
    | .ex (.mk c []) m' => if cs.contains c then .ok (.str (t.ev c), m') else .no
    | _ => .no) else .no
  | _ => .no
/-! dicts whose keys are tuples -/
def kHas (kvs : List (PV × PV)) (k : PV) : Bool := kvs.any fun p => PV.eqv p.1 k
def kFind (kvs : List (PV × PV)) (k : PV) : Option PV := (kvs.find? fun p => PV.eqv p.1 k).map (·.2)
def kPut (kvs : List (PV × PV)) (k v : PV) : List (PV × PV) := if kHas kvs k = true then kvs.map (fun p => if PV.eqv p.1 k = true then (p.1, v) else p) else kvs ++ [(k, v)]
def isTup : PV → Bool
  | .tup _ => true
  | _ => false
/-- {}, for keys that are tuples -/
def eKNew : SE := fun _ m => .ok (.ref m.length, m ++ [.kd []])
/-- k in d, k not in d -/
def oKIn (neg : Bool) : O2 := fun k d m => match d with
  | .ref n => (match m[n]? with
    | some (.kd kvs) => if isTup k && k.ky 8 then .ok (.bl (if neg then !kHas kvs k else kHas kvs k), m) else .no
    | _ => .no)
  | _ => .no
/-- d[k], where the key is -/
def oKGet : O2 := fun d k m => match d with
  | .ref n => (match m[n]? with
    | some (.kd kvs) => if isTup k && k.ky 8 then (match kFind kvs k with
      | some v => .ok (v, m)
      | none => .no) else .no
    | _ => .no)
  | _ => .no
def oKSet (d k v : PV) (m : Mm) : Rs Mm := match d with
  | .ref n => (match m[n]? with
    | some (.kd kvs) => if isTup k && k.ky 8 && decide (kvs.length < LINE) then .ok (m.set n (.kd (kPut kvs k v))) else .no
    | _ => .no)
  | _ => .no
def gKSub (o i : SE) : SG := fun v s m => (o s m).bind fun (x, m1) => (i s m1).bind fun (k, m2) => (oKSet x k v m2).bind fun m3 => .ok (s, m3)
end TT
end

section
set_option linter.all false
set_option autoImplicit false
namespace TT
/-- {k: v} -/
def eKDisp1 (fk fv : SE) : SE := fun s m => (fk s (m ++ [.kd []])).bind fun (k, m1) => (fv s m1).bind fun (v, m2) => match m2[m.length]? with
  | some (.kd []) => if isTup k && k.ky 8 then .ok (.ref m.length, m2.set m.length (.kd [(k, v)])) else .no
  | _ => .no
end TT
end

section
set_option linter.all false
set_option autoImplicit false
namespace TT
/-! dicts with tuple keys: read, walked; lists made by + and list() as objects; sum -/
/-- the items of such a dict, locked or not -/
def kdOf (m : Mm) (n : Nat) : Option (List (PV × PV)) := match m[n]? with
  | some (.kd xs) => some xs
  | some (.kl xs) => some xs
  | _ => none
/-- d[k], where the key is -/
def oKIx : O2 := fun d k m => match d with
  | .ref n => (match kdOf m n with
    | some kvs => if isTup k && k.ky 8 then (match kFind kvs k with
      | some v => .ok (v, m)
      | none => .no) else .no
    | none => .no)
  | _ => .no
/-- k in d, k not in d -/
def oKIn2 (neg : Bool) : O2 := fun k d m => match d with
  | .ref n => (match kdOf m n with
    | some kvs => if isTup k && k.ky 8 then .ok (.bl (if neg then !kHas kvs k else kHas kvs k), m) else .no
    | none => .no)
  | _ => .no
/-- d.get(k, x) -/
def eKGetD (fd fk fx : SE) : SE := fun s m => (fd s m).bind fun (d, m1) => match d with
  | .ref n => (match kdOf m1 n with
    | some _ => (fk s m1).bind fun (k, m2) => (fx s m2).bind fun (x, m3) => (match kdOf m3 n with
      | some kvs => if isTup k && k.ky 8 then .ok ((kFind kvs k).getD x, m3) else .no
      | none => .no)
    | none => .no)
  | _ => .no
/-- list(d.values()) -/
def eKVals (fd : SE) : SE := fun s m => (fd s m).bind fun (d, m1) => match d with
  | .ref n => (match kdOf m1 n with
    | some kvs => if kvs.length ≤ LINE then .ok (.vl (kvs.map (·.2)), m1) else .no
    | none => .no)
  | _ => .no
/-- list(d) -/
def eKKeys (fd : SE) : SE := fun s m => (fd s m).bind fun (d, m1) => match d with
  | .ref n => (match kdOf m1 n with
    | some kvs => if kvs.length ≤ LINE then .ok (.vl (kvs.map (·.1)), m1) else .no
    | none => .no)
  | _ => .no
/-- the dict in slot i is changed no more (a ghost step) -/
def sLock (i : Nat) : SS := fun s m => match s[i]? with
  | some (some (.ref n)) => (match m[n]? with
    | some (.kd xs) => .ok (.nx, s, m.set n (.kl xs))
    | _ => .no)
  | _ => .no
/-- over the keys of a locked dict -/
def iKl (fd : SE) : SI := fun s m => (fd s m).bind fun (d, m1) => match d with
  | .ref n => (match m1[n]? with
    | some (.kl xs) => .ok (xs.map (·.1), m1)
    | _ => .no)
  | _ => .no
/-- x + y of lists, an object of its own -/
def oAddM : O2 := fun a b m => match look1 m a, look1 m b with
  | .vl x, .vl y => if x.length + y.length ≤ LINE then .ok (.ref m.length, m ++ [.lst (x ++ y)]) else .no
  | _, _ => .no
/-- list(x), an object of its own -/
def fListM : ON := fun xs m => match xs with
  | [a] => match look1 m a with
    | .vl ys => .ok (.ref m.length, m ++ [.lst ys])
    | .tup ys => .ok (.ref m.length, m ++ [.lst ys])
    | _ => .no
  | _ => .no
def intsOf : List PV → Option (List Int)
  | [] => some []
  | .int i :: r => (intsOf r).map (i :: ·)
  | _ :: _ => none
/-- sum of whole numbers -/
def fSum : ON := fun xs m => match xs with
  | [a] => match look1 m a with
    | .vl ys => match intsOf ys with
      | some is => .ok (.int is.sum, m)
      | none => .no
    | _ => .no
  | _ => .no
/-! comprehensions with two fors -/
def lc2L (g : SG) (t : ST) (it1 : SI) (vs1 : List Nat) (g1 : SG) (t1 : ST) (e : SE) (s : Sl) : List PV → Mm → List PV → Rs (List PV × Mm)
  | [], m, acc => .ok (acc, m)
  | x :: xs, m, acc => (g x s m).nx.bind fun (s1, m1) => (t s1 m1).nx.bind fun (c, m2) =>
    if c then (it1 s1 m2).nx.bind fun (ys, m3) => (lcL g1 t1 e (wipe s1 vs1) ys m3 acc).bind fun (acc', m4) => lc2L g t it1 vs1 g1 t1 e s xs m4 acc' else lc2L g t it1 vs1 g1 t1 e s xs m2 acc
def eLc2 (own vs1 : List Nat) (it : SI) (g : SG) (t : ST) (it1 : SI) (g1 : SG) (t1 : ST) (e : SE) : SE := fun s m => (it s m).bind fun (xs, m1) => (lc2L g t it1 vs1 g1 t1 e (wipe s own) xs m1 []).bind fun (ys, m2) => .ok (.vl ys, m2)
end TT
end

section
set_option Elab.async false
set_option linter.all false
set_option autoImplicit false
set_option maxRecDepth 100000
/-! TT, the relation between values, memory and HandS's abstract heap -/
namespace TT
open PySem PySem.Spec PyProof.Rows L2

/-- the written part and the world -/
structure KW where
  K : PySem.W.Frag
  w : World
instance : CoeOut KW PySem.W.Frag := ⟨KW.K⟩
abbrev _root_.L2.Cx.kw (X : Cx) : KW := ⟨X.K, X.w⟩
/-- the ghost: where the objects of the memory stand; what is read only -/
structure Gh where
  φ : Nat → Option Addr
  ro : Hp
  T : List (Addr × Str)

mutual
inductive Rp (K : KW) (g : Gh) (H : Hp) : PV → V → Prop
  | non : Rp K g H .non .non
  | bl (b : Bool) : Rp K g H (.bl b) (.bl b)
  | int (i : Int) : Rp K g H (.int i) (.int i)
  | str (l : List Nat) : Rp K g H (.str l) (.str ⟨l.toArray⟩)
  | tup {a : Addr} {vs : List V} {xs : List PV} : SqT K H a vs → Rps K g H xs vs → Rp K g H (.tup xs) (.ref a)
  | vl {a : Addr} {vs : List V} {xs : List PV} : g.ro a = some (.lst vs) → Rps K g H xs vs → Rp K g H (.vl xs) (.ref a)
  | fz {a : Addr} {vs : List V} {xs : List PV} : SqL K g.ro a vs → Rps K g H xs vs → Rp K g H (.fz xs) (.ref a)
  | ref {n : Nat} {a : Addr} : g.φ n = some a → Rp K g H (.ref n) (.ref a)
  | fn (a : Addr) : Rp K g H (.fn a) (.ref a)
inductive Rps (K : KW) (g : Gh) (H : Hp) : List PV → List V → Prop
  | nil : Rps K g H [] []
  | cons {x : PV} {xs : List PV} {v : V} {vs : List V} : Rp K g H x v → Rps K g H xs vs → Rps K g H (x :: xs) (v :: vs)
end

/-- no table of code objects -/
def NT (u : HO) : Prop := ∀ ps, u ≠ .tbl ps
theorem nt_mut {u : HO} (h : Mut (some u)) : NT u := fun ps z => by subst z; exact h
theorem tabs_new {T : List (Addr × Str)} {H : Hp} {p : Addr} {o : HO} (t : LamX.Tabs T H) (hp : H p = none) : LamX.Tabs T (upd H p o) := t.ext fun b u h => by rw [upd_ne (ne_of_none h hp)]; exact h
/-- what is written is no code object, no table -/
theorem tabs_wr2 {T : List (Addr × Str)} {H : Hp} {p : Addr} {o u : HO} (t : LamX.Tabs T H) (hp : H p = some u) (h1 : NT u) (h2 : ∀ c q, u ≠ LamX.CodeO c q) : LamX.Tabs T (upd H p o) := fun q hq => by
  obtain ⟨ps, a1, a2, a3⟩ := t q hq
  refine ⟨ps, by rw [upd_ne (fun z => h1 ps (by rw [z, hp] at a1; exact Option.some.inj a1))]; exact a1, a2, fun pos cv hc => ?_⟩
  obtain ⟨c, e1, e2⟩ := a3 pos cv hc
  exact ⟨c, e1, by rw [upd_ne (fun z => h2 c _ (by rw [z, hp] at e2; rw [z]; exact Option.some.inj e2))]; exact e2⟩
theorem tabs_wr {T : List (Addr × Str)} {H : Hp} {p : Addr} {o u : HO} (t : LamX.Tabs T H) (hp : H p = some u) (h1 : NT u) (h2 : ∀ φ, u ≠ .ext φ) : LamX.Tabs T (upd H p o) := fun q hq => by
  obtain ⟨ps, a1, a2, a3⟩ := t q hq
  refine ⟨ps, by rw [upd_ne (fun z => h1 ps (by rw [z, hp] at a1; exact Option.some.inj a1))]; exact a1, a2, fun pos cv hc => ?_⟩
  obtain ⟨c, e1, e2⟩ := a3 pos cv hc
  exact ⟨c, e1, by rw [upd_ne (fun z => h2 _ (by rw [z, hp] at e2; exact Option.some.inj e2))]; exact e2⟩
/-! ### dicts whose keys are tuples -/
mutual
/-- a value as a key -/
def nkOf : PV → NestedKey
  | .non => .none
  | .bl b => .num (if b = true then 1 else 0)
  | .int i => .num i
  | .str l => .text ⟨l.toArray⟩
  | .tup xs => .tup (nkOfs xs)
  | _ => .none
def nkOfs : List PV → List NestedKey
  | [] => []
  | x :: xs => nkOf x :: nkOfs xs
end
def KA : List (NestedKey × Addr × V) → List (NestedKey × Addr × Value) → Prop := Paired fun p q => p.1 = q.1 ∧ p.2.1 = q.2.1 ∧ RelV p.2.2 q.2.2
/-- such a dict at a: its keys, where they stand, its values -/
def KDo (w : World) (a : Addr) (xs : List (NestedKey × Addr × V)) : HO := .ext fun h => (a == sysModules) = false ∧ xs.length ≤ sizeLine ∧ ∃ ys, KA xs ys ∧ ∃ o es ep, h.get? a = some o ∧ o.ExactDict ∧ o.data = .dict es ep ∧
  es.toList = ys.map (fun y => (⟨y.1.hash w, .ref y.2.1, y.2.2⟩ : DictEntry)) ∧ (ys.map (·.1)).Nodup
theorem kd_nt {w : World} {a : Addr} {xs : List (NestedKey × Addr × V)} : NT (KDo w a xs) := fun ps z => by unfold KDo at z; cases z
theorem kd_code {w : World} {a : Addr} {xs : List (NestedKey × Addr × V)} (c : Addr) (q : Str) : KDo w a xs ≠ LamX.CodeO c q := fun z => by
  unfold KDo LamX.CodeO at z
  have f := HO.ext.inj z
  obtain ⟨ob, hob⟩ : ∃ ob : Obj, ob = { cls := .none, data := .fields #[.none, .str q 0] } := ⟨_, rfl⟩
  obtain ⟨h, hh⟩ : ∃ h : Heap, h = ⟨Array.replicate (a + c + 1) ob, {}⟩ := ⟨_, rfl⟩
  have g : ∀ b, b < a + c + 1 → h.get? b = some ob := fun b hb => by
    rw [hh, hob]
    unfold Heap.get?
    simp [hb]
  have p := (congrFun f h).symm.mp ⟨ob, #[.none, .str q 0], 0, g c (Nat.lt_succ_of_le (Nat.le_add_left c a)), by rw [hob], rfl⟩
  obtain ⟨_, _, ys, _, o, es, ep, h1, _, h2, _⟩ := p
  rw [g a (Nat.lt_succ_of_le (Nat.le_add_right a c))] at h1
  cases h1
  rw [hob] at h2
  cases h2
/-- the same, its object told: it is changed no more -/
def KDl (w : World) (a : Addr) (o : Obj) (xs : List (NestedKey × Addr × V)) : HO := .ext fun h => h.get? a = some o ∧ (a == sysModules) = false ∧ xs.length ≤ sizeLine ∧ o.ExactDict ∧ ∃ ys, KA xs ys ∧ ∃ es ep, o.data = .dict es ep ∧
  es.toList = ys.map (fun y => (⟨y.1.hash w, .ref y.2.1, y.2.2⟩ : DictEntry)) ∧ (ys.map (·.1)).Nodup
theorem kdl_nt {w : World} {a : Addr} {o : Obj} {xs : List (NestedKey × Addr × V)} : NT (KDl w a o xs) := fun ps z => by unfold KDl at z; cases z
/-- in the memory, and changed no more -/
def Froz : Option Ob → Prop
  | some .dead => True
  | some (.kl _) => True
  | _ => False
inductive RND (K : KW) (g : Gh) (H : Hp) : List (PV × PV) → List (NestedKey × Addr × V) → Prop
  | nil : RND K g H [] []
  | cons {k x : PV} {q : Addr} {v : V} {xs : List (PV × PV)} {vs : List (NestedKey × Addr × V)} : k.ky 8 = true → Rp K g H k (.ref q) → Rp K g H x v → RND K g H xs vs → RND K g H ((k, x) :: xs) ((nkOf k, q, v) :: vs)
theorem RND.imp {K : KW} {g g' : Gh} {H H' : Hp} (f : ∀ {v w}, Rp K g H v w → Rp K g' H' v w) : ∀ {xs : List (PV × PV)} {vs : List (NestedKey × Addr × V)}, RND K g H xs vs → RND K g' H' xs vs
  | _, _, .nil => .nil
  | _, _, .cons y a b c => .cons y (f a) (f b) (RND.imp f c)
/-- the keys that HandS's dicts know: whole numbers and texts -/
def keyOf : PV → Option Key
  | .int i => some (.inl i)
  | .str l => some (.inr ⟨l.toArray⟩)
  | _ => none
inductive RKs (K : KW) (g : Gh) (H : Hp) : List (PV × PV) → List (Key × V) → Prop
  | nil : RKs K g H [] []
  | cons {k x : PV} {k' : Key} {v : V} {xs : List (PV × PV)} {vs : List (Key × V)} : keyOf k = some k' → Rp K g H x v → RKs K g H xs vs → RKs K g H ((k, x) :: xs) ((k', v) :: vs)
theorem RKs.imp {K : KW} {g g' : Gh} {H H' : Hp} (f : ∀ {v w}, Rp K g H v w → Rp K g' H' v w) : ∀ {xs : List (PV × PV)} {vs : List (Key × V)}, RKs K g H xs vs → RKs K g' H' xs vs
  | _, _, .nil => .nil
  | _, _, .cons a b c => .cons a (f b) (RKs.imp f c)
def ROb (K : KW) (g : Gh) (H : Hp) (n : Nat) : Ob → Prop
  | .lst xs => ∃ a vs, g.φ n = some a ∧ H a = some (.lst vs) ∧ Rps K g H xs vs
  | .dict xs => ∃ a vs, g.φ n = some a ∧ H a = some (.dK vs) ∧ RKs K g H xs vs
  | .dead => True
  | .tab P q => g.T = [(P, ⟨q.toArray⟩)]
  | .kd xs => ∃ a vs, g.φ n = some a ∧ H a = some (KDo K.w a vs) ∧ RND K g H xs vs
  | .kl xs => ∃ a o vs, g.φ n = some a ∧ g.ro a = some (KDl K.w a o vs) ∧ RND K g H xs vs

structure Emb (K : KW) (g : Gh) (m : Mm) (H : Hp) : Prop where
  obj : ∀ n o, m[n]? = some o → ROb K g H n o
  dom : ∀ n a, g.φ n = some a → n < m.length ∧ ∃ u, H a = some u ∧ Mut (some u)
  inj : ∀ n k a, g.φ n = some a → g.φ k = some a → n = k
  ro : ∀ a u, g.ro a = some u → H a = some u ∧ ∀ n, g.φ n = some a → Froz m[n]?
  nt : ∀ a u, g.ro a = some u → NT u
  tab : LamX.Tabs g.T H

/-- what becomes of ghost and heap: grown; what is not in the memory stays -/
structure Ext (g : Gh) (H : Hp) (g' : Gh) (H' : Hp) : Prop where
  phi : ∀ n a, g.φ n = some a → g'.φ n = some a
  ro : ∀ a u, g.ro a = some u → g'.ro a = some u
  fr : ∀ a u, H a = some u → (∀ n, g.φ n ≠ some a) → NT u → H' a = some u
  /-- what was not in the memory and stood already does not come into it -/
  old : ∀ a u, H a = some u → (∀ n, g.φ n ≠ some a) → NT u → ∀ n, g'.φ n ≠ some a
  oldr : ∀ a u, H a = some u → (∀ n, g.φ n ≠ some a) → NT u → g.ro a = none → g'.ro a = none
  T : g'.T = g.T

theorem Ext.refl (g : Gh) (H : Hp) : Ext g H g H := ⟨fun _ _ h => h, fun _ _ h => h, fun _ _ h _ _ => h, fun _ _ _ h _ => h, fun _ _ _ _ _ h => h, rfl⟩
theorem Ext.trans {g g1 g2 : Gh} {H H1 H2 : Hp} (a : Ext g H g1 H1) (b : Ext g1 H1 g2 H2) : Ext g H g2 H2 :=
  ⟨fun n x h => b.phi n x (a.phi n x h), fun x u h => b.ro x u (a.ro x u h), fun x u h n t => b.fr x u (a.fr x u h n t) (a.old x u h n t) t, fun x u h n t => b.old x u (a.fr x u h n t) (a.old x u h n t) t, fun x u h n t r => b.oldr x u (a.fr x u h n t) (a.old x u h n t) t (a.oldr x u h n t r), b.T.trans a.T⟩

theorem not_mut_tup {u : HO} {xs : List V} (h : Mut (some u)) (e : u = .tup xs) : False := by subst e; exact h
theorem not_mut_frz {u w : HO} {o : Obj} (h : Mut (some u)) (e : u = .frz o w) : False := by subst e; exact h

/-- a tuple is not in the memory -/
theorem Emb.tup_out {K : KW} {g : Gh} {m : Mm} {H : Hp} (e : Emb K g m H) {a : Addr} {xs : List V} (h : Rd H a (.tup xs)) : ∀ n, g.φ n ≠ some a := by
  intro n hn
  obtain ⟨_, u, hu, mu⟩ := e.dom n a hn
  rcases h with h | ⟨o, h⟩
  · rw [hu] at h; exact not_mut_tup mu (Option.some.inj h)
  · rw [hu] at h; exact not_mut_frz mu (Option.some.inj h)

section
variable {K : KW} {g g' : Gh} {m m' : Mm} {H H' : Hp}
theorem Emb.sqT (e : Emb K g m H) (x : Ext g H g' H') {a : Addr} {xs : List V} (h : SqT K H a xs) : SqT K H' a xs := by
  rcases h with (h | ⟨o, h⟩) | h
  · exact .inl (.inl (x.fr _ _ h (e.tup_out (.inl h)) (fun ps z => nomatch z)))
  · exact .inl (.inr ⟨o, x.fr _ _ h (e.tup_out (.inr ⟨o, h⟩)) (fun ps z => nomatch z)⟩)
  · exact .inr h
theorem sqL_mono {r r' : Hp} (h : ∀ a u, r a = some u → r' a = some u) {a : Addr} {xs : List V} (q : SqL K r a xs) : SqL K r' a xs := by
  rcases q with (q | ⟨o, q⟩) | q
  · exact .inl (.inl (h _ _ q))
  · exact .inl (.inr ⟨o, h _ _ q⟩)
  · exact .inr q
mutual
theorem Rp.ext (e : Emb K g m H) (x : Ext g H g' H') : ∀ {v : PV} {w : V}, Rp K g H v w → Rp K g' H' v w
  | _, _, .non => .non
  | _, _, .bl b => .bl b
  | _, _, .int i => .int i
  | _, _, .str l => .str l
  | _, _, .tup h r => .tup (e.sqT x h) (Rps.ext e x r)
  | _, _, .vl h r => .vl (x.ro _ _ h) (Rps.ext e x r)
  | _, _, .fz h r => .fz (sqL_mono x.ro h) (Rps.ext e x r)
  | _, _, .ref h => .ref (x.phi _ _ h)
  | _, _, .fn a => .fn a
theorem Rps.ext (e : Emb K g m H) (x : Ext g H g' H') : ∀ {v : List PV} {w : List V}, Rps K g H v w → Rps K g' H' v w
  | _, _, .nil => .nil
  | _, _, .cons h r => .cons (Rp.ext e x h) (Rps.ext e x r)
end
theorem RKs.ext (e : Emb K g m H) (x : Ext g H g' H') {v : List (PV × PV)} {w : List (Key × V)} (h : RKs K g H v w) : RKs K g' H' v w := h.imp fun r => r.ext e x
theorem RND.ext (e : Emb K g m H) (x : Ext g H g' H') {v : List (PV × PV)} {w : List (NestedKey × Addr × V)} (h : RND K g H v w) : RND K g' H' v w := h.imp fun r => r.ext e x
theorem Rps.length : ∀ {v : List PV} {w : List V}, Rps K g H v w → v.length = w.length
  | _, _, .nil => rfl
  | _, _, .cons _ r => by simp [Rps.length r]
theorem Rps.get : ∀ {v : List PV} {w : List V} {i : Nat} {x : PV}, Rps K g H v w → v[i]? = some x → ∃ y, w[i]? = some y ∧ Rp K g H x y
  | _, _, _, _, .nil, h => by simp at h
  | _, _, 0, _, .cons a _, h => by simp at h; subst h; exact ⟨_, rfl, a⟩
  | _, _, i + 1, x, .cons _ r, h => by
    obtain ⟨y, h1, h2⟩ := Rps.get (i := i) (x := x) r (by simpa using h)
    exact ⟨y, by simpa using h1, h2⟩
theorem Rps.get' : ∀ {v : List PV} {w : List V} {i : Nat} {y : V}, Rps K g H v w → w[i]? = some y → ∃ x, v[i]? = some x ∧ Rp K g H x y
  | _, _, _, _, .nil, h => by simp at h
  | _, _, 0, _, .cons a _, h => by simp at h; subst h; exact ⟨_, rfl, a⟩
  | _, _, i + 1, x, .cons _ r, h => by
    obtain ⟨y, h1, h2⟩ := Rps.get' (i := i) (y := x) r (by simpa using h)
    exact ⟨y, by simpa using h1, h2⟩
theorem Rps.append : ∀ {v v' : List PV} {w w' : List V}, Rps K g H v w → Rps K g H v' w' → Rps K g H (v ++ v') (w ++ w')
  | _, _, _, _, .nil, s => s
  | _, _, _, _, .cons h r, s => .cons h (Rps.append r s)
theorem Rps.take : ∀ {v : List PV} {w : List V} (n : Nat), Rps K g H v w → Rps K g H (v.take n) (w.take n)
  | _, _, 0, _ => .nil
  | _, _, _ + 1, .nil => .nil
  | _, _, n + 1, .cons h r => .cons h (Rps.take n r)
theorem Rps.drop : ∀ {v : List PV} {w : List V} (n : Nat), Rps K g H v w → Rps K g H (v.drop n) (w.drop n)
  | _, _, 0, r => r
  | _, _, _ + 1, .nil => .nil
  | _, _, n + 1, .cons h r => Rps.drop n r
theorem Rps.rev {v : List PV} {w : List V} (h : Rps K g H v w) : Rps K g H v.reverse w.reverse := by
  induction v generalizing w with
  | nil => cases h; exact .nil
  | cons x xs ih =>
    cases h with
    | cons a r => rw [List.reverse_cons, List.reverse_cons]; exact (ih r).append (.cons a .nil)
theorem Rps.set {x : PV} {y : V} (a : Rp K g H x y) : ∀ {v : List PV} {w : List V} (i : Nat), Rps K g H v w → Rps K g H (v.set i x) (w.set i y)
  | _, _, _, .nil => .nil
  | _, _, 0, .cons _ r => .cons a r
  | _, _, i + 1, .cons h r => .cons h (Rps.set a i r)
theorem Rps.rep {v : List PV} {w : List V} (h : Rps K g H v w) : ∀ k : Nat, Rps K g H (List.replicate k v).flatten (List.replicate k w).flatten
  | 0 => .nil
  | k + 1 => by rw [List.replicate_succ, List.replicate_succ, List.flatten_cons, List.flatten_cons]; exact h.append (Rps.rep h k)

/-- a value's list or a list in the memory -/
theorem Emb.look (e : Emb K g m H) {v : PV} {w : V} (r : Rp K g H v w) {xs : List PV} (h : look1 m v = .vl xs) : ∃ a vs, w = .ref a ∧ H a = some (.lst vs) ∧ Rps K g H xs vs := by
  cases r with
  | vl h1 h2 => simp only [look1] at h; cases h; exact ⟨_, _, rfl, (e.ro _ _ h1).1, h2⟩
  | ref hn =>
    simp only [look1] at h
    split at h
    · rename_i ys hy
      cases h
      obtain ⟨a, vs, h1, h2, h3⟩ := e.obj _ _ hy
      rw [hn] at h1; cases h1
      exact ⟨_, vs, rfl, h2, h3⟩
    · cases h
  | _ => simp only [look1] at h; cases h
theorem look1_tup {v : PV} {xs : List PV} (h : look1 m v = .tup xs) : v = .tup xs := by
  cases v with
  | ref n => simp only [look1] at h; split at h <;> cases h
  | _ => simpa only [look1] using h
theorem look1_str {v : PV} {xs : List Nat} (h : look1 m v = .str xs) : v = .str xs := by
  cases v with
  | ref n => simp only [look1] at h; split at h <;> cases h
  | _ => simpa only [look1] using h
theorem look1_int {v : PV} {i : Int} (h : look1 m v = .int i) : v = .int i := by
  cases v with
  | ref n => simp only [look1] at h; split at h <;> cases h
  | _ => simpa only [look1] using h
theorem look1_fz {v : PV} {xs : List PV} (h : look1 m v = .fz xs) : v = .fz xs := by
  cases v with
  | ref n => simp only [look1] at h; split at h <;> cases h
  | _ => simpa only [look1] using h
theorem Emb.fz (e : Emb K g m H) {xs : List PV} {w : V} (r : Rp K g H (.fz xs) w) : ∃ a vs, w = .ref a ∧ SqL K H a vs ∧ Rps K g H xs vs := by
  cases r with
  | fz h1 h2 => exact ⟨_, _, rfl, sqL_mono (fun a u h => (e.ro a u h).1) h1, h2⟩
theorem Rp.tup_inv {xs : List PV} {w : V} (r : Rp K g H (.tup xs) w) : ∃ a vs, w = .ref a ∧ SqT K H a vs ∧ Rps K g H xs vs := by
  cases r with
  | tup h1 h2 => exact ⟨_, _, rfl, h1, h2⟩
theorem Rp.int_inv {i : Int} {w : V} (r : Rp K g H (.int i) w) : w = .int i := by cases r; rfl
theorem Rp.bl_inv {i : Bool} {w : V} (r : Rp K g H (.bl i) w) : w = .bl i := by cases r; rfl
theorem Rp.non_inv {w : V} (r : Rp K g H .non w) : w = .non := by cases r; rfl
theorem Rp.str_inv {l : List Nat} {w : V} (r : Rp K g H (.str l) w) : w = .str ⟨l.toArray⟩ := by cases r; rfl
theorem Rp.ref_inv {n : Nat} {w : V} (r : Rp K g H (.ref n) w) : ∃ a, w = .ref a ∧ g.φ n = some a := by cases r with | ref h => exact ⟨_, rfl, h⟩
end

/-! ### slots -/
structure Sr (K : KW) (g : Gh) (H : Hp) (s : Sl) (σ : L2.St) : Prop where
  len : s.length = σ.length
  at_ : ∀ (i : Nat) (v : PV), s[i]? = some (some v) → ∃ w, σ[i]? = some (some w) ∧ Rp K g H v w
section
variable {K : KW} {g g' : Gh} {m m' : Mm} {H H' : Hp} {s : Sl} {σ : L2.St}
theorem Sr.ext (r : Sr K g H s σ) (e : Emb K g m H) (x : Ext g H g' H') : Sr K g' H' s σ :=
  ⟨r.len, fun i v h => let ⟨w, h1, h2⟩ := r.at_ i v h; ⟨w, h1, h2.ext e x⟩⟩
theorem Sr.set (r : Sr K g H s σ) {v : PV} {w : V} (a : Rp K g H v w) (i : Nat) : Sr K g H (s.set i (some v)) (σ.set i (some w)) := by
  refine ⟨by simp [r.len], fun j u h => ?_⟩
  by_cases hj : i = j
  · subst hj
    by_cases hi : i < s.length
    · rw [List.getElem?_set_self hi] at h
      cases h
      exact ⟨w, List.getElem?_set_self (by rw [← r.len]; exact hi), a⟩
    · rw [List.getElem?_eq_none (by simpa using hi)] at h; cases h
  · rw [List.getElem?_set_ne hj] at h
    rw [List.getElem?_set_ne hj]
    exact r.at_ j u h
theorem Sr.unset (r : Sr K g H s σ) (i : Nat) : Sr K g H (s.set i none) (σ.set i none) := by
  refine ⟨by simp [r.len], fun j u h => ?_⟩
  by_cases hj : i = j
  · subst hj
    by_cases hi : i < s.length
    · rw [List.getElem?_set_self hi] at h; cases h
    · rw [List.getElem?_eq_none (by simpa using hi)] at h; cases h
  · rw [List.getElem?_set_ne hj] at h
    rw [List.getElem?_set_ne hj]
    exact r.at_ j u h
theorem Sr.wipe (r : Sr K g H s σ) : ∀ vs : List Nat, Sr K g H (wipe s vs) (L2.wipe σ vs)
  | [] => r
  | v :: vs => (Sr.wipe r vs).unset v
end

/-! ### results -/
abbrev XC := Exn → Mm → Gh → Hp → Prop
def QR (K : KW) (Ξ : XC) (g : Gh) (H : Hp) {α : Type} (P : α → Prop) : Rs α → Prop
  | .ok a => P a
  | .ex e m => ∀ g' H', Ext g H g' H' → Emb K g' m H' → Ξ e m g' H'
  | .no => False
section
variable {K : KW} {Ξ : XC} {g g' : Gh} {H H' : Hp}
theorem QR.bind {α β : Type} {r : Rs α} {k : α → Rs β} {P : β → Prop} {P' : α → Prop} (h : QR K Ξ g H P (r.bind k)) (f : ∀ a, r = .ok a → QR K Ξ g H P (k a) → P' a) : QR K Ξ g H P' r := by
  cases r with
  | ok a => exact f a rfl h
  | ex e m => exact h
  | no => exact h
theorem QR.imp {α : Type} {r : Rs α} {P P' : α → Prop} (h : QR K Ξ g H P r) (f : ∀ a, r = .ok a → P a → P' a) : QR K Ξ g H P' r := by
  cases r with
  | ok a => exact f a rfl h
  | ex e m => exact h
  | no => exact h
theorem QR.bindAt {α β : Type} {r : Rs α} {k : α → Rs β} {P : β → Prop} {P' : α → Prop} (x : Ext g H g' H') (h : QR K Ξ g H P (r.bind k)) (f : ∀ a, r = .ok a → QR K Ξ g H P (k a) → P' a) : QR K Ξ g' H' P' r := by
  cases r with
  | ok a => exact f a rfl h
  | ex e m => exact fun g2 H2 x2 e2 => h g2 H2 (x.trans x2) e2
  | no => exact h
theorem QR.later {α : Type} {r : Rs α} {P P' : α → Prop} (x : Ext g H g' H') (h : QR K Ξ g H P r) (f : ∀ a, P a → P' a) : QR K Ξ g' H' P' r := by
  cases r with
  | ok a => exact f a h
  | ex e m => exact fun g2 H2 x2 e2 => h g2 H2 (x.trans x2) e2
  | no => exact h
end
abbrev PEnd (K : KW) (g : Gh) (H : Hp) (Q : VK) : PV × Mm → Prop := fun p => ∀ g' H' V, Ext g H g' H' → Emb K g' p.2 H' → Rp K g' H' p.1 V → Q V H'
abbrev PEndA (K : KW) (g : Gh) (H : Hp) (Q : List V → Hp → Prop) : List PV × Mm → Prop := fun p => ∀ g' H' V, Ext g H g' H' → Emb K g' p.2 H' → Rps K g' H' p.1 V → Q V H'
abbrev PEndT (K : KW) (g : Gh) (H : Hp) (Q : Bool → Hp → Prop) : Bool × Mm → Prop := fun p => ∀ g' H', Ext g H g' H' → Emb K g' p.2 H' → Q p.1 H'
def FlOk (K : KW) (g : Gh) (H : Hp) (D : Ends) (σ : L2.St) : Fl → Prop
  | .nx => D.nx σ H
  | .bk => D.bk σ H
  | .ct => D.ct σ H
  | .rt v => ∀ V, Rp K g H v V → D.rt V H
abbrev PEndS (K : KW) (g : Gh) (H : Hp) (D : Ends) : Fl × Sl × Mm → Prop := fun p => ∀ g' H' σ', Ext g H g' H' → Emb K g' p.2.2 H' → Sr K g' H' p.2.1 σ' → FlOk K g' H' D σ' p.1
abbrev QE (K : KW) (Ξ : XC) (g : Gh) (H : Hp) (Q : VK) (r : Rs (PV × Mm)) : Prop := QR K Ξ g H (PEnd K g H Q) r
abbrev QA (K : KW) (Ξ : XC) (g : Gh) (H : Hp) (Q : List V → Hp → Prop) (r : Rs (List PV × Mm)) : Prop := QR K Ξ g H (PEndA K g H Q) r
abbrev QT (K : KW) (Ξ : XC) (g : Gh) (H : Hp) (Q : Bool → Hp → Prop) (r : Rs (Bool × Mm)) : Prop := QR K Ξ g H (PEndT K g H Q) r
abbrev QS (K : KW) (Ξ : XC) (g : Gh) (H : Hp) (D : Ends) (r : Rs (Fl × Sl × Mm)) : Prop := QR K Ξ g H (PEndS K g H D) r
section
variable {K : KW} {Ξ : XC} {g g' : Gh} {H H' : Hp}
theorem QE.later {Q : VK} {r : Rs (PV × Mm)} (x : Ext g H g' H') (h : QE K Ξ g H Q r) : QE K Ξ g' H' Q r := QR.later x h fun _ p g2 H2 V x2 => p g2 H2 V (x.trans x2)
theorem QA.later {Q : List V → Hp → Prop} {r : Rs (List PV × Mm)} (x : Ext g H g' H') (h : QA K Ξ g H Q r) : QA K Ξ g' H' Q r := QR.later x h fun _ p g2 H2 V x2 => p g2 H2 V (x.trans x2)
theorem QT.later {Q : Bool → Hp → Prop} {r : Rs (Bool × Mm)} (x : Ext g H g' H') (h : QT K Ξ g H Q r) : QT K Ξ g' H' Q r := QR.later x h fun _ p g2 H2 x2 => p g2 H2 (x.trans x2)
theorem QS.later {D : Ends} {r : Rs (Fl × Sl × Mm)} (x : Ext g H g' H') (h : QS K Ξ g H D r) : QS K Ξ g' H' D r := QR.later x h fun _ p g2 H2 V x2 => p g2 H2 V (x.trans x2)
end

/-! ### readings -/
def rdE (K : KW) (Ξ : XC) (f : SE) : TE := fun σ H Q => ∃ g s m, Emb K g m H ∧ Sr K g H s σ ∧ QE K Ξ g H Q (f s m)
def rdA (K : KW) (Ξ : XC) (f : SA) : TA := fun σ H Q => ∃ g s m, Emb K g m H ∧ Sr K g H s σ ∧ QA K Ξ g H Q (f s m)
def rdT (K : KW) (Ξ : XC) (f : ST) : TT := fun σ H Q => ∃ g s m, Emb K g m H ∧ Sr K g H s σ ∧ QT K Ξ g H Q (f s m)
def rdS (K : KW) (Ξ : XC) (f : SS) : TS := fun D σ H => ∃ g s m, Emb K g m H ∧ Sr K g H s σ ∧ QS K Ξ g H D (f s m)
/-- by values -/
def rd1 (K : KW) (Ξ : XC) (f : O1) : V → Hp → VK → Prop := fun x H Q => ∃ g m a, Emb K g m H ∧ Rp K g H a x ∧ QE K Ξ g H Q (f a m)
def rd2 (K : KW) (Ξ : XC) (f : O2) : R2 := fun x y H Q => ∃ g m a b, Emb K g m H ∧ Rp K g H a x ∧ Rp K g H b y ∧ QE K Ξ g H Q (f a b m)
def rdN (K : KW) (Ξ : XC) (f : ON) : List V → Hp → VK → Prop := fun xs H Q => ∃ g m as, Emb K g m H ∧ Rps K g H as xs ∧ QE K Ξ g H Q (f as m)

theorem PE_imp {X : Cx} {e : Expr} {t t' : TE} (h : PE X e t) (f : ∀ σ H Q, t' σ H Q → t σ H Q) : PE X e t' := ⟨fun pins s σ H Q I q => h.run pins s σ H Q I (f σ H Q q)⟩
theorem PT_imp {X : Cx} {e : Expr} {t t' : TT} (h : PT X e t) (f : ∀ σ H Q, t' σ H Q → t σ H Q) : PT X e t' := ⟨fun pins s σ H Q I q => h.run pins s σ H Q I (f σ H Q q)⟩
theorem PW_imp {X : Cx} {e : Expr} {t t' : TT} (h : PW X e t) (f : ∀ σ H Q, t' σ H Q → t σ H Q) : PW X e t' := ⟨fun wh pins s σ H Q I q => h.run wh pins s σ H Q I (f σ H Q q)⟩
theorem PA_imp {X : Cx} {e : List Expr} {t t' : TA} (h : PA X e t) (f : ∀ σ H Q, t' σ H Q → t σ H Q) : PA X e t' := ⟨fun pos pins s σ H Q I q => h.run pos pins s σ H Q I (f σ H Q q)⟩
theorem PS_imp {X : Cx} {e : Stmt} {t t' : TS} (h : PS X e t) (f : ∀ D σ H, t' D σ H → t D σ H) : PS X e t' := ⟨fun pins s σ H D I q => h.run pins s σ H D I (f D σ H q)⟩
theorem PSs_imp {X : Cx} {e : List Stmt} {t t' : TS} (h : PSs X e t) (f : ∀ D σ H, t' D σ H → t D σ H) : PSs X e t' := ⟨fun pins s σ H D I q => h.run pins s σ H D I (f D σ H q)⟩
theorem PG_imp {X : Cx} {e : Expr} {t t' : TG} (h : PG X e t) (f : ∀ v σ H Q, t' v σ H Q → t v σ H Q) : PG X e t' := ⟨fun pins s σ H v u Q I r q => h.run pins s σ H v u Q I r (f v σ H Q q)⟩
theorem OpR_imp {X : Cx} {f : Value → Value → Sem Value} {r r' : R2} (h : OpR X f r) (i : ∀ x y H Q, r' x y H Q → r x y H Q) : OpR X f r' := fun pins s σ H x y v u Q I rx ry q => h pins s σ H x y v u Q I rx ry (i _ _ _ _ q)
theorem CallR_imp {X : Cx} {f : Value} {r r' : List V → Hp → VK → Prop} (h : CallR X f r) (i : ∀ xs H Q, r' xs H Q → r xs H Q) : CallR X f r' := fun pins s σ H xs us Q I rx q => h pins s σ H xs us Q I rx (i _ _ _ q)
end TT
end

section
set_option Elab.async false
set_option linter.all false
set_option autoImplicit false
set_option maxRecDepth 100000
/-! TT: new objects, writes, operators by values -/
namespace TT
open PySem PySem.Spec PyProof.Rows L2

section
variable {K : KW} {g g' : Gh} {m m' : Mm} {H H' : Hp}
/-! ### new objects, writes -/
theorem Ext.newTup {p : Addr} {o : HO} (hp : H p = none) (ht : ¬ ∃ n, g.φ n = some p) : Ext g H g (upd H p o) :=
  ⟨fun _ _ h => h, fun _ _ h => h, fun a u h _ _ => by rw [upd_ne (ne_of_none h hp)]; exact h, fun _ _ _ h _ => h, fun _ _ _ _ _ h => h, rfl⟩
theorem Emb.free (e : Emb K g m H) {p : Addr} (hp : H p = none) : ∀ n, g.φ n ≠ some p := fun n h => by
  obtain ⟨_, u, hu, _⟩ := e.dom n p h
  rw [hp] at hu; cases hu
theorem Emb.freeR (e : Emb K g m H) {p : Addr} (hp : H p = none) : g.ro p = none := by
  cases q : g.ro p with
  | none => rfl
  | some u =>
    have := (e.ro p u q).1
    rw [hp] at this; cases this
theorem Emb.new_tup (e : Emb K g m H) {p : Addr} {xs : List PV} {vs : List V} (hp : H p = none) (r : Rps K g H xs vs) :
    Ext g H g (upd H p (.tup vs)) ∧ Emb K g m (upd H p (.tup vs)) ∧ Rp K g (upd H p (.tup vs)) (.tup xs) (.ref p) := by
  have x : Ext g H g (upd H p (.tup vs)) := Ext.newTup hp fun ⟨n, h⟩ => e.free hp n h
  refine ⟨x, ⟨fun n o h => ?_, fun n a h => ?_, e.inj, fun a u h => ?_, e.nt, tabs_new e.tab hp⟩, .tup (.inl (.inl upd_same)) (r.ext e x)⟩
  · have q := e.obj n o h
    cases o with
    | lst ys =>
      obtain ⟨a, ws, h1, h2, h3⟩ := q
      exact ⟨a, ws, h1, by rw [upd_ne (ne_of_none h2 hp)]; exact h2, h3.ext e x⟩
    | dict ys =>
      obtain ⟨a, ws, h1, h2, h3⟩ := q
      exact ⟨a, ws, h1, by rw [upd_ne (ne_of_none h2 hp)]; exact h2, h3.ext e x⟩
    | kd ys =>
      obtain ⟨a, ws, h1, h2, h3⟩ := q
      exact ⟨a, ws, h1, by rw [upd_ne (ne_of_none h2 hp)]; exact h2, h3.ext e x⟩
    | kl zs =>
      obtain ⟨a, ob, ws, h1, h2, h3⟩ := q
      exact ⟨a, ob, ws, h1, x.ro _ _ h2, h3.ext e x⟩
    | dead => trivial
    | tab P l => exact q
  · obtain ⟨h1, u, h2, h3⟩ := e.dom n a h
    exact ⟨h1, u, by rw [upd_ne (ne_of_none h2 hp)]; exact h2, h3⟩
  · obtain ⟨h1, h2⟩ := e.ro a u h
    exact ⟨by rw [upd_ne (ne_of_none h1 hp)]; exact h1, h2⟩
def Gh.addR (g : Gh) (p : Addr) (o : HO) : Gh := ⟨g.φ, upd g.ro p o, g.T⟩
theorem nt_addR {g : Gh} {p : Addr} {vs : List V} (h : ∀ a u, g.ro a = some u → NT u) : ∀ a u, (g.addR p (.lst vs)).ro a = some u → NT u := fun a u z => by
  have z' : upd g.ro p (.lst vs) a = some u := z
  by_cases ha : a = p
  · subst ha; rw [upd_same] at z'; cases z'; exact fun ps z => nomatch z
  · rw [upd_ne ha] at z'; exact h a u z'
theorem Emb.new_vl (e : Emb K g m H) {p : Addr} {xs : List PV} {vs : List V} (hp : H p = none) (r : Rps K g H xs vs) :
    Ext g H (g.addR p (.lst vs)) (upd H p (.lst vs)) ∧ Emb K (g.addR p (.lst vs)) m (upd H p (.lst vs)) ∧ Rp K (g.addR p (.lst vs)) (upd H p (.lst vs)) (.vl xs) (.ref p) := by
  have x : Ext g H (g.addR p (.lst vs)) (upd H p (.lst vs)) :=
    ⟨fun _ _ h => h, fun a u h => by
      have : a ≠ p := fun z => by subst z; rw [e.freeR hp] at h; cases h
      show upd g.ro p _ a = some u
      rw [upd_ne this]; exact h, fun a u h _ _ => by rw [upd_ne (ne_of_none h hp)]; exact h, fun _ _ _ h _ => h, fun a u h _ _ hr => by
      show upd g.ro p _ a = none
      rw [upd_ne (ne_of_none h hp)]; exact hr, rfl⟩
  refine ⟨x, ⟨fun n o h => ?_, fun n a h => ?_, e.inj, fun a u h => ?_, nt_addR e.nt, tabs_new e.tab hp⟩, .vl upd_same (r.ext e x)⟩
  · have q := e.obj n o h
    cases o with
    | lst ys =>
      obtain ⟨a, ws, h1, h2, h3⟩ := q
      exact ⟨a, ws, h1, by rw [upd_ne (ne_of_none h2 hp)]; exact h2, h3.ext e x⟩
    | dict ys =>
      obtain ⟨a, ws, h1, h2, h3⟩ := q
      exact ⟨a, ws, h1, by rw [upd_ne (ne_of_none h2 hp)]; exact h2, h3.ext e x⟩
    | kd ys =>
      obtain ⟨a, ws, h1, h2, h3⟩ := q
      exact ⟨a, ws, h1, by rw [upd_ne (ne_of_none h2 hp)]; exact h2, h3.ext e x⟩
    | kl zs =>
      obtain ⟨a, ob, ws, h1, h2, h3⟩ := q
      exact ⟨a, ob, ws, h1, x.ro _ _ h2, h3.ext e x⟩
    | dead => trivial
    | tab P l => exact q
  · obtain ⟨h1, u, h2, h3⟩ := e.dom n a h
    exact ⟨h1, u, by rw [upd_ne (ne_of_none h2 hp)]; exact h2, h3⟩
  · by_cases ha : a = p
    · subst ha
      have h' : upd g.ro a (.lst vs) a = some u := h
      rw [upd_same] at h'; cases h'
      exact ⟨upd_same, fun n hn => (e.free hp n hn).elim⟩
    · have h' : upd g.ro p (.lst vs) a = some u := h
      rw [upd_ne ha] at h'
      obtain ⟨h1, h2⟩ := e.ro a u h'
      exact ⟨by rw [upd_ne ha]; exact h1, h2⟩
def Gh.addP (g : Gh) (k : Nat) (p : Addr) : Gh := ⟨fun n => if n = k then some p else g.φ n, g.ro, g.T⟩
theorem Emb.fresh_id (e : Emb K g m H) : g.φ m.length = none := by
  cases q : g.φ m.length with
  | none => rfl
  | some a => exact absurd (e.dom _ _ q).1 (Nat.lt_irrefl _)
theorem Emb.new_lst (e : Emb K g m H) {p : Addr} {xs : List PV} {vs : List V} (hp : H p = none) (r : Rps K g H xs vs) :
    Ext g H (g.addP m.length p) (upd H p (.lst vs)) ∧ Emb K (g.addP m.length p) (m ++ [.lst xs]) (upd H p (.lst vs)) ∧ Rp K (g.addP m.length p) (upd H p (.lst vs)) (.ref m.length) (.ref p) := by
  have x : Ext g H (g.addP m.length p) (upd H p (.lst vs)) :=
    ⟨fun n a h => by
      have : n ≠ m.length := fun z => by subst z; rw [e.fresh_id] at h; cases h
      show (if n = m.length then some p else g.φ n) = some a
      rw [if_neg this]; exact h, fun a u h => h, fun a u h _ _ => by rw [upd_ne (ne_of_none h hp)]; exact h, fun a u h hn _ n => by
      show (if n = m.length then some p else g.φ n) ≠ some a
      split
      · intro z; cases z; rw [hp] at h; cases h
      · exact hn n, fun _ _ _ _ _ h => h, rfl⟩
  refine ⟨x, ⟨fun n o h => ?_, fun n a h => ?_, fun n k a h1 h2 => ?_, fun a u h => ?_, e.nt, tabs_new e.tab hp⟩, .ref (by show (if m.length = m.length then some p else _) = _; rw [if_pos rfl])⟩
  · by_cases hn : n < m.length
    · rw [List.getElem?_append_left hn] at h
      have q := e.obj n o h
      cases o with
      | lst ys =>
        obtain ⟨a, ws, h1, h2, h3⟩ := q
        exact ⟨a, ws, x.phi _ _ h1, by rw [upd_ne (ne_of_none h2 hp)]; exact h2, h3.ext e x⟩
      | dict ys =>
        obtain ⟨a, ws, h1, h2, h3⟩ := q
        exact ⟨a, ws, x.phi _ _ h1, by rw [upd_ne (ne_of_none h2 hp)]; exact h2, h3.ext e x⟩
      | kd ys =>
        obtain ⟨a, ws, h1, h2, h3⟩ := q
        exact ⟨a, ws, x.phi _ _ h1, by rw [upd_ne (ne_of_none h2 hp)]; exact h2, h3.ext e x⟩
      | kl zs =>
        obtain ⟨a, ob, ws, h1, h2, h3⟩ := q
        exact ⟨a, ob, ws, x.phi _ _ h1, x.ro _ _ h2, h3.ext e x⟩
      | dead => trivial
      | tab P l => exact q
    · have hle : m.length ≤ n := Nat.le_of_not_lt hn
      rw [List.getElem?_append_right hle] at h
      have h0 : n - m.length = 0 := by
        cases hk : n - m.length with
        | zero => rfl
        | succ j => rw [hk] at h; simp at h
      rw [h0] at h
      have hnm : n = m.length := by omega
      simp at h
      subst h
      subst hnm
      exact ⟨p, vs, by show (if m.length = m.length then some p else _) = _; rw [if_pos rfl], upd_same, r.ext e x⟩
  · have h' : (if n = m.length then some p else g.φ n) = some a := h
    rw [List.length_append, List.length_singleton]
    split at h'
    · cases h'
      exact ⟨by omega, _, upd_same, trivial⟩
    · obtain ⟨h1, u, h2, h3⟩ := e.dom n a h'
      exact ⟨by omega, u, by rw [upd_ne (ne_of_none h2 hp)]; exact h2, h3⟩
  · have h1' : (if n = m.length then some p else g.φ n) = some a := h1
    have h2' : (if k = m.length then some p else g.φ k) = some a := h2
    split at h1' <;> split at h2'
    · omega
    · cases h1'; exact (e.free hp _ h2').elim
    · cases h2'; exact (e.free hp _ h1').elim
    · exact e.inj n k a h1' h2'
  · obtain ⟨h1, h2⟩ := e.ro a u h
    refine ⟨by rw [upd_ne (ne_of_none h1 hp)]; exact h1, fun n hn => ?_⟩
    have hn' : (if n = m.length then some p else g.φ n) = some a := hn
    split at hn'
    · cases hn'; rw [hp] at h1; cases h1
    · have q := h2 n hn'
      have : n < m.length := (e.dom n a hn').1
      rw [List.getElem?_append_left this]; exact q
/-- a list in the memory is written -/
theorem Emb.wr_lst (e : Emb K g m H) {n : Nat} {a : Addr} {xs ys : List PV} {ws : List V} (hm : m[n]? = some (.lst xs)) (ha : g.φ n = some a) (r : Rps K g H ys ws) :
    Ext g H g (upd H a (.lst ws)) ∧ Emb K g (m.set n (.lst ys)) (upd H a (.lst ws)) := by
  have x : Ext g H g (upd H a (.lst ws)) := ⟨fun _ _ h => h, fun _ _ h => h, fun b u h hb _ => by
    rw [upd_ne (fun z => hb n (by rw [z]; exact ha))]; exact h, fun _ _ _ h _ => h, fun _ _ _ _ _ h => h, rfl⟩
  have hlt : n < m.length := (List.getElem?_eq_some_iff.mp hm).1
  obtain ⟨a0, vs0, p1, p2, _⟩ := e.obj n _ hm
  rw [ha] at p1; cases p1
  refine ⟨x, fun k o h => ?_, fun k b h => ?_, e.inj, fun b u h => ?_, e.nt, tabs_wr e.tab p2 (fun ps z => nomatch z) (fun ps z => nomatch z)⟩
  · by_cases hk : n = k
    · subst hk
      rw [List.getElem?_set_self hlt] at h
      cases h
      exact ⟨a, ws, ha, upd_same, r.ext e x⟩
    · rw [List.getElem?_set_ne hk] at h
      have q := e.obj k o h
      cases o with
      | lst zs =>
        obtain ⟨b, us, h1, h2, h3⟩ := q
        refine ⟨b, us, h1, ?_, h3.ext e x⟩
        rw [upd_ne (fun z => hk (e.inj n k a ha (by rw [← z]; exact h1)))]
        exact h2
      | dict zs =>
        obtain ⟨b, us, h1, h2, h3⟩ := q
        refine ⟨b, us, h1, ?_, h3.ext e x⟩
        rw [upd_ne (fun z => hk (e.inj n k a ha (by rw [← z]; exact h1)))]
        exact h2
      | kd zs =>
        obtain ⟨b, us, h1, h2, h3⟩ := q
        refine ⟨b, us, h1, ?_, h3.ext e x⟩
        rw [upd_ne (fun z => hk (e.inj n k a ha (by rw [← z]; exact h1)))]
        exact h2
      | kl zs =>
        obtain ⟨b, ob, us, h1, h2, h3⟩ := q
        exact ⟨b, ob, us, h1, x.ro _ _ h2, h3.ext e x⟩
      | dead => trivial
      | tab P l => exact q
  · obtain ⟨h1, u, h2, h3⟩ := e.dom k b h
    rw [List.length_set]
    by_cases hb : b = a
    · subst hb; exact ⟨h1, _, upd_same, trivial⟩
    · exact ⟨h1, u, by rw [upd_ne hb]; exact h2, h3⟩
  · obtain ⟨h1, h2⟩ := e.ro b u h
    have hb : b ≠ a := fun z => by
      subst z
      have := h2 n ha
      rw [hm] at this; cases this
    refine ⟨by rw [upd_ne hb]; exact h1, fun k hk => ?_⟩
    have q := h2 k hk
    have hkn : n ≠ k := fun z => by subst z; rw [hm] at q; cases q
    rw [List.getElem?_set_ne hkn]; exact q
/-- a list in the memory becomes a value -/
theorem Emb.freeze (e : Emb K g m H) {n : Nat} {a : Addr} {xs : List PV} (hm : m[n]? = some (.lst xs)) (ha : g.φ n = some a) :
    ∃ g', Ext g H g' H ∧ Emb K g' (m.set n .dead) H ∧ Rp K g' H (.vl xs) (.ref a) := by
  obtain ⟨a', vs, h1, h2, h3⟩ := e.obj n _ hm
  rw [ha] at h1; cases h1
  have hlt : n < m.length := (List.getElem?_eq_some_iff.mp hm).1
  have hro : g.ro a = none := by
    cases q : g.ro a with
    | none => rfl
    | some u =>
      have := (e.ro a u q).2 n ha
      rw [hm] at this; cases this
  have x : Ext g H (g.addR a (.lst vs)) H := ⟨fun _ _ h => h, fun b u h => by
    have : b ≠ a := fun z => by subst z; rw [hro] at h; cases h
    show upd g.ro a _ b = some u
    rw [upd_ne this]; exact h, fun _ _ h _ _ => h, fun _ _ _ h _ => h, fun b u h hb _ hr => by
    show upd g.ro a _ b = none
    rw [upd_ne (fun z => hb n (by rw [z]; exact ha))]; exact hr, rfl⟩
  refine ⟨g.addR a (.lst vs), x, ⟨fun k o h => ?_, fun k b h => ?_, e.inj, fun b u h => ?_, nt_addR e.nt, e.tab⟩, .vl upd_same (h3.ext e x)⟩
  · by_cases hk : n = k
    · subst hk
      rw [List.getElem?_set_self hlt] at h
      cases h; trivial
    · rw [List.getElem?_set_ne hk] at h
      have q := e.obj k o h
      cases o with
      | lst zs =>
        obtain ⟨b, us, q1, q2, q3⟩ := q
        exact ⟨b, us, q1, q2, q3.ext e x⟩
      | dict zs =>
        obtain ⟨b, us, q1, q2, q3⟩ := q
        exact ⟨b, us, q1, q2, q3.ext e x⟩
      | kd zs =>
        obtain ⟨b, us, q1, q2, q3⟩ := q
        exact ⟨b, us, q1, q2, q3.ext e x⟩
      | kl zs =>
        obtain ⟨b, ob, us, q1, q2, q3⟩ := q
        exact ⟨b, ob, us, q1, x.ro _ _ q2, q3.ext e x⟩
      | dead => trivial
      | tab P l => exact q
  · obtain ⟨q1, q2⟩ := e.dom k b h
    exact ⟨by rw [List.length_set]; exact q1, q2⟩
  · have h' : upd g.ro a (.lst vs) b = some u := h
    by_cases hb : b = a
    · subst hb
      rw [upd_same] at h'; cases h'
      refine ⟨h2, fun k hk => ?_⟩
      have : k = n := e.inj k n b hk ha
      subst this
      rw [List.getElem?_set_self hlt]; trivial
    · rw [upd_ne hb] at h'
      obtain ⟨q1, q2⟩ := e.ro b u h'
      refine ⟨q1, fun k hk => ?_⟩
      have q := q2 k hk
      by_cases hkn : n = k
      · subst hkn; rw [List.getElem?_set_self hlt]; trivial
      · rw [List.getElem?_set_ne hkn]; exact q
end

/-! ### ends -/
section
variable {K : KW} {Ξ : XC} {g g' : Gh} {m m' : Mm} {H H' : Hp} {Q : VK}
theorem QE.ret {v : PV} {w : V} (e : Emb K g m H) (r : Rp K g H v w) (h : QE K Ξ g H Q (.ok (v, m))) : Q w H := h g H w (Ext.refl _ _) e r
theorem QE.newT {xs : List PV} {vs : List V} (e : Emb K g m H) (r : Rps K g H xs vs) (h : QE K Ξ g H Q (.ok (.tup xs, m))) {p : Addr} (hp : H p = none) : Q (.ref p) (upd H p (.tup vs)) :=
  let ⟨a, b, c⟩ := e.new_tup hp r; h _ _ _ a b c
theorem QE.newL {xs : List PV} {vs : List V} (e : Emb K g m H) (r : Rps K g H xs vs) (h : QE K Ξ g H Q (.ok (.vl xs, m))) {p : Addr} (hp : H p = none) : Q (.ref p) (upd H p (.lst vs)) :=
  let ⟨a, b, c⟩ := e.new_vl hp r; h _ _ _ a b c
theorem QE.newM {xs : List PV} {vs : List V} (e : Emb K g m H) (r : Rps K g H xs vs) (h : QE K Ξ g H Q (.ok (.ref m.length, m ++ [.lst xs]))) {p : Addr} (hp : H p = none) : Q (.ref p) (upd H p (.lst vs)) :=
  let ⟨a, b, c⟩ := e.new_lst hp r; h _ _ _ a b c
end
theorem line_le {n : Nat} (h : n ≤ LINE) : n ≤ sizeLine := Nat.le_trans h (by rw [sizeLine_eq]; decide)
theorem line_lt {n : Nat} (h : n < LINE) : n < sizeLine := Nat.lt_of_lt_of_le h (by rw [sizeLine_eq]; decide)

/-! ### operators -/
section
variable {X : Cx} {Ξ : XC}
theorem op_tAdd : OpR X (binaryOp .Add) (rd2 X.kw Ξ oAdd) := by
  have h := ((op_add (X := X)).or (op_add_str.or (op_catA.or op_cat)))
  refine OpR_imp h fun x y H Q ⟨g, m, a, b, e, ra, rb, q⟩ => ?_
  unfold oAdd at q
  split at q
  · rename_i i j h1 h2
    rw [look1_int h1] at ra
    rw [look1_int h2] at rb
    cases ra.int_inv; cases rb.int_inv
    exact .inl ⟨i, j, rfl, rfl, QE.ret e (.int _) q⟩
  · rename_i xs ys h1 h2
    obtain ⟨a1, vs, rfl, ha, r1⟩ := e.look ra h1
    obtain ⟨b1, ws, rfl, hb, r2⟩ := e.look rb h2
    split at q
    · rename_i hl
      exact .inr (.inr (.inr ⟨a1, b1, vs, ws, rfl, rfl, ha, hb, by rw [← r1.length, ← r2.length]; exact line_le hl, fun p hp => QE.newL e (r1.append r2) q hp⟩))
    · exact q.elim
  · rename_i xs ys h1 h2
    rw [look1_str h1] at ra
    rw [look1_str h2] at rb
    cases ra.str_inv; cases rb.str_inv
    split at q
    · rename_i hl
      refine .inr (.inl ⟨_, _, rfl, rfl, ?_, ?_⟩)
      · show xs.toArray.size + ys.toArray.size ≤ sizeLine
        simpa using line_le hl
      · have := QE.ret e (.str (xs ++ ys)) q
        have ee : (⟨xs.toArray⟩ : Str) ++ (⟨ys.toArray⟩ : Str) = ⟨(xs ++ ys).toArray⟩ := by
          show Str.append _ _ = _
          unfold Str.append
          simp
        rw [ee]; exact this
    · exact q.elim
  · rename_i xs ys h1 h2
    rw [look1_tup h1] at ra
    rw [look1_tup h2] at rb
    obtain ⟨a1, vs, rfl, ha, r1⟩ := ra.tup_inv
    obtain ⟨b1, ws, rfl, hb, r2⟩ := rb.tup_inv
    split at q
    · rename_i hl
      refine .inr (.inr (.inl ⟨a1, b1, vs, ws, rfl, rfl, ha, hb, by rw [← r1.length, ← r2.length]; exact line_le hl, fun z => ?_, fun _ z => ?_, fun _ _ p hp => QE.newT e (r1.append r2) q hp⟩))
      · subst z
        cases r1
        exact QE.ret e (.tup hb r2) q
      · subst z
        cases r2
        rw [List.append_nil] at q
        exact QE.ret e (.tup ha r1) q
    · exact q.elim
  · exact q.elim
theorem op_tSub : OpR X (binaryOp .Sub) (rd2 X.kw Ξ oSub) := by
  refine OpR_imp op_sub fun x y H Q ⟨g, m, a, b, e, ra, rb, q⟩ => ?_
  unfold oSub at q
  split at q
  · cases ra.int_inv; cases rb.int_inv
    exact ⟨_, _, rfl, rfl, QE.ret e (.int _) q⟩
  · exact q.elim
theorem op_tFDiv : OpR X (binaryOp .FloorDiv) (rd2 X.kw Ξ oFDiv) := by
  refine OpR_imp op_fdiv fun x y H Q ⟨g, m, a, b, e, ra, rb, q⟩ => ?_
  unfold oFDiv at q
  split at q
  · cases ra.int_inv; cases rb.int_inv
    split at q
    · rename_i hc
      simp only [Bool.and_eq_true, decide_eq_true_eq] at hc
      exact ⟨_, _, rfl, rfl, hc, QE.ret e (.int _) q⟩
    · exact q.elim
  · exact q.elim
theorem op_tMod : OpR X (binaryOp .Mod) (rd2 X.kw Ξ oMod) := by
  refine OpR_imp op_mod fun x y H Q ⟨g, m, a, b, e, ra, rb, q⟩ => ?_
  unfold oMod at q
  split at q
  · cases ra.int_inv; cases rb.int_inv
    split at q
    · rename_i hc
      simp only [decide_eq_true_eq] at hc
      exact ⟨_, _, rfl, rfl, hc, QE.ret e (.int _) q⟩
    · exact q.elim
  · exact q.elim
theorem op_tPow : OpR X (binaryOp .Pow) (rd2 X.kw Ξ oPow) := by
  refine OpR_imp op_pow fun x y H Q ⟨g, m, a, b, e, ra, rb, q⟩ => ?_
  unfold oPow at q
  split at q
  · cases ra.int_inv; cases rb.int_inv
    split at q
    · rename_i hc
      simp only [Bool.and_eq_true, decide_eq_true_eq] at hc
      exact ⟨_, _, rfl, rfl, ⟨hc.1.1, by omega, hc.2⟩, QE.ret e (.int _) q⟩
    · exact q.elim
  · exact q.elim
theorem op_tCmp {op : CmpOp} {p : Int → Int → Bool} (h : OpR X (compareOp op) (rI0 fun i j => .bl (p i j))) : OpR X (compareOp op) (rd2 X.kw Ξ (oCmp p)) := by
  refine OpR_imp h fun x y H Q ⟨g, m, a, b, e, ra, rb, q⟩ => ?_
  unfold oCmp at q
  split at q
  · cases ra.int_inv; cases rb.int_inv
    exact ⟨_, _, rfl, rfl, QE.ret e (.bl _) q⟩
  · exact q.elim
theorem op_tLt : OpR X (compareOp .Lt) (rd2 X.kw Ξ oLt) := op_tCmp op_lt
theorem op_tLe : OpR X (compareOp .LtE) (rd2 X.kw Ξ oLe) := op_tCmp op_le
theorem op_tGt : OpR X (compareOp .Gt) (rd2 X.kw Ξ oGt) := op_tCmp op_gt
theorem op_tGe : OpR X (compareOp .GtE) (rd2 X.kw Ξ oGe) := op_tCmp op_ge
end
end TT
end

section
set_option Elab.async false
set_option linter.all false
set_option autoImplicit false
set_option maxRecDepth 100000
/-! TT: * of tuples and lists by any small number -/
namespace TT
open PySem PySem.Spec PyProof.Rows L2
set_option maxHeartbeats 4000000
theorem tuple_mulS (l : Addr) (items : Array Value) (n : Nat) (dd : Option Addr) (sl : Array (Option Value)) (x : Int) (u : Tok) (c0 : (decide (x < -(2 ^ 63)) || decide (x ≥ 2 ^ 63)) = false) (c1 : (items.isEmpty || x == 1) = true) :
    Meets (Builtin.«tuple.__mul__» ⟨[.ref l, .int x u], []⟩) (fun _ R s => s.heap.get? l = some { cls := .type "tuple", dict := dd, data := .seq items n, slots := sl } ∧
      R (.ok (.ret (Value.ref l))) s) :=
  .of_wp fun prog w A R s h => by
    obtain ⟨hp, g, d, tk, os⟩ := s
    obtain ⟨hl, h⟩ := h
    have f1 := AutoSeq1.idx_int
    wp_walk using wpAny_loadPart' hl
    repeat (first
      | (refine wpAny_ite_false (decide_eq_false (by rw [c0]; exact Bool.false_ne_true)) ?_; wp_walk using wpAny_loadPart' hl)
      | (refine wpAny_ite_true (decide_eq_true c1) ?_; wp_walk using wpAny_loadPart' hl))
    exact ⟨_, rfl, h⟩
theorem tuple_mulZ (l : Addr) (items : Array Value) (n : Nat) (dd : Option Addr) (sl : Array (Option Value)) (x : Int) (u : Tok) (c0 : (decide (x < -(2 ^ 63)) || decide (x ≥ 2 ^ 63)) = false) (c1 : (items.isEmpty || x == 1) = false) (c2 : (decide (x ≤ 0) || items.isEmpty) = true) :
    Meets (Builtin.«tuple.__mul__» ⟨[.ref l, .int x u], []⟩) (fun _ R s => s.heap.get? l = some { cls := .type "tuple", dict := dd, data := .seq items n, slots := sl } ∧
      R (.ok (.ret (Value.ref s.heap.objs.size))) { s with heap := s.heap.push { cls := Value.type "tuple", data := Data.seq #[] }, toks := s.toks }) :=
  .of_wp fun prog w A R s h => by
    obtain ⟨hp, g, d, tk, os⟩ := s
    obtain ⟨hl, h⟩ := h
    have f1 := AutoSeq1.idx_int
    wp_walk using wpAny_loadPart' hl
    repeat (first
      | (refine wpAny_ite_false (decide_eq_false (by rw [c0]; exact Bool.false_ne_true)) ?_; wp_walk using wpAny_loadPart' hl)
      | (refine wpAny_ite_false (decide_eq_false (by rw [c1]; exact Bool.false_ne_true)) ?_; wp_walk using wpAny_loadPart' hl)
      | (refine wpAny_ite_true (decide_eq_true c2) ?_; wp_walk using wpAny_loadPart' hl))
    exact ⟨_, rfl, h⟩
section
variable {X : Cx} {Ξ : XC}
theorem op_repS : OpR X (binaryOp .Mult) (fun x y H Q => ∃ l k xs, x = .ref l ∧ y = .int k ∧ SqT X.kw H l xs ∧ -1000 ≤ k ∧ k ≤ 1000 ∧ (xs = [] ∨ k = 1) ∧ Q (.ref l) H) := by
  intro pins s σ H x y v u Q I rx ry h
  obtain ⟨l, k, xs, rfl, rfl, hT, h1, h2, hc, q⟩ := h
  cases rx
  obtain ⟨t, rfl⟩ := ry
  obtain ⟨its, r, ⟨⟨cls, dd, data, sl⟩, ho, hc', n, hd⟩, hs⟩ := I.tuple hT
  simp only at hc' hd
  subst hc' hd
  have c0 : (decide (k < -(2 ^ 63)) || decide (k ≥ 2 ^ 63)) = false := by
    rw [decide_eq_false (by omega), decide_eq_false (by omega)] <;> rfl
  have c1 : (its.toArray.isEmpty || k == 1) = true := by
    rcases hc with hc | hc
    · subst hc
      have := r.length
      have e : its = [] := List.eq_nil_of_length_eq_zero this.symm
      subst e; rfl
    · subst hc; simp
  exact wpAny_binaryOp_repeat_ref (T := "tuple") (U := "int") (by decide) ⟨_, ho, rfl⟩ (fun s' => typeIs_int s' k t) noFill_tuple_mul F.fills_int_mul F.slot_int_rmul repeat_tuple F.slot_int_index.lookup
    (call_meets F.slot_int_rmul (typeIs_int s k t) F.entry_int_rmul (F.args_int_rmul_2 _ _) (int_rmul_tuple k t l its.toArray n dd sl)
      ⟨ho, rfl, ⟨_, ho, rfl⟩, call_meets F.slot_tuple_mul ⟨_, ho, rfl⟩ F.entry_tuple_mul (F.args_tuple_mul_2 _ _) (tuple_mulS l its.toArray n dd sl k t c0 c1) ⟨ho, ⟨.ref l, H, I, rfl, q⟩⟩⟩)
theorem op_repZ : OpR X (binaryOp .Mult) (fun x y H Q => ∃ l k xs, x = .ref l ∧ y = .int k ∧ SqT X.kw H l xs ∧ xs ≠ [] ∧ -1000 ≤ k ∧ k ≤ 0 ∧ ∀ p, H p = none → Q (.ref p) (upd H p (.tup []))) := by
  intro pins s σ H x y v u Q I rx ry h
  obtain ⟨l, k, xs, rfl, rfl, hT, hne, h1, h2, q⟩ := h
  cases rx
  obtain ⟨t, rfl⟩ := ry
  obtain ⟨its, r, ⟨⟨cls, dd, data, sl⟩, ho, hc', n, hd⟩, hs⟩ := I.tuple hT
  simp only at hc' hd
  subst hc' hd
  have hi : its.toArray.isEmpty = false := by
    cases its with
    | nil => exact absurd (List.eq_nil_of_length_eq_zero r.length) hne
    | cons a b => rfl
  have c0 : (decide (k < -(2 ^ 63)) || decide (k ≥ 2 ^ 63)) = false := by
    rw [decide_eq_false (by omega), decide_eq_false (by omega)] <;> rfl
  have c1 : (its.toArray.isEmpty || k == 1) = false := by
    rw [hi, Bool.false_or]
    exact beq_eq_false_iff_ne.mpr (by omega)
  have c2 : (decide (k ≤ 0) || its.toArray.isEmpty) = true := by
    rw [decide_eq_true h2]; rfl
  exact wpAny_binaryOp_repeat_ref (T := "tuple") (U := "int") (by decide) ⟨_, ho, rfl⟩ (fun s' => typeIs_int s' k t) noFill_tuple_mul F.fills_int_mul F.slot_int_rmul repeat_tuple F.slot_int_index.lookup
    (call_meets F.slot_int_rmul (typeIs_int s k t) F.entry_int_rmul (F.args_int_rmul_2 _ _) (int_rmul_tuple k t l its.toArray n dd sl)
      ⟨ho, rfl, ⟨_, ho, rfl⟩, call_meets F.slot_tuple_mul ⟨_, ho, rfl⟩ F.entry_tuple_mul (F.args_tuple_mul_2 _ _) (tuple_mulZ l its.toArray n dd sl k t c0 c1 c2) ⟨ho, by
        refine ⟨.ref s.heap.objs.size, _, I.laid (t' := s.toks) (o := .tup []) (fun b ob q => Heap.get?_push_of_some _ q) (Nat.le_refl _) ?_, rfl, q _ (I.hok.fresh (Nat.le_refl _))⟩
        exact ⟨Nat.zero_le _, [], .nil, IsTup.new _ _⟩⟩⟩)
theorem op_tMul : OpR X (binaryOp .Mult) (rd2 X.kw Ξ oMul) := by
  have h := ((op_mul (X := X)).or (op_rep.or (op_repT.or (op_repS.or op_repZ))))
  refine OpR_imp h fun x y H Q ⟨g, m, a, b, e, ra, rb, q⟩ => ?_
  unfold oMul at q
  split at q
  · rename_i i j h1
    rw [look1_int h1] at ra
    cases ra.int_inv; cases rb.int_inv
    split at q
    · rename_i hc
      refine .inl ⟨i, j, rfl, rfl, ?_, QE.ret e (.int _) q⟩
      simp only [within64, Bool.or_eq_true, Bool.and_eq_true, decide_eq_true_eq] at hc
      exact hc
    · exact q.elim
  · rename_i xs k h1
    obtain ⟨a1, vs, rfl, ha, r1⟩ := e.look ra h1
    cases rb.int_inv
    split at q
    · rename_i hc
      simp only [Bool.and_eq_true, decide_eq_true_eq] at hc
      obtain ⟨⟨c1, c2⟩, c3⟩ := hc
      refine .inr (.inl ⟨a1, k, vs, rfl, rfl, ha, by omega, by omega, ?_, fun p hp => QE.newL e (r1.rep k.toNat) q hp⟩)
      rw [← r1.length, sizeLine_eq]
      have : xs.length * k.toNat ≤ 1000 * 1000 := Nat.mul_le_mul c3 (by omega)
      omega
    · exact q.elim
  · rename_i xs k h1
    rw [look1_tup h1] at ra
    obtain ⟨a1, vs, rfl, ha, r1⟩ := ra.tup_inv
    cases rb.int_inv
    split at q
    · rename_i hc
      simp only [Bool.and_eq_true, decide_eq_true_eq] at hc
      obtain ⟨⟨c1, c2⟩, c3⟩ := hc
      by_cases hs : vs = [] ∨ k = 1
      · refine .inr (.inr (.inr (.inl ⟨a1, k, vs, rfl, rfl, ha, c2, c1, hs, ?_⟩)))
        have : rep xs k = xs := by
          unfold rep
          rcases hs with hs | hs
          · subst hs
            cases r1
            simp
          · subst hs
            simp
        rw [this] at q
        exact QE.ret e (.tup ha r1) q
      · have hne : vs ≠ [] := fun z => hs (.inl z)
        have hk : k ≠ 1 := fun z => hs (.inr z)
        by_cases h0 : k ≤ 0
        · refine .inr (.inr (.inr (.inr ⟨a1, k, vs, rfl, rfl, ha, hne, c2, h0, fun p hp => ?_⟩)))
          have hz : k.toNat = 0 := by omega
          have : rep xs k = [] := by unfold rep; rw [hz]; rfl
          rw [this] at q
          exact QE.newT e .nil q hp
        · refine .inr (.inr (.inl ⟨a1, k, vs, rfl, rfl, ha, hne, by omega, c1, by rw [← r1.length]; exact c3, fun p hp => QE.newT e (r1.rep k.toNat) q hp⟩))
    · exact q.elim
  · exact q.elim
end
end TT
end

section
set_option Elab.async false
set_option linter.all false
set_option autoImplicit false
set_option maxRecDepth 100000
/-! TT: ==, !=, in, is -/
namespace TT
open PySem PySem.Spec PyProof.Rows L2
mutual
def toD : PV → PyData
  | .non => .none
  | .bl b => .bool b
  | .int i => .int i
  | .str l => .str ⟨l.toArray⟩
  | .tup xs => .tuple (toDs xs)
  | .vl xs => .list (toDs xs)
  | _ => .none
def toDs : List PV → List PyData
  | [] => []
  | x :: xs => toD x :: toDs xs
end
theorem strEq (x y : List Nat) : ((⟨x.toArray⟩ : Str) == (⟨y.toArray⟩ : Str)) = (x == y) := by
  have a : ((⟨x.toArray⟩ : Str) = ⟨y.toArray⟩) ↔ x = y := by
    constructor
    · intro h
      have := congrArg (fun z : Str => z.cps.toList) h
      simpa using this
    · intro h; rw [h]
  rw [Bool.eq_iff_iff, beq_iff_eq, beq_iff_eq]
  exact a
mutual
theorem eqvD : ∀ (a b : PV) (n k : Nat), a.sh n = true → b.sh k = true → PV.eqv a b = PyData.eqv (toD a) (toD b)
  | .non, b, n, k, _, hb => by cases b <;> first | rfl | (unfold PV.sh at hb; cases k <;> cases hb)
  | .bl x, b, n, k, _, hb => by cases b <;> first | rfl | (unfold PV.sh at hb; cases k <;> cases hb)
  | .int x, b, n, k, _, hb => by cases b <;> first | rfl | (unfold PV.sh at hb; cases k <;> cases hb)
  | .str x, b, n, k, _, hb => by
    cases b with
    | str y => simp only [PV.eqv, toD, PyData.eqv]; exact (strEq x y).symm
    | _ => first | rfl | (unfold PV.sh at hb; cases k <;> cases hb)
  | .tup xs, b, n, k, ha, hb => by
    cases n with
    | zero => cases ha
    | succ n =>
    cases b with
    | tup ys =>
      cases k with
      | zero => cases hb
      | succ k =>
        simp only [PV.eqv, toD, PyData.eqv]
        exact eqvDs xs ys n k (by simpa only [PV.sh] using ha) (by simpa only [PV.sh] using hb)
    | _ => first | rfl | (unfold PV.sh at hb; cases k <;> cases hb)
  | .vl xs, b, n, k, ha, hb => by
    cases n with
    | zero => cases ha
    | succ n =>
    cases b with
    | vl ys =>
      cases k with
      | zero => cases hb
      | succ k =>
        simp only [PV.eqv, toD, PyData.eqv]
        exact eqvDs xs ys n k (by simpa only [PV.sh] using ha) (by simpa only [PV.sh] using hb)
    | _ => first | rfl | (unfold PV.sh at hb; cases k <;> cases hb)
  | .fz _, _, n, _, ha, _ => by cases n <;> cases ha
  | .vd _, _, n, _, ha, _ => by cases n <;> cases ha
  | .ref _, _, n, _, ha, _ => by cases n <;> cases ha
  | .fn _, _, n, _, ha, _ => by cases n <;> cases ha
theorem eqvDs : ∀ (a b : List PV) (n k : Nat), a.all (PV.sh n) = true → b.all (PV.sh k) = true → PV.eqvs a b = PyData.eqvAll (toDs a) (toDs b)
  | [], [], _, _, _, _ => rfl
  | [], _ :: _, _, _, _, _ => rfl
  | _ :: _, [], _, _, _, _ => rfl
  | x :: xs, y :: ys, n, k, ha, hb => by
    simp only [List.all_cons, Bool.and_eq_true] at ha hb
    simp only [PV.eqvs, toDs, PyData.eqvAll]
    rw [eqvD x y n k ha.1 hb.1, eqvDs xs ys n k ha.2 hb.2]
end
mutual
theorem plainD : ∀ (a : PV), (toD a).plain = true
  | .non => rfl
  | .bl _ => rfl
  | .int _ => rfl
  | .str _ => rfl
  | .tup xs => by simp only [toD, PyData.plain]; exact plainDs xs
  | .vl xs => by simp only [toD, PyData.plain]; exact plainDs xs
  | .fz _ => rfl
  | .vd _ => rfl
  | .ref _ => rfl
  | .fn _ => rfl
theorem plainDs : ∀ (a : List PV), PyData.plainAll (toDs a) = true
  | [] => rfl
  | x :: xs => by simp only [toDs, PyData.plainAll, plainD x, plainDs xs, Bool.and_self]
end
mutual
theorem depthD : ∀ (a : PV) (n : Nat), a.sh n = true → (toD a).depth ≤ n
  | .non, _, _ => Nat.zero_le _
  | .bl _, _, _ => Nat.zero_le _
  | .int _, _, _ => Nat.zero_le _
  | .str _, _, _ => Nat.zero_le _
  | .tup xs, n, h => by
    cases n with
    | zero => cases h
    | succ n =>
      simp only [toD, PyData.depth]
      have := depthDs xs n (by simpa only [PV.sh] using h)
      omega
  | .vl xs, n, h => by
    cases n with
    | zero => cases h
    | succ n =>
      simp only [toD, PyData.depth]
      have := depthDs xs n (by simpa only [PV.sh] using h)
      omega
  | .fz _, n, h => by cases n <;> cases h
  | .vd _, n, h => by cases n <;> cases h
  | .ref _, n, h => by cases n <;> cases h
  | .fn _, n, h => by cases n <;> cases h
theorem depthDs : ∀ (a : List PV) (n : Nat), a.all (PV.sh n) = true → PyData.depthAll (toDs a) ≤ n
  | [], _, _ => Nat.zero_le _
  | x :: xs, n, h => by
    simp only [List.all_cons, Bool.and_eq_true] at h
    simp only [toDs, PyData.depthAll]
    have h1 := depthD x n h.1
    have h2 := depthDs xs n h.2
    omega
end
section
variable {K : KW} {g : Gh} {m : Mm} {H : Hp}
mutual
theorem Rp.dp (e : Emb K g m H) : ∀ {v : PV} {w : V} (n : Nat), v.sh n = true → Rp K g H v w → Dp K H w (toD v)
  | _, _, _, _, .non => .non
  | _, _, _, _, .bl b => .bl b
  | _, _, _, _, .int i => .int i
  | _, _, _, _, .str l => .str _
  | _, _, 0, h, .tup _ _ => by cases h
  | _, _, n + 1, h, .tup a r => .tup a (Rps.dp e n (by simpa only [PV.sh] using h) r)
  | _, _, 0, h, .vl _ _ => by cases h
  | _, _, n + 1, h, .vl a r => .lst (SqL.of (e.ro _ _ a).1) (Rps.dp e n (by simpa only [PV.sh] using h) r)
  | _, _, 0, h, .fz _ _ => by cases h
  | _, _, _ + 1, h, .fz _ _ => by cases h
  | _, _, 0, h, .ref _ => by cases h
  | _, _, 0, h, .fn _ => by cases h
  | _, _, _ + 1, h, .ref _ => by cases h
  | _, _, _ + 1, h, .fn _ => by cases h
theorem Rps.dp (e : Emb K g m H) : ∀ {v : List PV} {w : List V} (n : Nat), v.all (PV.sh n) = true → Rps K g H v w → DpAll K H w (toDs v)
  | _, _, _, _, .nil => .nil
  | _, _, n, h, .cons a r => by
    simp only [List.all_cons, Bool.and_eq_true] at h
    exact .cons (Rp.dp e n h.1 a) (Rps.dp e n h.2 r)
end
/-- behind look1 -/
theorem Rp.dp1 (e : Emb K g m H) {v : PV} {w : V} {n : Nat} (h : (look1 m v).sh n = true) (r : Rp K g H v w) : Dp K H w (toD (look1 m v)) := by
  cases r with
  | ref hn =>
    rename_i k a
    simp only [look1] at h ⊢
    split at h
    · rename_i xs hx
      obtain ⟨a', vs, h1, h2, h3⟩ := e.obj _ _ hx
      rw [hn] at h1; cases h1
      simp only [toD]
      cases n with
      | zero => cases h
      | succ n => exact .lst (SqL.of h2) (Rps.dp e n (by simpa only [PV.sh] using h) h3)
    · cases n <;> cases h
  | non => exact .non
  | bl b => exact .bl b
  | int i => exact .int i
  | str l => exact .str _
  | tup a r => exact Rp.dp e n h (.tup a r)
  | vl a r => exact Rp.dp e n h (.vl a r)
  | fz a r => exact Rp.dp e n h (.fz a r)
  | fn a => exact Rp.dp e n h (.fn a)
end
section
variable {X : Cx} {Ξ : XC}
theorem dep64 {n : Nat} (h : n ≤ DEP) : n ≤ 64 := Nat.le_trans h (by decide)
theorem op_tEq (hu : X.A.units + 64 < cLine) : OpR X (compareOp .Eq) (rd2 X.kw Ξ oEq) := by
  intro pins s σ H x y v u Q I rx ry ⟨g, m, a, b, e, ra, rb, q⟩
  unfold oEq at q
  split at q
  · rename_i hc
    simp only [Bool.and_eq_true] at hc
    have da := ra.dp1 e hc.1
    have db := rb.dp1 e hc.2
    obtain ⟨as, r1⟩ := Dp.reads I _ x v da rx
    obtain ⟨bs, r2⟩ := Dp.reads I _ y u db ry
    rw [eqvD _ _ _ _ hc.1 hc.2] at q
    refine SeqAt.eq_plain r1 r2 (plainD _) (plainD _) ?_ ⟨.bl _, H, I, rfl, QE.ret e (.bl _) q⟩
    have := dep64 (depthD _ _ hc.1)
    have h2 : min (toD (look1 m a)).depth (toD (look1 m b)).depth ≤ (toD (look1 m a)).depth := Nat.min_le_left _ _
    omega
  · exact q.elim
theorem op_tNe (hu : X.A.units + 64 < cLine) : OpR X (compareOp .NotEq) (rd2 X.kw Ξ oNe) := by
  intro pins s σ H x y v u Q I rx ry ⟨g, m, a, b, e, ra, rb, q⟩
  unfold oNe at q
  split at q
  · rename_i hc
    simp only [Bool.and_eq_true] at hc
    have da := ra.dp1 e hc.1
    have db := rb.dp1 e hc.2
    obtain ⟨as, r1⟩ := Dp.reads I _ x v da rx
    obtain ⟨bs, r2⟩ := Dp.reads I _ y u db ry
    rw [eqvD _ _ _ _ hc.1 hc.2] at q
    refine SeqAt.ne_plain r1 r2 (plainD _) (plainD _) ?_ ⟨.bl _, H, I, rfl, QE.ret e (.bl _) q⟩
    have := dep64 (depthD _ _ hc.1)
    have h2 : min (toD (look1 m a)).depth (toD (look1 m b)).depth ≤ (toD (look1 m a)).depth := Nat.min_le_left _ _
    omega
  · exact q.elim
theorem any_toDs (a : PV) (k : Nat) (ha : a.sh k = true) : ∀ (xs : List PV) (n : Nat), xs.all (PV.sh n) = true → ((toDs xs).any fun y => PyData.eqv y (toD a)) = xs.any fun y => PV.eqv y a
  | [], _, _ => rfl
  | x :: xs, n, h => by
    simp only [List.all_cons, Bool.and_eq_true] at h
    simp only [toDs, List.any_cons]
    rw [eqvD x a n k h.1 ha, any_toDs a k ha xs n h.2]
theorem look1_of_sh {m : Mm} {a : PV} {k : Nat} (h : a.sh k = true) : look1 m a = a := by
  cases a with
  | ref n => cases k <;> cases h
  | _ => rfl
theorem op_tIn (hu : X.A.units + 64 < cLine) : OpR X (compareOp .In) (rd2 X.kw Ξ (oIn false)) := by
  intro pins s σ H x y v u Q I rx ry ⟨g, m, a, b, e, ra, rb, q⟩
  unfold oIn at q
  split at q
  · rename_i xs h1
    split at q
    · rename_i hc
      simp only [Bool.and_eq_true] at hc
      have hb : (look1 m b).sh (DEP + 1) = true := by rw [h1]; simpa only [PV.sh] using hc.1
      have db := rb.dp1 e hb
      rw [h1] at db
      have da := ra.dp e _ hc.2
      obtain ⟨as, r1⟩ := Dp.reads I _ x v da rx
      obtain ⟨bs, r2⟩ := Dp.reads I _ y u db ry
      simp only [toD] at r2
      refine SeqAt.in_list_data r2 r1 (plainDs _) (plainD _) ?_ ⟨.bl _, H, I, rfl, ?_⟩
      · have := dep64 (depthD _ _ hc.2)
        have h2 := Nat.min_le_right (PyData.depthAll (toDs xs)) (toD a).depth
        have h3 : (toD a).depth ≤ 12 := depthD _ _ hc.2
        omega
      · rw [any_toDs a _ hc.2 xs _ hc.1]
        exact QE.ret e (.bl _) q
    · exact q.elim
  · rename_i xs h1
    split at q
    · rename_i hc
      simp only [Bool.and_eq_true] at hc
      have hb : (look1 m b).sh (DEP + 1) = true := by rw [h1]; simpa only [PV.sh] using hc.1
      have db := rb.dp1 e hb
      rw [h1] at db
      have da := ra.dp e _ hc.2
      obtain ⟨as, r1⟩ := Dp.reads I _ x v da rx
      obtain ⟨bs, r2⟩ := Dp.reads I _ y u db ry
      simp only [toD] at r2
      refine SeqAt.in_tuple_data r2 r1 (plainDs _) (plainD _) ?_ ⟨.bl _, H, I, rfl, ?_⟩
      · have h2 := Nat.min_le_right (PyData.depthAll (toDs xs)) (toD a).depth
        have h3 : (toD a).depth ≤ 12 := depthD _ _ hc.2
        omega
      · rw [any_toDs a _ hc.2 xs _ hc.1]
        exact QE.ret e (.bl _) q
    · exact q.elim
  · rename_i z h1
    rw [look1_str h1] at rb
    cases rb.str_inv
    split at q
    · rename_i c
      cases ra.str_inv
      refine op_in_sign pins s σ H _ _ v u Q I rx ry ⟨c, _, rfl, rfl, ?_⟩
      exact QE.ret e (.bl _) q
    · exact q.elim
  · exact q.elim
theorem op_tNotIn (hu : X.A.units + 64 < cLine) : OpR X (compareOp .NotIn) (rd2 X.kw Ξ (oIn true)) := by
  intro pins s σ H x y v u Q I rx ry ⟨g, m, a, b, e, ra, rb, q⟩
  unfold oIn at q
  split at q
  · rename_i xs h1
    split at q
    · rename_i hc
      simp only [Bool.and_eq_true] at hc
      have hb : (look1 m b).sh (DEP + 1) = true := by rw [h1]; simpa only [PV.sh] using hc.1
      have db := rb.dp1 e hb
      rw [h1] at db
      have da := ra.dp e _ hc.2
      obtain ⟨as, r1⟩ := Dp.reads I _ x v da rx
      obtain ⟨bs, r2⟩ := Dp.reads I _ y u db ry
      simp only [toD] at r2
      refine SeqAt.notIn_list_data r2 r1 (plainDs _) (plainD _) ?_ ⟨.bl _, H, I, rfl, ?_⟩
      · have h2 := Nat.min_le_right (PyData.depthAll (toDs xs)) (toD a).depth
        have h3 : (toD a).depth ≤ 12 := depthD _ _ hc.2
        omega
      · rw [any_toDs a _ hc.2 xs _ hc.1]
        exact QE.ret e (.bl _) q
    · exact q.elim
  · rename_i xs h1
    split at q
    · rename_i hc
      simp only [Bool.and_eq_true] at hc
      have hb : (look1 m b).sh (DEP + 1) = true := by rw [h1]; simpa only [PV.sh] using hc.1
      have db := rb.dp1 e hb
      rw [h1] at db
      have da := ra.dp e _ hc.2
      obtain ⟨as, r1⟩ := Dp.reads I _ x v da rx
      obtain ⟨bs, r2⟩ := Dp.reads I _ y u db ry
      simp only [toD] at r2
      refine SeqAt.notIn_tuple_data r2 r1 (plainDs _) (plainD _) ?_ ⟨.bl _, H, I, rfl, ?_⟩
      · have h2 := Nat.min_le_right (PyData.depthAll (toDs xs)) (toD a).depth
        have h3 : (toD a).depth ≤ 12 := depthD _ _ hc.2
        omega
      · rw [any_toDs a _ hc.2 xs _ hc.1]
        exact QE.ret e (.bl _) q
    · exact q.elim
  · rename_i z h1
    rw [look1_str h1] at rb
    cases rb.str_inv
    split at q
    · rename_i c
      cases ra.str_inv
      refine op_notIn_sign pins s σ H _ _ v u Q I rx ry ⟨c, _, rfl, rfl, ?_⟩
      exact QE.ret e (.bl _) q
    · exact q.elim
  · exact q.elim
end
end TT
end

section
set_option Elab.async false
set_option linter.all false
set_option autoImplicit false
set_option maxRecDepth 100000
/-! TT: subscripts, built-in functions, methods, by values -/
namespace TT
open PySem PySem.Spec PyProof.Rows L2
section
variable {X : Cx} {Ξ : XC}
theorem IxR_imp {r r' : R2} (h : IxR X r) (i : ∀ x y H Q, r' x y H Q → r x y H Q) : IxR X r' := fun va sl pins s σ H x y v u Q I rx ry q hs => h va sl pins s σ H x y v u Q I rx ry (i _ _ _ _ q) hs
theorem ixN_eq : @TT.ixN = @L2.ixN := rfl
theorem Rps.atI {K : KW} {g : Gh} {H : Hp} {xs : List PV} {vs : List V} {k : Int} {x : PV} (r : Rps K g H xs vs) (h : TT.atI xs k = some x) : ∃ v, L2.atI vs k = some v ∧ Rp K g H x v := by
  unfold TT.atI at h
  unfold L2.atI
  rw [ixN_eq, r.length] at h
  cases hj : L2.ixN vs.length k with
  | none => rw [hj] at h; cases h
  | some j =>
    rw [hj] at h
    obtain ⟨v, h1, h2⟩ := r.get (show xs[j]? = some x from h)
    exact ⟨v, by rw [Option.bind_some]; exact h1, h2⟩
theorem ix_t : IxR X (rd2 X.kw Ξ oIx) := by
  refine IxR_imp ix_seq fun x y H Q ⟨g, m, a, b, e, ra, rb, q⟩ => ?_
  unfold oIx at q
  split at q
  · rename_i xs k h1
    obtain ⟨a1, vs, rfl, ha, r1⟩ := e.look ra h1
    cases rb.int_inv
    split at q
    · rename_i v hv
      obtain ⟨w, h2, r2⟩ := r1.atI hv
      exact .inl ⟨a1, vs, k, w, rfl, rfl, SqL.of ha, h2, QE.ret e r2 q⟩
    · exact q.elim
  · rename_i xs k h1
    rw [look1_fz h1] at ra
    obtain ⟨a1, vs, rfl, ha, r1⟩ := e.fz ra
    cases rb.int_inv
    split at q
    · rename_i v hv
      obtain ⟨w, h2, r2⟩ := r1.atI hv
      exact .inl ⟨a1, vs, k, w, rfl, rfl, ha, h2, QE.ret e r2 q⟩
    · exact q.elim
  · rename_i xs k h1
    rw [look1_tup h1] at ra
    obtain ⟨a1, vs, rfl, ha, r1⟩ := ra.tup_inv
    cases rb.int_inv
    split at q
    · rename_i v hv
      obtain ⟨w, h2, r2⟩ := r1.atI hv
      exact .inr (.inl ⟨a1, vs, k, w, rfl, rfl, ha, h2, QE.ret e r2 q⟩)
    · exact q.elim
  · rename_i z k h1
    rw [look1_str h1] at ra
    cases ra.str_inv
    cases rb.int_inv
    split at q
    · rename_i hl
      split at q
      · rename_i c hv
        refine .inr (.inr ⟨_, k, c, rfl, rfl, ?_, hv, ?_⟩)
        · show z.toArray.size ≤ sizeLine
          simpa using line_le hl
        · exact QE.ret e (.str [c]) q
      · exact q.elim
    · exact q.elim
  · exact q.elim
theorem sIx_eq : @TT.sIx = @HT.sIx := by
  funext n d o
  cases o with
  | none => rfl
  | some v => unfold TT.sIx HT.sIx; rfl
theorem cutV_rp {K : KW} {g : Gh} {H : Hp} {xs : List PV} {vs : List V} (lo hi : Option Int) (r : Rps K g H xs vs) : Rps K g H (cutL xs lo hi) (cutV vs lo hi) := by
  unfold cutL cutV
  rw [sIx_eq, r.length]
  exact (r.drop _).take _
theorem cutS_str (z : List Nat) (lo hi : Option Int) : cutS ⟨z.toArray⟩ lo hi = ⟨(cutL z lo hi).toArray⟩ := by
  unfold cutS cutL
  rw [sIx_eq]
  rfl
theorem SlR_imp {r r' : V → Option Int → Option Int → Hp → VK → Prop} (h : SlR X r) (i : ∀ x l u H Q, r' x l u H Q → r x l u H Q) : SlR X r' := fun pins s σ H x v vl vu lo hi sl Q I rx hs pl pu q => h pins s σ H x v vl vu lo hi sl Q I rx hs pl pu (i _ _ _ _ _ q)
def rdSl (K : KW) (Ξ : XC) : V → Option Int → Option Int → Hp → VK → Prop := fun x lo hi H Q => ∃ g m a, Emb K g m H ∧ Rp K g H a x ∧ QE K Ξ g H Q (oSlice lo hi a m)
theorem sl_t : SlR X (rdSl X.kw Ξ) := by
  refine SlR_imp ((sl_list (X := X)).or (sl_tupA.or sl_str)) fun x lo hi H Q ⟨g, m, a, e, ra, q⟩ => ?_
  unfold oSlice at q
  split at q
  · rename_i xs h1
    obtain ⟨a1, vs, rfl, ha, r1⟩ := e.look ra h1
    exact .inl ⟨a1, vs, rfl, SqL.of ha, fun p hp => QE.newL e (cutV_rp lo hi r1) q hp⟩
  · rename_i xs h1
    rw [look1_tup h1] at ra
    obtain ⟨a1, vs, rfl, ha, r1⟩ := ra.tup_inv
    refine .inr (.inl ⟨a1, vs, rfl, ha, fun hw => ?_, fun _ p hp => QE.newT e (cutV_rp lo hi r1) q hp⟩)
    have : cutL xs lo hi = xs := by
      unfold cutL
      rw [sIx_eq, r1.length, hw.1, hw.2, List.drop_zero, Nat.sub_zero, ← r1.length, List.take_length]
    rw [this] at q
    exact QE.ret e (.tup ha r1) q
  · rename_i z h1
    rw [look1_str h1] at ra
    cases ra.str_inv
    split at q
    · rename_i hl
      refine .inr (.inr ⟨_, rfl, ?_, ?_⟩)
      · show z.toArray.size ≤ sizeLine
        simpa using line_le hl
      · rw [cutS_str]
        exact QE.ret e (.str _) q
    · exact q.elim
  · exact q.elim

/-! ### o[i] = v -/
theorem PSet_imp {r r' : TSet} (h : PSet X r) (i : ∀ o k v H Q, r' o k v H Q → r o k v H Q) : PSet X r' := fun pins s σ H o k v ov iv u Q I ro ri rv q => h pins s σ H o k v ov iv u Q I ro ri rv (i _ _ _ _ _ q)
def rdSet (K : KW) (Ξ : XC) : TSet := fun o i v H Q => ∃ g m a k y, Emb K g m H ∧ Rp K g H a o ∧ Rp K g H k i ∧ Rp K g H y v ∧ QR K Ξ g H (fun m' => ∀ g' H', Ext g H g' H' → Emb K g' m' H' → Q H') (oSet a k y m)
theorem set_t : PSet X (rdSet X.kw Ξ) := by
  refine PSet_imp set_list fun o i v H Q ⟨g, m, a, k, y, e, ra, rk, ry, q⟩ => ?_
  unfold oSet at q
  split at q
  · rename_i n j
    obtain ⟨a1, rfl, hn⟩ := ra.ref_inv
    cases rk.int_inv
    split at q
    · rename_i xs hx
      obtain ⟨a2, vs, h1, h2, h3⟩ := e.obj _ _ hx
      rw [hn] at h1; cases h1
      split at q
      · rename_i j' hj
        obtain ⟨x', e'⟩ := e.wr_lst hx hn (h3.set ry j')
        refine ⟨a1, vs, j, j', rfl, rfl, h2, ?_, q _ _ x' e'⟩
        rw [← h3.length]; exact hj
      · exact q.elim
    · exact q.elim
  · exact q.elim

/-! ### built-in functions -/
theorem call_tLen : CallR X (.builtin "len") (rdN X.kw Ξ fLen) := by
  refine CallR_imp ((call_len_seq (X := X)).or call_len_str) fun xs H Q ⟨g, m, as, e, ra, q⟩ => ?_
  unfold fLen at q
  split at q
  · rename_i a
    cases ra with
    | cons r1 r2 =>
      cases r2
      split at q
      · rename_i ys h1
        obtain ⟨a1, vs, rfl, ha, r1'⟩ := e.look r1 h1
        exact .inl ⟨a1, vs, rfl, .inl (SqL.of ha), by rw [← r1'.length]; exact QE.ret e (.int _) q⟩
      · rename_i ys h1
        rw [look1_fz h1] at r1
        obtain ⟨a1, vs, rfl, ha, r1'⟩ := e.fz r1
        exact .inl ⟨a1, vs, rfl, .inl ha, by rw [← r1'.length]; exact QE.ret e (.int _) q⟩
      · rename_i ys h1
        rw [look1_tup h1] at r1
        obtain ⟨a1, vs, rfl, ha, r1'⟩ := r1.tup_inv
        exact .inl ⟨a1, vs, rfl, .inr ha, by rw [← r1'.length]; exact QE.ret e (.int _) q⟩
      · rename_i z h1
        rw [look1_str h1] at r1
        cases r1.str_inv
        split at q
        · rename_i hl
          refine .inr ⟨_, rfl, ?_, ?_⟩
          · show z.toArray.size ≤ sizeLine
            simpa using line_le hl
          · have : ((⟨z.toArray⟩ : Str).length : Int) = (z.length : Int) := by simp [Str.length]
            rw [this]
            exact QE.ret e (.int _) q
        · exact q.elim
      · exact q.elim
  · exact q.elim
theorem call_tInt : CallR X (.type "int") (rdN X.kw Ξ fInt) := by
  refine CallR_imp call_int1 fun xs H Q ⟨g, m, as, e, ra, q⟩ => ?_
  unfold fInt at q
  split at q
  · cases ra with
    | cons r1 r2 =>
      cases r2
      cases r1.int_inv
      exact .inl ⟨_, rfl, QE.ret e (.int _) q⟩
  · cases ra with
    | cons r1 r2 =>
      cases r2
      cases r1.bl_inv
      exact .inr ⟨_, rfl, QE.ret e (.int _) q⟩
  · exact q.elim
theorem call_tMax (hc : X.calm = true) : CallR X (.builtin "max") (rdN X.kw Ξ fMax) := by
  refine CallR_imp (call_max2 hc) fun xs H Q ⟨g, m, as, e, ra, q⟩ => ?_
  unfold fMax at q
  split at q
  · cases ra with
    | cons r1 r2 =>
      cases r2 with
      | cons r2 r3 =>
        cases r3
        cases r1.int_inv; cases r2.int_inv
        exact ⟨_, _, rfl, QE.ret e (.int _) q⟩
  · exact q.elim
theorem call_tMin (hc : X.calm = true) : CallR X (.builtin "min") (rdN X.kw Ξ fMin) := by
  refine CallR_imp (call_min2 hc) fun xs H Q ⟨g, m, as, e, ra, q⟩ => ?_
  unfold fMin at q
  split at q
  · cases ra with
    | cons r1 r2 =>
      cases r2 with
      | cons r2 r3 =>
        cases r3
        cases r1.int_inv; cases r2.int_inv
        exact ⟨_, _, rfl, QE.ret e (.int _) q⟩
  · exact q.elim
theorem call_tList : CallR X (.type "list") (rdN X.kw Ξ fList) := by
  refine CallR_imp call_list_of fun xs H Q ⟨g, m, as, e, ra, q⟩ => ?_
  unfold fList at q
  split at q
  · rename_i a
    cases ra with
    | cons r1 r2 =>
      cases r2
      split at q
      · rename_i ys h1
        obtain ⟨a1, vs, rfl, ha, r1'⟩ := e.look r1 h1
        exact ⟨a1, vs, rfl, .inl (SqL.of ha), fun p hp => QE.newL e r1' q hp⟩
      · rename_i ys h1
        rw [look1_tup h1] at r1
        obtain ⟨a1, vs, rfl, ha, r1'⟩ := r1.tup_inv
        exact ⟨a1, vs, rfl, .inr ha, fun p hp => QE.newL e r1' q hp⟩
      · exact q.elim
  · exact q.elim
theorem call_tTuple : CallR X (.type "tuple") (rdN X.kw Ξ fTuple) := by
  refine CallR_imp call_tuple_of fun xs H Q ⟨g, m, as, e, ra, q⟩ => ?_
  unfold fTuple at q
  split at q
  · rename_i a
    cases ra with
    | cons r1 r2 =>
      cases r2
      split at q
      · rename_i ys h1
        obtain ⟨a1, vs, rfl, ha, r1'⟩ := e.look r1 h1
        exact ⟨a1, vs, rfl, .inl ⟨SqL.of ha, fun p hp => QE.newT e r1' q hp⟩⟩
      · rename_i ys h1
        rw [look1_tup h1] at r1
        obtain ⟨a1, vs, rfl, ha, r1'⟩ := r1.tup_inv
        exact ⟨a1, vs, rfl, .inr ⟨ha, QE.ret e (.tup ha r1') q⟩⟩
      · exact q.elim
  · exact q.elim
theorem bools_rp {K : KW} {g : Gh} {H : Hp} : ∀ {xs : List PV} {vs : List V} {bs : List Bool}, bools xs = some bs → Rps K g H xs vs → vs = bs.map V.bl
  | [], _, _, h, r => by cases h; cases r; rfl
  | .bl b :: xs, _, bs, h, r => by
    simp only [bools] at h
    cases hq : bools xs with
    | none => rw [hq] at h; cases h
    | some cs =>
      rw [hq] at h
      cases h
      cases r with
      | cons r1 r2 =>
        cases r1.bl_inv
        rw [bools_rp hq r2]; rfl
  | .non :: _, _, _, h, _ => by simp [bools] at h
  | .int _ :: _, _, _, h, _ => by simp [bools] at h
  | .str _ :: _, _, _, h, _ => by simp [bools] at h
  | .tup _ :: _, _, _, h, _ => by simp [bools] at h
  | .vl _ :: _, _, _, h, _ => by simp [bools] at h
  | .fz _ :: _, _, _, h, _ => by simp [bools] at h
  | .vd _ :: _, _, _, h, _ => by simp [bools] at h
  | .ref _ :: _, _, _, h, _ => by simp [bools] at h
theorem call_tAll (hc : X.calm = true) : CallR X (.builtin "all") (rdN X.kw Ξ fAll) := by
  refine CallR_imp (cr_all hc) fun xs H Q ⟨g, m, as, e, ra, q⟩ => ?_
  unfold fAll at q
  split at q
  · rename_i a
    cases ra with
    | cons r1 r2 =>
      cases r2
      split at q
      · rename_i ys h1
        obtain ⟨a1, vs, rfl, ha, r1'⟩ := e.look r1 h1
        split at q
        · rename_i bs hb
          have ev := bools_rp hb r1'
          subst ev
          exact ⟨a1, bs, rfl, SqL.of ha, QE.ret e (.bl _) q⟩
        · exact q.elim
      · exact q.elim
  · exact q.elim

/-! ### isinstance -/
def Ty.name : Ty → String
  | .tInt => "int" | .tStr => "str" | .tBool => "bool" | .tTup => "tuple" | .tList => "list"
theorem kitAll : ∀ (a : String) (t : Ty), a ∈ ["NoneType", "bool", "int", "str", "tuple", "list"] → kitB a t.name = some (match a, t with
    | "bool", .tInt => true | "bool", .tBool => true | "int", .tInt => true | "str", .tStr => true | "tuple", .tTup => true | "list", .tList => true | _, _ => false) := by
  intro a t h
  simp only [List.mem_cons, List.mem_nil_iff, or_false] at h
  rcases h with rfl | rfl | rfl | rfl | rfl | rfl <;> cases t <;> decide +kernel
theorem call_tIsA (t : Ty) : CallR X (.builtin "isinstance") (fun xs H Q => ∃ x, xs = [x, .ty t.name] ∧ rd1 X.kw Ξ (oIsA t) x H Q) := by
  refine CallR_imp call_isi fun xs H Q ⟨x, ex, g, m, a, e, ra, q⟩ => ?_
  subst ex
  unfold oIsA at q
  split at q
  · rename_i b hb
    have fin : Q (.bl b) H := QE.ret e (.bl b) q
    have go : ∀ (n : String) (r : Bool), n ∈ ["NoneType", "bool", "int", "str", "tuple", "list"] → TyX X.kw H x (.type n) → kitB n t.name = some r → r = b → rIsi X.kw [x, .ty t.name] H Q := fun n r hn ty hk hr => by
      subst hr
      exact ⟨x, .ty t.name, .type n, .type t.name, r, rfl, .ty _, ty, kit_ty hk, fin⟩
    cases ra with
    | non =>
      have hk := kitAll "NoneType" t (by decide)
      refine go "NoneType" false (by decide) (.base .non) ?_ ?_
      · rw [hk]; cases t <;> rfl
      · cases t <;> (simp only [look1, isA] at hb; exact Option.some.inj hb)
    | bl c =>
      have hk := kitAll "bool" t (by decide)
      cases t <;> (simp only [look1, isA] at hb; exact go "bool" _ (by decide) (.base (.bl c)) hk (Option.some.inj hb))
    | int i =>
      have hk := kitAll "int" t (by decide)
      cases t <;> (simp only [look1, isA] at hb; exact go "int" _ (by decide) (.base (.int i)) hk (Option.some.inj hb))
    | str l =>
      have hk := kitAll "str" t (by decide)
      cases t <;> (simp only [look1, isA] at hb; exact go "str" _ (by decide) (.base (.str _)) hk (Option.some.inj hb))
    | @tup p vs ys h r =>
      have hk := kitAll "tuple" t (by decide)
      have ty : TyX X.kw H (.ref p) (.type "tuple") := by
        rcases h with (h | ⟨o, h⟩) | ⟨o, its, n, h1, h2, _⟩
        · exact .base (.tup h)
        · exact .fTuple h
        · exact .kTuple h1 h2
      cases t <;> (simp only [look1, isA] at hb; exact go "tuple" _ (by decide) ty hk (Option.some.inj hb))
    | vl h r =>
      have hk := kitAll "list" t (by decide)
      cases t <;> (simp only [look1, isA] at hb; exact go "list" _ (by decide) (.base (.lst (e.ro _ _ h).1)) hk (Option.some.inj hb))
    | @fz p vs ys h r =>
      have hk := kitAll "list" t (by decide)
      have ty : TyX X.kw H (.ref p) (.type "list") := by
        rcases h with (h | ⟨o, h⟩) | ⟨o, its, n, h1, h2, _⟩
        · exact .base (.lst (e.ro _ _ h).1)
        · exact .base (.frz (e.ro _ _ h).1)
        · exact .kList h1 h2
      cases t <;> (simp only [look1, isA] at hb; exact go "list" _ (by decide) ty hk (Option.some.inj hb))
    | ref hn =>
      have hk := kitAll "list" t (by decide)
      simp only [look1] at hb
      split at hb
      · rename_i ys hy
        obtain ⟨a', vs, h1, h2, h3⟩ := e.obj _ _ hy
        rw [hn] at h1; cases h1
        cases t <;> (simp only [isA] at hb; exact go "list" _ (by decide) (.base (.lst h2)) hk (Option.some.inj hb))
      · cases t <;> simp only [isA] at hb <;> cases hb
    | fn a => cases t <;> simp only [look1, isA] at hb <;> cases hb
  · exact q.elim

/-! ### methods -/
def rdM (K : KW) (Ξ : XC) (f : PV → List PV → Mm → Rs (PV × Mm)) : V → List V → Hp → VK → Prop := fun x xs H Q => ∃ g m a as, Emb K g m H ∧ Rp K g H a x ∧ Rps K g H as xs ∧ QE K Ξ g H Q (f a as m)
theorem MtR_imp {id : String} {r r' : V → List V → Hp → VK → Prop} (h : MtR X id r) (i : ∀ x xs H Q, r' x xs H Q → r x xs H Q) : MtR X id r' := fun pins s σ H x xs v us Q I rx rv q => h pins s σ H x xs v us Q I rx rv (i _ _ _ _ q)
theorem mt_tAppend : MtR X "list.append" (rdM X.kw Ξ mAppend) := by
  refine MtR_imp mt_append fun x xs H Q ⟨g, m, a, as, e, ra, rs, q⟩ => ?_
  unfold mAppend at q
  split at q
  · rename_i n v
    obtain ⟨a1, rfl, hn⟩ := ra.ref_inv
    cases rs with
    | cons r1 r2 =>
      cases r2
      split at q
      · rename_i ys hy
        obtain ⟨a2, vs, h1, h2, h3⟩ := e.obj _ _ hy
        rw [hn] at h1; cases h1
        split at q
        · rename_i hl
          obtain ⟨x', e'⟩ := e.wr_lst hy hn (h3.append (.cons r1 .nil))
          exact ⟨a1, vs, _, rfl, rfl, h2, by rw [← h3.length]; exact line_lt hl, q _ _ _ x' e' .non⟩
        · exact q.elim
      · exact q.elim
  · exact q.elim
end
end TT
end

section
set_option Elab.async false
set_option linter.all false
set_option autoImplicit false
set_option maxRecDepth 100000
/-! TT: expressions, tests, targets, statements -/
namespace TT
open PySem PySem.Spec PyProof.Rows L2
section
variable {X : Cx} {Ξ : XC} {a b c e o : Expr} {es : List Expr} {pos : Pos} {fa fb fc : SE} {ft fu : ST} {K : KW} {g : Gh} {H : Hp}

/-! ### constants, names -/
theorem se_of {v : PV} {w : V} {e : Expr} (h : PE X e (tC w)) (r : ∀ g H, Rp X.kw g H v w) : PE X e (rdE X.kw Ξ (eC v)) :=
  PE_imp h fun σ H Q ⟨g, s, m, em, sr, q⟩ => QE.ret em (r g H) q
theorem se_int {i : Int} {j pos} : PE X (.Constant (.int i) j pos) (rdE X.kw Ξ (eC (.int i))) := se_of pe_int fun _ _ => .int i
theorem se_bl {i : Bool} {j pos} : PE X (.Constant (.bool i) j pos) (rdE X.kw Ξ (eC (.bl i))) := se_of pe_bl fun _ _ => .bl i
theorem se_non {j pos} : PE X (.Constant .none j pos) (rdE X.kw Ξ (eC .non)) := se_of pe_non fun _ _ => .non
theorem se_str (l : List Nat) {x : Str} {j pos} (h : x = ⟨l.toArray⟩ := by rfl) : PE X (.Constant (.str x) j pos) (rdE X.kw Ξ (eC (.str l))) := by
  subst h; exact se_of pe_str fun _ _ => .str l
theorem se_var (i : Nat) {x : Str} {pos : Pos} (hN : X.N[i]? = some x := by rfl) (hv : Vis X.env.scope x := by first | exact Or.inl rfl | exact Or.inr (Or.inl rfl) | exact Or.inr (Or.inr rfl)) (hd : (x == ("__debug__" : Str)) = false := by decide)
    (hcd : (x == ("__classdict__" : Str)) = false := by decide) : PE X (.Name x pos) (rdE X.kw Ξ (eVar i)) :=
  PE_imp (pe_var hN hv hd hcd) fun σ H Q ⟨g, s, m, em, sr, q⟩ => by
    unfold eVar at q
    split at q
    · rename_i v hv
      obtain ⟨w, h1, h2⟩ := sr.at_ i v hv
      exact ⟨w, h1, QE.ret em h2 q⟩
    · exact q.elim
/-- a name of the module -/
theorem se_glob {x : Str} {v : PV} {w : V} {u : Value} {pos : Pos} (hg : Gl X x) (hm : X.mg x = some u) (r : RelV w u) (rp : ∀ g H, Rp X.kw g H v w) (hd : (x == ("__debug__" : Str)) = false := by decide) : PE X (.Name x pos) (rdE X.kw Ξ (eC v)) :=
  se_of (pe_glob hg hm r hd) rp

/-! ### by values -/
theorem rd_e2 {f : O2} {σ : L2.St} {H : Hp} {Q : VK} (h : rdE K Ξ (e2 f fa fb) σ H Q) : tOp (rd2 K Ξ f) (rdE K Ξ fa) (rdE K Ξ fb) σ H Q := by
  obtain ⟨g, s, m, em, sr, q⟩ := h
  refine ⟨g, s, m, em, sr, QR.bind q fun p hp q1 g1 H1 V x1 e1 r1 => ?_⟩
  refine ⟨g1, s, p.2, e1, sr.ext em x1, QR.bind (QE.later x1 q1) fun p2 hp2 q2 g2 H2 W x2 e2 r2 => ?_⟩
  exact ⟨g2, p2.2, p.1, p2.1, e2, r1.ext e1 x2, r2, QE.later x2 q2⟩
theorem rd_e1 {f : O1} {σ : L2.St} {H : Hp} {Q : VK} (h : rdE K Ξ (e1 f fa) σ H Q) : rdE K Ξ fa σ H fun x H1 => rd1 K Ξ f x H1 Q := by
  obtain ⟨g, s, m, em, sr, q⟩ := h
  exact ⟨g, s, m, em, sr, QR.bind q fun p hp q1 g1 H1 V x1 e1 r1 => ⟨g1, p.2, p.1, e1, r1, QE.later x1 q1⟩⟩
theorem se_bin {op : Operator} {f : O2} (h : OpR X (binaryOp op) (rd2 X.kw Ξ f)) (ha : PE X a (rdE X.kw Ξ fa)) (hb : PE X b (rdE X.kw Ξ fb)) : PE X (.BinOp a op b pos) (rdE X.kw Ξ (e2 f fa fb)) :=
  PE_imp (pe_op h ha hb) fun _ _ _ => rd_e2
theorem se_cmp {op : CmpOp} {f : O2} (h : OpR X (compareOp op) (rd2 X.kw Ξ f)) (ha : PE X a (rdE X.kw Ξ fa)) (hb : PE X b (rdE X.kw Ξ fb)) (hm : behindInMarks op b = false) : PE X (.Compare a [op] [b] pos) (rdE X.kw Ξ (e2 f fa fb)) :=
  PE_imp (pe_cmpR h ha hb hm) fun _ _ _ => rd_e2
theorem st_of {f : SE} {e : Expr} {t : TE} {σ : L2.St} {H : Hp} {Q : Bool → Hp → Prop} (i : ∀ Q, rdE K Ξ f σ H Q → t σ H Q) (h : rdT K Ξ (tV f) σ H Q) : t σ H fun x H1 => ∃ k, x = .bl k ∧ Q k H1 := by
  obtain ⟨g, s, m, em, sr, q⟩ := h
  refine i _ ⟨g, s, m, em, sr, QR.bind q fun p hp q1 g1 H1 V x1 e1 r1 => ?_⟩
  obtain ⟨v, m1⟩ := p
  cases v with
  | bl k =>
    cases r1.bl_inv
    exact ⟨k, rfl, q1 g1 H1 x1 e1⟩
  | _ => exact q1.elim
theorem st_cmp {op : CmpOp} {f : O2} (h : OpR X (compareOp op) (rd2 X.kw Ξ f)) (ha : PE X a (rdE X.kw Ξ fa)) (hb : PE X b (rdE X.kw Ξ fb)) (hm : behindInMarks op b = false) : PT X (.Compare a [op] [b] pos) (rdT X.kw Ξ (tV (e2 f fa fb))) :=
  PT_imp (pt_cmpR h ha hb hm) fun σ H Q q => st_of (e := a) (fun _ => rd_e2) q
/-- an expression that gives a truth value, as a test -/
theorem st_val (h : PE X e (rdE X.kw Ξ fa)) (he : ∀ whole, isTrue e X.env whole = (do let v ← whole; standAt e.pos; holding [v] (truthy v)) := by intro _; rfl) : PT X e (rdT X.kw Ξ (tV fa)) :=
  PT_imp (pt_val h he) fun σ H Q q => st_of (e := e) (fun _ h => h) q
/-- the truth of any value -/
theorem st_tru (h : PE X e (rdE X.kw Ξ fa)) (he : ∀ whole, isTrue e X.env whole = (do let v ← whole; standAt e.pos; holding [v] (truthy v)) := by intro _; rfl) : PT X e (rdT X.kw Ξ (tT fa)) :=
  PT_imp (pt_truth h he) fun σ H Q ⟨g, s, m, em, sr, q⟩ => by
    refine ⟨g, s, m, em, sr, QR.bind q fun p hp q1 g1 H1 V x1 e1 r1 => ?_⟩
    obtain ⟨v, m1⟩ := p
    simp only at q1
    split at q1
    · rename_i k hk
      have fin := q1 g1 H1 x1 e1
      refine ⟨k, ?_, fin⟩
      cases r1 with
      | non => simp only [tru] at hk; cases hk; rfl
      | bl c => simp only [tru] at hk; cases hk; rfl
      | int i => simp only [tru] at hk; cases hk; rfl
      | str l =>
        simp only [tru] at hk
        split at hk
        · rename_i hl
          cases hk
          refine ⟨?_, ?_⟩
          · show l.toArray.size ≤ sizeLine
            simpa using line_le hl
          · show (!l.isEmpty) = (((l.toArray.size : Nat) : Int) != 0)
            cases l with
            | nil => rfl
            | cons x r =>
              have : ((((x :: r).toArray.size : Nat) : Int) != 0) = true := by
                rw [List.size_toArray, List.length_cons]
                exact bne_iff_ne.mpr (by omega)
              rw [this]; rfl
        · cases hk
      | tup hh r =>
        simp only [tru] at hk; cases hk
        refine .inr (.inl ⟨_, hh, ?_⟩)
        have := r.length
        rename_i vs xs
        cases xs <;> cases vs <;> simp_all
      | vl hh r =>
        simp only [tru] at hk; cases hk
        refine .inl ⟨_, SqL.of (e1.ro _ _ hh).1, ?_⟩
        have := r.length
        rename_i vs xs
        cases xs <;> cases vs <;> simp_all
      | fz hh r => simp only [tru] at hk; cases hk
      | fn a => simp only [tru] at hk; cases hk
      | ref hn =>
        simp only [tru] at hk
        split at hk
        · rename_i ys hy
          cases hk
          obtain ⟨a', vs, h1, h2, h3⟩ := e1.obj _ _ hy
          rw [hn] at h1; cases h1
          refine .inl ⟨_, SqL.of h2, ?_⟩
          have := h3.length
          cases ys <;> cases vs <;> simp_all
        · cases hk
    · exact q1.elim
theorem se_neg (ha : PE X a (rdE X.kw Ξ fa)) : PE X (.UnaryOp .USub a pos) (rdE X.kw Ξ (e1 oNeg fa)) :=
  PE_imp (pe_un un_neg ha) fun σ H Q q => by
    obtain ⟨g, s, m, em, sr, q⟩ := q
    refine ⟨g, s, m, em, sr, QR.bind q fun p hp q1 g1 H1 V x1 e1 r1 => ?_⟩
    obtain ⟨v, m1⟩ := p
    simp only [oNeg] at q1
    split at q1
    · cases r1.int_inv
      exact ⟨_, rfl, QE.ret e1 (.int _) (QE.later x1 q1)⟩
    · exact q1.elim
/-- is None, is not None -/
theorem se_isN {j pos'} (ha : PE X a (rdE X.kw Ξ fa)) : PE X (.Compare a [.Is] [.Constant .none j pos'] pos) (rdE X.kw Ξ (e1 (oIs false .non) fa)) :=
  PE_imp (pe_cmp (pc_isN ha)) fun σ H Q q => by
    obtain ⟨g, s, m, em, sr, q⟩ := q
    refine ⟨g, s, m, em, sr, QR.bind q fun p hp q1 g1 H1 V x1 e1 r1 => ?_⟩
    have e := QE.later x1 q1
    obtain ⟨v, m1⟩ := p
    cases r1 <;> exact QE.ret e1 (.bl _) e
theorem se_notN {j pos'} (ha : PE X a (rdE X.kw Ξ fa)) : PE X (.Compare a [.IsNot] [.Constant .none j pos'] pos) (rdE X.kw Ξ (e1 (oIs true .non) fa)) :=
  PE_imp (pe_cmp (pc_notN ha)) fun σ H Q q => by
    obtain ⟨g, s, m, em, sr, q⟩ := q
    refine ⟨g, s, m, em, sr, QR.bind q fun p hp q1 g1 H1 V x1 e1 r1 => ?_⟩
    have e := QE.later x1 q1
    obtain ⟨v, m1⟩ := p
    cases r1 <;> exact QE.ret e1 (.bl _) e
theorem st_isN {j pos'} (ha : PE X a (rdE X.kw Ξ fa)) : PT X (.Compare a [.Is] [.Constant .none j pos'] pos) (rdT X.kw Ξ (tV (e1 (oIs false .non) fa))) :=
  PT_imp (pt_cmp (pc_isN ha)) fun σ H Q q => by
    obtain ⟨g, s, m, em, sr, q⟩ := q
    refine ⟨g, s, m, em, sr, QR.bind (QR.bind q fun p hp q1 => q1) fun p hp q1 g1 H1 V x1 e1 r1 => ?_⟩
    obtain ⟨v, m1⟩ := p
    cases r1 <;> exact ⟨_, rfl, q1 g1 H1 x1 e1⟩
theorem st_notN {j pos'} (ha : PE X a (rdE X.kw Ξ fa)) : PT X (.Compare a [.IsNot] [.Constant .none j pos'] pos) (rdT X.kw Ξ (tV (e1 (oIs true .non) fa))) :=
  PT_imp (pt_cmp (pc_notN ha)) fun σ H Q q => by
    obtain ⟨g, s, m, em, sr, q⟩ := q
    refine ⟨g, s, m, em, sr, QR.bind (QR.bind q fun p hp q1 => q1) fun p hp q1 g1 H1 V x1 e1 r1 => ?_⟩
    obtain ⟨v, m1⟩ := p
    cases r1 <;> exact ⟨_, rfl, q1 g1 H1 x1 e1⟩
/-- is True, is False of a truth value -/
theorem se_isB {k : Bool} {j pos'} (ha : PE X a (rdE X.kw Ξ fa)) : PE X (.Compare a [.Is] [.Constant (.bool k) j pos'] pos) (rdE X.kw Ξ (e1 (oIs false (.bl k)) fa)) :=
  PE_imp (pe_cmpR op_isBl ha pe_bl (nomark _)) fun σ H Q q => by
    obtain ⟨g, s, m, em, sr, q⟩ := q
    refine ⟨g, s, m, em, sr, QR.bind q fun p hp q1 g1 H1 V x1 e1 r1 => ?_⟩
    have e := QE.later x1 q1
    obtain ⟨v, m1⟩ := p
    cases v with
    | bl c =>
      cases r1.bl_inv
      refine ⟨c, k, rfl, rfl, ?_⟩
      have : (if c == k then (!false : Bool) else false) = decide (c = k) := by cases c <;> cases k <;> rfl
      simp only [oIs, this] at e
      exact QE.ret e1 (.bl _) e
    | _ => exact e.elim

/-! ### arguments, displays -/
theorem sa_nil : PA X [] (rdA X.kw Ξ aNil) := PA_imp pa_nil fun σ H Q ⟨g, s, m, em, sr, q⟩ => q g H [] (Ext.refl _ _) em .nil
theorem sa_cons {f : SA} (ha : PE X e (rdE X.kw Ξ fa)) (hr : PA X es (rdA X.kw Ξ f)) (hs : starEach (e :: es) X.env = (false, eval e X.env) :: starEach es X.env := by rfl) : PA X (e :: es) (rdA X.kw Ξ (aCons fa f)) :=
  PA_imp (pa_cons ha hr hs) fun σ H Q ⟨g, s, m, em, sr, q⟩ => by
    refine ⟨g, s, m, em, sr, QR.bind q fun p hp q1 g1 H1 V x1 e1 r1 => ?_⟩
    refine ⟨g1, s, p.2, e1, sr.ext em x1, QR.bind (QA.later x1 q1) fun p2 hp2 q2 g2 H2 W x2 e2 r2 => ?_⟩
    exact q2 g2 H2 _ x2 e2 (.cons (r1.ext e1 x2) r2)
theorem rps_small {xs : List PV} {vs : List V} (r : Rps K g H xs vs) (n : Nat) (h : xs.length ≤ n) (hn : n ≤ sizeLine) : vs.length ≤ sizeLine := by rw [← r.length]; exact Nat.le_trans h hn
theorem se_tup {f : SA} {x1} (h : PA X es (rdA X.kw Ξ f)) (hl : ∀ s m xs m', f s m = .ok (xs, m') → xs.length = es.length) (hn : es.length ≤ 1000 := by decide) : PE X (.Tuple es x1 pos) (rdE X.kw Ξ (eTup f)) :=
  PE_imp (pe_tup h) fun σ H Q ⟨g, s, m, em, sr, q⟩ => by
    refine ⟨g, s, m, em, sr, QR.bind q fun p hp q1 g1 H1 V x1 e1 r1 => ?_⟩
    refine ⟨rps_small r1 1000 ?_ (by rw [sizeLine_eq]; decide), fun p' hp' => QE.newT e1 r1 (QE.later x1 q1) hp'⟩
    rw [hl s m p.1 p.2 hp]; exact hn
theorem se_lst {f : SA} (h : PA X es (rdA X.kw Ξ f)) (hl : ∀ s m xs m', f s m = .ok (xs, m') → xs.length = es.length) (hn : es.length ≤ 1000 := by decide) : PE X (.List es pos) (rdE X.kw Ξ (eLst f)) :=
  PE_imp (pe_lst h) fun σ H Q ⟨g, s, m, em, sr, q⟩ => by
    refine ⟨g, s, m, em, sr, QR.bind q fun p hp q1 g1 H1 V x1 e1 r1 => ?_⟩
    refine ⟨rps_small r1 1000 ?_ (by rw [sizeLine_eq]; decide), fun p' hp' => QE.newL e1 r1 (QE.later x1 q1) hp'⟩
    rw [hl s m p.1 p.2 hp]; exact hn
theorem se_lstM {f : SA} (h : PA X es (rdA X.kw Ξ f)) (hl : ∀ s m xs m', f s m = .ok (xs, m') → xs.length = es.length) (hn : es.length ≤ 1000 := by decide) : PE X (.List es pos) (rdE X.kw Ξ (eLstM f)) :=
  PE_imp (pe_lst h) fun σ H Q ⟨g, s, m, em, sr, q⟩ => by
    refine ⟨g, s, m, em, sr, QR.bind q fun p hp q1 g1 H1 V x1 e1 r1 => ?_⟩
    refine ⟨rps_small r1 1000 ?_ (by rw [sizeLine_eq]; decide), fun p' hp' => QE.newM e1 r1 (QE.later x1 q1) hp'⟩
    rw [hl s m p.1 p.2 hp]; exact hn
end
/-- arguments come one for each expression -/
theorem al_nil : ∀ s m xs m', aNil s m = .ok (xs, m') → xs.length = ([] : List Expr).length := by
  intro s m xs m' h; cases h; rfl
theorem al_cons {fa : SE} {f : SA} {e : Expr} {es : List Expr} (h : ∀ s m xs m', f s m = .ok (xs, m') → xs.length = es.length) : ∀ s m xs m', aCons fa f s m = .ok (xs, m') → xs.length = (e :: es).length := by
  intro s m xs m' q
  obtain ⟨p, h1, h2⟩ := Rs.bind_eq_ok q
  obtain ⟨p2, h3, h4⟩ := Rs.bind_eq_ok h2
  cases h4
  rw [List.length_cons, h _ _ _ _ h3, List.length_cons]
section
variable {X : Cx} {Ξ : XC} {a b c e o : Expr} {es : List Expr} {pos : Pos} {fa fb fc : SE} {ft fu : ST} {K : KW}
/-! ### calls of built-ins -/
theorem rd_eN {f : ON} {fs : SA} {σ : L2.St} {H : Hp} {Q : VK} (h : rdE K Ξ (eN f fs) σ H Q) : tCB (rdN K Ξ f) (rdA K Ξ fs) σ H Q := by
  obtain ⟨g, s, m, em, sr, q⟩ := h
  exact ⟨g, s, m, em, sr, QR.bind q fun p hp q1 g1 H1 V x1 e1 r1 => ⟨g1, p.2, p.1, e1, r1, QE.later x1 q1⟩⟩
theorem se_callB {x : Str} {p : Pos} {id : String} {f : ON} {fs : SA} (hc : CallR X (.builtin id) (rdN X.kw Ξ f)) (hg : Gl X x) (hm : X.mg x = none) (hv : bootBuiltins x = some (.builtin id)) (ha : PA X (e :: es) (rdA X.kw Ξ fs)) (hn : x ≠ "__name__" := by decide) (hdb : (x == ("__debug__" : Str)) = false := by decide)
    (he : starEach (e :: es) X.env = (false, eval e X.env) :: starEach es X.env := by rfl) (hpl : (backTo pos (starEach es X.env)).any (·.1) = false := by rfl) : PE X (.Call (.Name x p) (e :: es) [] pos) (rdE X.kw Ξ (eN f fs)) :=
  PE_imp (pe_callB hc hg hm hv ha hn hdb he hpl) fun _ _ _ => rd_eN
theorem se_callTy {x : Str} {p : Pos} {T : String} {f : ON} {fs : SA} (hc : CallR X (.type T) (rdN X.kw Ξ f)) (hg : Gl X x) (hm : X.mg x = none) (hv : bootBuiltins x = some (.type T)) (ha : PA X (e :: es) (rdA X.kw Ξ fs)) (hn : x ≠ "__name__" := by decide) (hdb : (x == ("__debug__" : Str)) = false := by decide)
    (he : starEach (e :: es) X.env = (false, eval e X.env) :: starEach es X.env := by rfl) (hpl : (backTo pos (starEach es X.env)).any (·.1) = false := by rfl) : PE X (.Call (.Name x p) (e :: es) [] pos) (rdE X.kw Ξ (eN f fs)) :=
  PE_imp (pe_callTy hc hg hm hv ha hn hdb he hpl) fun _ _ _ => rd_eN
/-- isinstance(x, T) -/
theorem se_isA {x y : Str} {p p2 : Pos} (t : Ty) (hg : Gl X x) (hm : X.mg x = none) (hv : bootBuiltins x = some (.builtin "isinstance")) (ha : PE X a (rdE X.kw Ξ fa)) (hg2 : Gl X y) (hm2 : X.mg y = none) (hv2 : bootBuiltins y = some (.type t.name)) (hn : x ≠ "__name__" := by decide) (hdb : (x == ("__debug__" : Str)) = false := by decide)
    (hn2 : y ≠ "__name__" := by decide) (hdb2 : (y == ("__debug__" : Str)) = false := by decide) (hs : starEach [a, .Name y p2] X.env = (false, eval a X.env) :: starEach [.Name y p2] X.env := by rfl) :
    PE X (.Call (.Name x p) [a, .Name y p2] [] pos) (rdE X.kw Ξ (e1 (oIsA t) fa)) :=
  PE_imp (pe_callB (call_tIsA t) hg hm hv (pa_cons ha (pa_cons (pe_bltn (v := .ty t.name) hg2 hm2 hv2 rfl hn2 hdb2) pa_nil) hs) hn hdb hs) fun σ H Q ⟨g, s, m, em, sr, q⟩ =>
    ⟨g, s, m, em, sr, QR.bind q fun p hp q1 g1 H1 V x1 e1 r1 => ⟨V, rfl, g1, p.2, p.1, e1, r1, QE.later x1 q1⟩⟩

/-! ### subscripts -/
theorem se_ix (ha : PE X a (rdE X.kw Ξ fa)) (hb : PE X b (rdE X.kw Ξ fb)) (hs : PlainIx b := by exact fun _ _ => rfl) : PE X (.Subscript a b pos) (rdE X.kw Ξ (e2 oIx fa fb)) :=
  PE_imp (pe_ix ix_t ha hb hs) fun _ _ _ => rd_e2
/-- a[lo:hi] -/
theorem rd_part {f : SE} {σ : L2.St} {H : Hp} {Q : Option Int → Hp → Prop} (h : rdE K Ξ f σ H fun x H1 => ∃ i, x = .int i ∧ Q (some i) H1) : tPart (rdE K Ξ f) σ H Q := h
theorem se_sl0 {p2 : Pos} (ha : PE X a (rdE X.kw Ξ fa)) : PE X (.Subscript a (.Slice none none none p2) pos) (rdE X.kw Ξ (e1 (oSlice none none) fa)) :=
  PE_imp (pe_slice sl_t ha po_none po_none) fun σ H Q ⟨g, s, m, em, sr, q⟩ => by
    exact ⟨g, s, m, em, sr, QR.bind q fun p hp q1 g1 H1 V x1 e1 r1 => ⟨g1, p.2, p.1, e1, r1, QE.later x1 q1⟩⟩
theorem se_slL {p2 : Pos} (ha : PE X a (rdE X.kw Ξ fa)) (hb : PE X b (rdE X.kw Ξ fb)) : PE X (.Subscript a (.Slice (some b) none none p2) pos) (rdE X.kw Ξ (eSlL fb fa)) :=
  PE_imp (pe_slice sl_t ha (po_some hb) po_none) fun σ H Q ⟨g, s, m, em, sr, q⟩ => by
    refine ⟨g, s, m, em, sr, QR.bind q fun p hp q1 g1 H1 V x1 e1 r1 => ?_⟩
    refine ⟨g1, s, p.2, e1, sr.ext em x1, QR.bind (QE.later x1 q1) fun p2 hp2 q2 g2 H2 W x2 e2 r2 => ?_⟩
    obtain ⟨l, m2⟩ := p2
    cases l with
    | int i => cases r2.int_inv; exact ⟨i, rfl, g2, m2, p.1, e2, r1.ext e1 x2, QE.later x2 q2⟩
    | _ => exact q2.elim
theorem se_slH {p2 : Pos} (ha : PE X a (rdE X.kw Ξ fa)) (hb : PE X b (rdE X.kw Ξ fb)) : PE X (.Subscript a (.Slice none (some b) none p2) pos) (rdE X.kw Ξ (eSlH fb fa)) :=
  PE_imp (pe_slice sl_t ha po_none (po_some hb)) fun σ H Q ⟨g, s, m, em, sr, q⟩ => by
    refine ⟨g, s, m, em, sr, QR.bind q fun p hp q1 g1 H1 V x1 e1 r1 => ?_⟩
    refine ⟨g1, s, p.2, e1, sr.ext em x1, QR.bind (QE.later x1 q1) fun p2 hp2 q2 g2 H2 W x2 e2 r2 => ?_⟩
    obtain ⟨l, m2⟩ := p2
    cases l with
    | int i => cases r2.int_inv; exact ⟨i, rfl, g2, m2, p.1, e2, r1.ext e1 x2, QE.later x2 q2⟩
    | _ => exact q2.elim
theorem se_slLH {p2 : Pos} (ha : PE X a (rdE X.kw Ξ fa)) (hb : PE X b (rdE X.kw Ξ fb)) (hc : PE X c (rdE X.kw Ξ fc)) : PE X (.Subscript a (.Slice (some b) (some c) none p2) pos) (rdE X.kw Ξ (eSlLH fb fc fa)) :=
  PE_imp (pe_slice sl_t ha (po_some hb) (po_some hc)) fun σ H Q ⟨g, s, m, em, sr, q⟩ => by
    refine ⟨g, s, m, em, sr, QR.bind q fun p hp q1 g1 H1 V x1 e1 r1 => ?_⟩
    refine ⟨g1, s, p.2, e1, sr.ext em x1, QR.bind (QE.later x1 q1) fun p2 hp2 q2 g2 H2 W x2 e2 r2 => ?_⟩
    obtain ⟨l, m2⟩ := p2
    cases l with
    | int i =>
      cases r2.int_inv
      refine ⟨i, rfl, g2, s, m2, e2, (sr.ext em x1).ext e1 x2, QR.bind (QE.later x2 q2) fun p3 hp3 q3 g3 H3 U x3 e3 r3 => ?_⟩
      obtain ⟨u, m3⟩ := p3
      cases u with
      | int j => cases r3.int_inv; exact ⟨j, rfl, g3, m3, p.1, e3, (r1.ext e1 x2).ext e2 x3, QE.later x3 q3⟩
      | _ => exact q3.elim
    | _ => exact q2.elim
/-- methods of built-in types -/
def Tag.name : Tag → String
  | .list => "list" | .str => "str"
theorem tyV_of {g : Gh} {m : Mm} {H : Hp} {t : Tag} {v : PV} {w : V} (e : Emb K g m H) (h : tyOk m t v = true) (r : Rp K g H v w) : tyV K t.name w H := by
  cases t <;> cases r <;> simp only [tyOk] at h <;> first | cases h | skip
  · rename_i hh rr
    exact .inl ⟨rfl, _, SqL.of (e.ro _ _ hh).1⟩
  · rename_i hn
    split at h
    · rename_i ys hy
      obtain ⟨a', vs, h1, h2, h3⟩ := e.obj _ _ hy
      rw [hn] at h1; cases h1
      exact .inl ⟨rfl, _, SqL.of h2⟩
    · cases h
  · rfl
theorem se_meth {t : Tag} {id : String} {name : Str} {apos cpos : Pos} {f : PV → List PV → Mm → Rs (PV × Mm)} {fs : SA} {fo : SE} (pa : PlainAttrs t.name) (slot : Slot t.name name id) (hty : typeOf (.builtin id) = pure (.type "method_descriptor")) (hm : MtR X id (rdM X.kw Ξ f)) (ho : PE X o (rdE X.kw Ξ fo)) (ha : PA X (e :: es) (rdA X.kw Ξ fs))
    (hbase : attributeBase o name X.env (eval o X.env) = eval o X.env := by rfl)
    (hfew : ((backTo cpos (starEach (e :: es) X.env)).all (fun x => !x.1) && (backToKw cpos (keywordEach [] X.env)).all (fun x => x.1.isSome)
      && decide ((e :: es).length + ([] : List Keyword).length + (if ([] : List Keyword).isEmpty then 0 else 1) < 30)) = true := by rfl)
    (hline : (apos.endLine == cpos.line) = true := by rfl) (hs : starEach (e :: es) X.env = (false, eval e X.env) :: starEach es X.env := by rfl) (hplain : (backTo cpos (starEach es X.env)).any (·.1) = false := by rfl) :
    PE X (.Call (.Attribute o name apos) (e :: es) [] cpos) (rdE X.kw Ξ (eM t f fo fs)) :=
  PE_imp (pe_bm pa slot hty hm ho ha hbase hfew hline hs hplain) fun σ H Q ⟨g, s, m, em, sr, q⟩ => by
    refine ⟨g, s, m, em, sr, QR.bind q fun p hp q1 g1 H1 V x1 e1 r1 => ?_⟩
    obtain ⟨v, m1⟩ := p
    simp only at q1
    by_cases hty : tyOk m1 t v = true
    · rw [if_pos hty] at q1
      refine ⟨tyV_of e1 hty r1, g1, s, m1, e1, sr.ext em x1, QR.bind (QE.later x1 q1) fun p2 hp2 q2 g2 H2 W x2 e2 r2 => ?_⟩
      exact ⟨g2, p2.2, v, p2.1, e2, r1.ext e1 x2, r2, QE.later x2 q2⟩
    · rw [if_neg hty] at q1; exact q1.elim

/-! ### and, or, not, conditional expressions -/
theorem se_and1 {op pos} (h : PE X a (rdE X.kw Ξ fa)) : PE X (.BoolOp op [a] pos) (rdE X.kw Ξ fa) := pe_one h
theorem se_and {rest : List Expr} (ha : PE X a (rdE X.kw Ξ fa)) (hb : PE X (.BoolOp .And (b :: rest) pos) (rdE X.kw Ξ fb)) : PE X (.BoolOp .And (a :: b :: rest) pos) (rdE X.kw Ξ (eAnd fa fb)) :=
  PE_imp (pe_and ha hb) fun σ H Q ⟨g, s, m, em, sr, q⟩ => by
    refine ⟨g, s, m, em, sr, QR.bind q fun p hp q1 g1 H1 V x1 e1 r1 => ?_⟩
    obtain ⟨v, m1⟩ := p
    cases v with
    | bl k =>
      cases r1.bl_inv
      refine ⟨k, rfl, ?_⟩
      cases k with
      | true => exact iteT ⟨g1, s, m1, e1, sr.ext em x1, QE.later x1 q1⟩
      | false => exact iteF (QE.ret e1 (.bl false) (QE.later x1 q1))
    | _ => exact q1.elim
theorem se_or {rest : List Expr} (ha : PE X a (rdE X.kw Ξ fa)) (hb : PE X (.BoolOp .Or (b :: rest) pos) (rdE X.kw Ξ fb)) : PE X (.BoolOp .Or (a :: b :: rest) pos) (rdE X.kw Ξ (eOr fa fb)) :=
  PE_imp (pe_or ha hb) fun σ H Q ⟨g, s, m, em, sr, q⟩ => by
    refine ⟨g, s, m, em, sr, QR.bind q fun p hp q1 g1 H1 V x1 e1 r1 => ?_⟩
    obtain ⟨v, m1⟩ := p
    cases v with
    | bl k =>
      cases r1.bl_inv
      refine ⟨k, rfl, ?_⟩
      cases k with
      | false => exact iteF ⟨g1, s, m1, e1, sr.ext em x1, QE.later x1 q1⟩
      | true => exact iteT (QE.ret e1 (.bl true) (QE.later x1 q1))
    | _ => exact q1.elim
theorem se_not (ha : PE X a (rdE X.kw Ξ fa)) : PE X (.UnaryOp .Not a pos) (rdE X.kw Ξ (eNot fa)) :=
  PE_imp (pe_not ha) fun σ H Q ⟨g, s, m, em, sr, q⟩ => by
    refine ⟨g, s, m, em, sr, QR.bind q fun p hp q1 g1 H1 V x1 e1 r1 => ?_⟩
    obtain ⟨v, m1⟩ := p
    cases v with
    | bl k =>
      cases r1.bl_inv
      exact ⟨k, rfl, QE.ret e1 (.bl _) (QE.later x1 q1)⟩
    | _ => exact q1.elim
theorem sw_and1 {pos} (h : PT X a (rdT X.kw Ξ ft)) : PW X (.BoolOp .And [a] pos) (rdT X.kw Ξ ft) := pw_and1 h
theorem sw_or1 {pos} (h : PT X a (rdT X.kw Ξ ft)) : PW X (.BoolOp .Or [a] pos) (rdT X.kw Ξ ft) := pw_or1 h
theorem sw_and {rest : List Expr} (ha : PT X a (rdT X.kw Ξ ft)) (hb : PW X (.BoolOp .And (b :: rest) pos) (rdT X.kw Ξ fu)) : PW X (.BoolOp .And (a :: b :: rest) pos) (rdT X.kw Ξ (tAnd ft fu)) :=
  PW_imp (pw_and ha hb) fun σ H Q ⟨g, s, m, em, sr, q⟩ => by
    refine ⟨g, s, m, em, sr, QR.bind q fun p hp q1 g1 H1 x1 e1 => ?_⟩
    obtain ⟨k, m1⟩ := p
    cases k with
    | true => exact iteT ⟨g1, s, m1, e1, sr.ext em x1, QT.later x1 q1⟩
    | false => exact iteF (q1 g1 H1 x1 e1)
theorem sw_or {rest : List Expr} (ha : PT X a (rdT X.kw Ξ ft)) (hb : PW X (.BoolOp .Or (b :: rest) pos) (rdT X.kw Ξ fu)) : PW X (.BoolOp .Or (a :: b :: rest) pos) (rdT X.kw Ξ (tOr ft fu)) :=
  PW_imp (pw_or ha hb) fun σ H Q ⟨g, s, m, em, sr, q⟩ => by
    refine ⟨g, s, m, em, sr, QR.bind q fun p hp q1 g1 H1 x1 e1 => ?_⟩
    obtain ⟨k, m1⟩ := p
    cases k with
    | false => exact iteF ⟨g1, s, m1, e1, sr.ext em x1, QT.later x1 q1⟩
    | true => exact iteT (q1 g1 H1 x1 e1)
theorem st_w (h : PW X e (rdT X.kw Ξ ft)) : PT X e (rdT X.kw Ξ ft) := h.pt
theorem st_not (ha : PT X a (rdT X.kw Ξ ft)) : PT X (.UnaryOp .Not a pos) (rdT X.kw Ξ (tNot ft)) :=
  PT_imp (pt_not ha) fun σ H Q ⟨g, s, m, em, sr, q⟩ => by
    refine ⟨g, s, m, em, sr, QR.bind q fun p hp q1 g1 H1 x1 e1 => ?_⟩
    exact q1 g1 H1 x1 e1
theorem se_if (hc : PT X c (rdT X.kw Ξ ft)) (ha : PE X a (rdE X.kw Ξ fa)) (hb : PE X b (rdE X.kw Ξ fb)) : PE X (.IfExp c a b pos) (rdE X.kw Ξ (eIf ft fa fb)) :=
  PE_imp (pe_ifExp hc ha hb) fun σ H Q ⟨g, s, m, em, sr, q⟩ => by
    refine ⟨g, s, m, em, sr, QR.bind q fun p hp q1 g1 H1 x1 e1 => ?_⟩
    obtain ⟨k, m1⟩ := p
    cases k with
    | true => exact iteT ⟨g1, s, m1, e1, sr.ext em x1, QE.later x1 q1⟩
    | false => exact iteF ⟨g1, s, m1, e1, sr.ext em x1, QE.later x1 q1⟩
/-- a < b < c -/
theorem rd_chain {r r' : R2} {f f' : O2} {σ : L2.St} {H : Hp} {Q : VK} (hr : ∀ x y H Q, rd2 K Ξ f x y H Q → r x y H Q) (hr' : ∀ x y H Q, rd2 K Ξ f' x y H Q → r' x y H Q) (h : rdE K Ξ (eChain f f' fa fb fc) σ H Q) : tChain r r' (rdE K Ξ fa) (rdE K Ξ fb) (rdE K Ξ fc) σ H Q := by
  obtain ⟨g, s, m, em, sr, q⟩ := h
  refine ⟨g, s, m, em, sr, QR.bind q fun p hp q1 g1 H1 V x1 e1 r1 => ?_⟩
  refine ⟨g1, s, p.2, e1, sr.ext em x1, QR.bind (QE.later x1 q1) fun p2 hp2 q2 g2 H2 W x2 e2 r2 => ?_⟩
  have q2' := QE.later x2 q2
  refine hr _ _ _ _ ⟨g2, p2.2, p.1, p2.1, e2, r1.ext e1 x2, r2, QR.bind q2' fun p3 hp3 q3 g3 H3 Z x3 e3 r3 => ?_⟩
  obtain ⟨z, m3⟩ := p3
  cases z with
  | bl k =>
    cases r3.bl_inv
    refine ⟨k, rfl, ?_⟩
    cases k with
    | true =>
      refine iteT ⟨g3, s, m3, e3, ((sr.ext em x1).ext e1 x2).ext e2 x3, QR.bind (QE.later x3 q3) fun p4 hp4 q4 g4 H4 U x4 e4 r4 => ?_⟩
      exact hr' _ _ _ _ ⟨g4, p4.2, p2.1, p4.1, e4, (r2.ext e2 x3).ext e3 x4, r4, QE.later x4 q4⟩
    | false => exact iteF (QE.ret e3 (.bl false) (QE.later x3 q3))
  | _ => exact q3.elim
theorem se_chain {op op' : CmpOp} {f f' : O2} (h : OpR X (compareOp op) (rd2 X.kw Ξ f)) (h' : OpR X (compareOp op') (rd2 X.kw Ξ f')) (ha : PE X a (rdE X.kw Ξ fa)) (hb : PE X b (rdE X.kw Ξ fb)) (hc : PE X c (rdE X.kw Ξ fc))
    (hm : lastMarks [op, op'] [b, c] = false := by with_unfolding_all rfl) : PE X (.Compare a [op, op'] [b, c] pos) (rdE X.kw Ξ (eChain f f' fa fb fc)) :=
  PE_imp (pe_chain h h' ha hb hc hm) fun σ H Q q => rd_chain (fun _ _ _ _ h => h) (fun _ _ _ _ h => h) q
theorem st_chain {op op' : CmpOp} {f f' : O2} (h : OpR X (compareOp op) (rd2 X.kw Ξ f)) (h' : OpR X (compareOp op') (rd2 X.kw Ξ f')) (ha : PE X a (rdE X.kw Ξ fa)) (hb : PE X b (rdE X.kw Ξ fb)) (hc : PE X c (rdE X.kw Ξ fc))
    (hm : lastMarks [op, op'] [b, c] = false := by with_unfolding_all rfl) : PT X (.Compare a [op, op'] [b, c] pos) (rdT X.kw Ξ (tV (eChain f f' fa fb fc))) :=
  PT_imp (pt_chain h h' ha hb hc hm) fun σ H Q q => st_of (e := a) (fun _ h => rd_chain (fun _ _ _ _ h => h) (fun _ _ _ _ h => h) h) q
end
end TT
end

section
set_option Elab.async false
set_option linter.all false
set_option autoImplicit false
set_option maxRecDepth 100000
/-! TT: targets, statements, loops, comprehensions -/
namespace TT
open PySem PySem.Spec PyProof.Rows L2
/-- behind a target, a ghost step -/
abbrev PEndG (K : KW) (g : Gh) (H : Hp) (Q : L2.St → Hp → Prop) : Sl × Mm → Prop := fun p => ∀ g' H' σ', Ext g H g' H' → Emb K g' p.2 H' → Sr K g' H' p.1 σ' → Q σ' H'
abbrev QG (K : KW) (Ξ : XC) (g : Gh) (H : Hp) (Q : L2.St → Hp → Prop) (r : Rs (Sl × Mm)) : Prop := QR K Ξ g H (PEndG K g H Q) r
theorem QG.later {K : KW} {Ξ : XC} {g g' : Gh} {H H' : Hp} {Q : L2.St → Hp → Prop} {r : Rs (Sl × Mm)} (x : Ext g H g' H') (h : QG K Ξ g H Q r) : QG K Ξ g' H' Q r := QR.later x h fun _ p g2 H2 V x2 => p g2 H2 V (x.trans x2)
def rdG (K : KW) (Ξ : XC) (f : SG) : TG := fun v σ H Q => ∃ g s m pv, Emb K g m H ∧ Sr K g H s σ ∧ Rp K g H pv v ∧ QG K Ξ g H Q (f pv s m)
/-- names one after another -/
def rdGs (K : KW) (Ξ : XC) (is : List Nat) : TGs := fun vs σ H Q => ∃ g s m pvs, Emb K g m H ∧ Sr K g H s σ ∧ Rps K g H pvs vs ∧ ∃ s', gNames is pvs s = some s' ∧ ∀ σ', Sr K g H s' σ' → Q σ' H
section
variable {X : Cx} {Ξ : XC} {a b c e o : Expr} {es : List Expr} {pos : Pos} {fa fb fc : SE} {ft : ST} {K : KW}
theorem sg_name (i : Nat) {x : Str} (hN : X.N.Nodup) (hi : X.N[i]? = some x := by rfl) (hx : Loc X.env.scope x := by first | exact Or.inl rfl | exact Or.inr rfl) (hf : X.fn x = true ∨ X.env.scope.names.lookup x = some .local := by first | exact .inl rfl | exact .inr rfl | assumption) : PG X (.Name x pos) (rdG X.kw Ξ (gName i)) :=
  PG_imp (pg_name hN hi hx hf) fun v σ H Q ⟨g, s, m, pv, em, sr, rv, q⟩ => q g H _ (Ext.refl _ _) em (sr.set rv i)
theorem gNames_len : ∀ (is : List Nat) (vs : List PV) (s s' : Sl), gNames is vs s = some s' → vs.length = is.length
  | [], [], _, _, _ => rfl
  | [], _ :: _, _, _, h => by cases h
  | _ :: _, [], _, _, h => by cases h
  | _ :: is, _ :: vs, s, s', h => by rw [List.length_cons, List.length_cons, gNames_len is vs _ s' h]
theorem sgs_nil : PGs X [] (rdGs X.kw Ξ []) := ⟨fun pins s σ H vs us Q I r ⟨g, sl, m, pvs, em, sr, rs, s', h, q⟩ => by
  cases pvs with
  | nil => cases h; cases rs; exact pgs_nil.run pins s σ H [] us Q I r ⟨rfl, q σ sr⟩
  | cons => cases h⟩
theorem sgs_cons {is : List Nat} (i : Nat) {x : Str} {p : Pos} (hN : X.N.Nodup) (h2 : PGs X es (rdGs X.kw Ξ is)) (hi : X.N[i]? = some x := by rfl) (hx : Loc X.env.scope x := by first | exact Or.inl rfl | exact Or.inr rfl) (hf : X.fn x = true ∨ X.env.scope.names.lookup x = some .local := by first | exact .inl rfl | exact .inr rfl | assumption)
    (hs : (assignEach (.Name x p :: es) X.env).map (·.2) = assign (.Name x p) X.env :: (assignEach es X.env).map (·.2) := by rfl) : PGs X (.Name x p :: es) (rdGs X.kw Ξ (i :: is)) :=
  ⟨fun pins s σ H vs us Q I r ⟨g, sl, m, pvs, em, sr, rs, s', h, q⟩ => by
    cases pvs with
    | nil => cases h
    | cons pv pvs =>
      cases rs with
      | cons r1 r2 =>
        exact (pgs_cons (pg_name hN hi hx hf) h2 hs).run pins s σ H _ us Q I r ⟨_, _, rfl, g, _, m, pvs, em, sr.set r1 i, r2, s', h, q⟩⟩
theorem sg_tup {is : List Nat} {k : Nat} (n : Nat) (hc : X.calm = true) (h : PGs X es (rdGs X.kw Ξ is)) (hl : is.length = n := by rfl) (hn : (assignEach es X.env).length = n := by rfl) (hst : (assignEach es X.env).findIdx? (·.1) = none := by rfl) : PG X (.Tuple es k pos) (rdG X.kw Ξ (gTup is)) :=
  PG_imp (pg_tup hc h hn hst) fun v σ H Q ⟨g, s, m, pv, em, sr, rv, q⟩ => by
    unfold gTup at q
    split at q
    · rename_i vs
      obtain ⟨a, ws, rfl, ha, r1⟩ := rv.tup_inv
      split at q
      · rename_i s' hs
        have hlen : vs.length = n := by rw [← hl]; exact gNames_len _ _ _ _ hs
        exact ⟨a, ws, rfl, ha, by rw [← r1.length]; exact hlen, g, s, m, vs, em, sr, r1, s', hs, fun σ' sr' => q g H σ' (Ext.refl _ _) em sr'⟩
      · exact q.elim
    · exact q.elim
theorem sg_sub (ho : PE X o (rdE X.kw Ξ fa)) (hi : PE X e (rdE X.kw Ξ fb)) (ha : ∀ v, assign (.Subscript o e pos) X.env v = (do
      let ov ← holding [v] (eval o X.env)
      let iv ← holding [v, ov] (eval e X.env)
      standAt pos
      holding [v, ov, iv] (setItem ov iv v)
      release [v, ov, iv] []) := by intro _; rfl) : PG X (.Subscript o e pos) (rdG X.kw Ξ (gSub fa fb)) :=
  PG_imp (pg_sub ho hi set_t ha) fun v σ H Q ⟨g, s, m, pv, em, sr, rv, q⟩ => by
    refine ⟨g, s, m, em, sr, QR.bind q fun p hp q1 g1 H1 V x1 e1 r1 => ?_⟩
    refine ⟨g1, s, p.2, e1, sr.ext em x1, QR.bind (QG.later x1 q1) fun p2 hp2 q2 g2 H2 W x2 e2 r2 => ?_⟩
    refine ⟨g2, p2.2, p.1, p2.1, pv, e2, r1.ext e1 x2, r2, (rv.ext em x1).ext e1 x2, QR.bind (QG.later x2 q2) fun m3 hm3 q3 g3 H3 x3 e3 => ?_⟩
    exact q3 g3 H3 σ x3 e3 ((((sr.ext em x1).ext e1 x2)).ext e2 x3)

/-! ### statements -/
section
variable {st : Stmt} {rest : List Stmt} {f h : SS}
theorem QS_nx {g : Gh} {H : Hp} {m : Mm} {s : Sl} {σ : L2.St} {D : Ends} (em : Emb K g m H) (sr : Sr K g H s σ) (q : QS K Ξ g H D (.ok (.nx, s, m))) : D.nx σ H := q g H σ (Ext.refl _ _) em sr
theorem rd_seq {t u : TS} {D : Ends} {σ : L2.St} {H : Hp} (ht : ∀ D σ H, rdS K Ξ f D σ H → t D σ H) (hu : ∀ D σ H, rdS K Ξ h D σ H → u D σ H) (q : rdS K Ξ (sSeq f h) D σ H) : tSeq t u D σ H := by
  obtain ⟨g, s, m, em, sr, q⟩ := q
  refine ht _ _ _ ⟨g, s, m, em, sr, QR.bind q fun p hp q1 g1 H1 σ1 x1 e1 r1 => ?_⟩
  obtain ⟨fl, s1, m1⟩ := p
  cases fl with
  | nx => exact hu D σ1 H1 ⟨g1, s1, m1, e1, r1, QS.later x1 q1⟩
  | bk => exact q1 g1 H1 σ1 x1 e1 r1
  | ct => exact q1 g1 H1 σ1 x1 e1 r1
  | rt v => exact q1 g1 H1 σ1 x1 e1 r1
theorem ss_nil : PSs X [] (rdS X.kw Ξ sSkip) := PSs_imp pss_nil fun D σ H ⟨g, s, m, em, sr, q⟩ => QS_nx em sr q
theorem ss_cons (h1 : PS X st (rdS X.kw Ξ f)) (h2 : PSs X rest (rdS X.kw Ξ h)) : PSs X (st :: rest) (rdS X.kw Ξ (sSeq f h)) :=
  PSs_imp (pss_cons h1 h2) fun D σ H q => rd_seq (fun _ _ _ h => h) (fun _ _ _ h => h) q
theorem ss_one (h1 : PS X st (rdS X.kw Ξ f)) : PSs X [st] (rdS X.kw Ξ f) := pss_one h1
/-- a ghost step ahead of the rest: the list in slot i is changed no more -/
theorem frz_step {K : KW} {g : Gh} {m : Mm} {H : Hp} {s : Sl} {σ : L2.St} {i n : Nat} {xs : List PV} (em : Emb K g m H) (sr : Sr K g H s σ) (h1 : s[i]? = some (some (.ref n))) (h2 : m[n]? = some (.lst xs)) :
    ∃ g', Ext g H g' H ∧ Emb K g' (m.set n .dead) H ∧ Sr K g' H (s.set i (some (.vl xs))) σ := by
  obtain ⟨w, hw, rw'⟩ := sr.at_ i _ h1
  obtain ⟨a, rfl, hn⟩ := rw'.ref_inv
  obtain ⟨g', x, e', rv⟩ := em.freeze h2 hn
  refine ⟨g', x, e', ⟨by rw [List.length_set]; exact sr.len, fun j v hv => ?_⟩⟩
  by_cases hj : i = j
  · subst hj
    have hi : i < s.length := (List.getElem?_eq_some_iff.mp h1).1
    rw [List.getElem?_set_self hi] at hv
    cases hv
    exact ⟨_, hw, rv⟩
  · rw [List.getElem?_set_ne hj] at hv
    obtain ⟨u, h3, h4⟩ := sr.at_ j v hv
    exact ⟨u, h3, h4.ext em x⟩
theorem ss_frz {sts : List Stmt} (i : Nat) (h1 : PSs X sts (rdS X.kw Ξ f)) : PSs X sts (rdS X.kw Ξ (sSeq (sFrz i) f)) :=
  PSs_imp h1 fun D σ H ⟨g, s, m, em, sr, q⟩ => by
    simp only [sSeq, sFrz] at q
    split at q
    · rename_i n hn
      split at q
      · rename_i xs hx
        obtain ⟨g', x, e', sr'⟩ := frz_step em sr hn hx
        exact ⟨g', _, _, e', sr', QS.later x q⟩
      · exact q.elim
    · exact q.elim
theorem ss_expr (he : PE X e (rdE X.kw Ξ fa)) (hs : swapsWith e none pos.line X.env = pure false := by rfl) : PS X (.Expr e pos) (rdS X.kw Ξ (sExpr fa)) :=
  PS_imp (ps_expr he hs) fun D σ H ⟨g, s, m, em, sr, q⟩ =>
    ⟨g, s, m, em, sr, QR.bind q fun p hp q1 g1 H1 V x1 e1 r1 => QS_nx e1 (sr.ext em x1) (QS.later x1 q1)⟩
theorem ss_ret (he : PE X e (rdE X.kw Ξ fa)) : PS X (.Return (some e) pos) (rdS X.kw Ξ (sRet fa)) :=
  PS_imp (ps_ret he) fun D σ H ⟨g, s, m, em, sr, q⟩ =>
    ⟨g, s, m, em, sr, QR.bind q fun p hp q1 g1 H1 V x1 e1 r1 => q1 g1 H1 σ x1 e1 (sr.ext em x1) V r1⟩
theorem ss_retN : PS X (.Return none pos) (rdS X.kw Ξ sRetN) :=
  PS_imp ps_retN fun D σ H ⟨g, s, m, em, sr, q⟩ => q g H σ (Ext.refl _ _) em sr _ .non
theorem ss_pass : PS X (.Pass pos) (rdS X.kw Ξ sSkip) := PS_imp ps_pass fun D σ H ⟨g, s, m, em, sr, q⟩ => QS_nx em sr q
theorem ss_break : PS X (.Break pos) (rdS X.kw Ξ sBreak) := PS_imp ps_break fun D σ H ⟨g, s, m, em, sr, q⟩ => q g H σ (Ext.refl _ _) em sr
theorem ss_cont : PS X (.Continue pos) (rdS X.kw Ξ sCont) := PS_imp ps_continue fun D σ H ⟨g, s, m, em, sr, q⟩ => q g H σ (Ext.refl _ _) em sr
theorem ss_never : PS X st (rdS X.kw Ξ sNever) := PS_imp ps_never fun D σ H ⟨g, s, m, em, sr, q⟩ => q.elim
theorem ss_if {c : Expr} {b1 b2 : List Stmt} (hc : PT X c (rdT X.kw Ξ ft)) (ha : PSs X b1 (rdS X.kw Ξ f)) (hb : PSs X b2 (rdS X.kw Ξ h)) : PS X (.If c b1 b2 pos) (rdS X.kw Ξ (sIf ft f h)) :=
  PS_imp (ps_if hc ha hb) fun D σ H ⟨g, s, m, em, sr, q⟩ => by
    refine ⟨g, s, m, em, sr, QR.bind q fun p hp q1 g1 H1 x1 e1 => ?_⟩
    obtain ⟨k, m1⟩ := p
    cases k with
    | true => exact iteT ⟨g1, s, m1, e1, sr.ext em x1, QS.later x1 q1⟩
    | false => exact iteF ⟨g1, s, m1, e1, sr.ext em x1, QS.later x1 q1⟩
theorem ss_asg {tg : Expr} {fg : SG} (he : PE X e (rdE X.kw Ξ fa)) (hg : PG X tg (rdG X.kw Ξ fg)) (hs : swapsWithSole [tg] e pos.line X.env = pure false := by rfl) (hw : swappedStores [tg] e X.env = pure none := by rfl)
    (h1 : (assignEach [tg] X.env).map (·.2) = [assign tg X.env] := by rfl) : PS X (.Assign [tg] e pos) (rdS X.kw Ξ (sAsg fa fg)) :=
  PS_imp (ps_asg he hg hs hw h1) fun D σ H ⟨g, s, m, em, sr, q⟩ => by
    refine ⟨g, s, m, em, sr, QR.bind q fun p hp q1 g1 H1 V x1 e1 r1 => ?_⟩
    refine ⟨g1, s, p.2, p.1, e1, sr.ext em x1, r1, QR.bind (QS.later x1 q1) fun p2 hp2 q2 g2 H2 σ2 x2 e2 r2 => ?_⟩
    exact QS_nx e2 r2 (QS.later x2 q2)
theorem ss_set (i : Nat) {x : Str} {pos' : Pos} (hN : X.N.Nodup) (he : PE X e (rdE X.kw Ξ fa)) (hi : X.N[i]? = some x := by rfl) (hx : Loc X.env.scope x := by first | exact Or.inl rfl | exact Or.inr rfl) (hs : swapsWith e (some (.Name x pos')) pos.line X.env = pure false := by rfl) (hf : X.fn x = true ∨ X.env.scope.names.lookup x = some .local := by first | exact .inl rfl | exact .inr rfl | assumption) :
    PS X (.Assign [.Name x pos'] e pos) (rdS X.kw Ξ (sAsg fa (gName i))) :=
  PS_imp (ps_set hN hi hx he hs hf) fun D σ H ⟨g, s, m, em, sr, q⟩ => by
    refine ⟨g, s, m, em, sr, QR.bind q fun p hp q1 g1 H1 V x1 e1 r1 => ?_⟩
    exact QS_nx e1 ((sr.ext em x1).set r1 i) (QS.later x1 q1)
theorem ss_par2 (i j : Nat) {x y : Str} {px py pt : Pos} {kt k2 pt2} {fs : SA} (hc : X.calm = true) (hN : X.N.Nodup) (ha : PA X [a, b] (rdA X.kw Ξ fs)) (hi : X.N[i]? = some x := by rfl) (hj : X.N[j]? = some y := by rfl) (hij : i ≠ j := by decide)
    (hx : X.env.scope.names.lookup x = some .local := by rfl) (hy : X.env.scope.names.lookup y = some .local := by rfl)
    (hw : swappedStores [.Tuple [.Name x px, .Name y py] kt pt] (.Tuple [a, b] k2 pt2) X.env = pure (some [x, y]) := by rfl)
    (hs : swapsWithSole [.Tuple [.Name x px, .Name y py] kt pt] (.Tuple [a, b] k2 pt2) pos.line X.env = pure false := by rfl) :
    PS X (.Assign [.Tuple [.Name x px, .Name y py] kt pt] (.Tuple [a, b] k2 pt2) pos) (rdS X.kw Ξ (sPar2 i j fs)) :=
  PS_imp (ps_par hc hN hi hj hij hx hy ha hw hs) fun D σ H ⟨g, s, m, em, sr, q⟩ => by
    refine ⟨g, s, m, em, sr, QR.bind q fun p hp q1 g1 H1 V x1 e1 r1 => ?_⟩
    obtain ⟨xs, m1⟩ := p
    simp only at q1
    split at q1
    · rename_i u v
      cases r1 with
      | cons ra rb => cases rb with
        | cons rb rc =>
          cases rc
          exact ⟨_, _, rfl, QS_nx e1 (((sr.ext em x1).set ra i).set rb j) (QS.later x1 q1)⟩
    · exact q1.elim
theorem ss_par3 (i j l : Nat) {x y z : Str} {px py pz pt : Pos} {kt k2 pt2} {fs : SA} (hc : X.calm = true) (hN : X.N.Nodup) (ha : PA X [a, b, c] (rdA X.kw Ξ fs)) (hi : X.N[i]? = some x := by rfl) (hj : X.N[j]? = some y := by rfl) (hl : X.N[l]? = some z := by rfl) (hij : i ≠ j := by decide) (hil : i ≠ l := by decide) (hjl : j ≠ l := by decide)
    (hx : X.env.scope.names.lookup x = some .local := by rfl) (hy : X.env.scope.names.lookup y = some .local := by rfl) (hz : X.env.scope.names.lookup z = some .local := by rfl)
    (hw : swappedStores [.Tuple [.Name x px, .Name y py, .Name z pz] kt pt] (.Tuple [a, b, c] k2 pt2) X.env = pure (some [x, y, z]) := by rfl)
    (hs : swapsWithSole [.Tuple [.Name x px, .Name y py, .Name z pz] kt pt] (.Tuple [a, b, c] k2 pt2) pos.line X.env = pure false := by rfl) :
    PS X (.Assign [.Tuple [.Name x px, .Name y py, .Name z pz] kt pt] (.Tuple [a, b, c] k2 pt2) pos) (rdS X.kw Ξ (sPar3 i j l fs)) :=
  PS_imp (ps_par3 hc hN hi hj hl hij hil hjl hx hy hz ha hw hs) fun D σ H ⟨g, s, m, em, sr, q⟩ => by
    refine ⟨g, s, m, em, sr, QR.bind q fun p hp q1 g1 H1 V x1 e1 r1 => ?_⟩
    obtain ⟨xs, m1⟩ := p
    simp only at q1
    split at q1
    · cases r1 with
      | cons ra rb => cases rb with
        | cons rb rc => cases rc with
          | cons rc rd =>
            cases rd
            exact ⟨_, _, _, rfl, QS_nx e1 ((((sr.ext em x1).set ra i).set rb j).set rc l) (QS.later x1 q1)⟩
    · exact q1.elim

/-! ### while -/
theorem ss_while {body : List Stmt} (hp : PassesOwn (model X.prog X.w) X.A X.env X.xe) (hc : PT X c (rdT X.kw Ξ ft)) (hb : PSs X body (rdS X.kw Ξ f)) : PS X (.While c body [] pos) (rdS X.kw Ξ (sWhile ft f)) :=
  PS_imp (ps_while hp hc hb) fun D σ H ⟨g, s, m, em, sr, q⟩ => by
    refine ⟨fun n σ H => ∃ g s m, Emb X.kw g m H ∧ Sr X.kw g H s σ ∧ QS X.kw Ξ g H D (whileF ft f n s m), ⟨FUEL, g, s, m, em, sr, q⟩, ?_⟩
    rintro n σ1 H1 ⟨g1, s1, m1, e1, r1, q1⟩
    cases n with
    | zero => exact q1.elim
    | succ n =>
      refine ⟨g1, s1, m1, e1, r1, QR.bind q1 fun p hp q2 g2 H2 x2 e2 => ?_⟩
      obtain ⟨k, m2⟩ := p
      cases k with
      | false => exact iteF (QS_nx e2 (r1.ext e1 x2) (QS.later x2 q2))
      | true =>
        refine iteT ⟨fun σ' H' => ∃ g s m, Emb X.kw g m H' ∧ Sr X.kw g H' s σ' ∧ QS X.kw Ξ g H' D (whileF ft f n s m), fun σ' H' hN => ⟨n, Nat.lt_succ_self _, hN⟩, ?_⟩
        refine ⟨g2, s1, m2, e2, r1.ext e1 x2, QR.bind (QS.later x2 q2) fun p3 hp3 q3 g3 H3 σ3 x3 e3 r3 => ?_⟩
        obtain ⟨fl, s3, m3⟩ := p3
        cases fl with
        | nx => exact ⟨g3, s3, m3, e3, r3, QS.later x3 q3⟩
        | ct => exact ⟨g3, s3, m3, e3, r3, QS.later x3 q3⟩
        | bk => exact QS_nx e3 r3 (QS.later x3 q3)
        | rt v => exact q3 g3 H3 σ3 x3 e3 r3

/-! ### for -/
/-- the iterator walks these items, whatever the heap becomes -/
structure Wk (K : KW) (g : Gh) (H : Hp) (xs : List PV) (J : It) : Prop where
  go : ∀ g' m' H' i, Ext g H g' H' → Emb K g' m' H' → i < xs.length → J.go i H' ∧ ∀ x H2, J.yld i H' x H2 → ∃ g2 v, Ext g' H' g2 H2 ∧ Emb K g2 m' H2 ∧ xs[i]? = some v ∧ Rp K g2 H2 v x
  stop : ∀ g' m' H' i, Ext g H g' H' → Emb K g' m' H' → xs.length ≤ i → J.stop i H'
def rdI (K : KW) (Ξ : XC) (it : SI) : TI := fun σ H R => ∃ g s m, Emb K g m H ∧ Sr K g H s σ ∧ QR K Ξ g H (fun p => ∀ g' H' J, Ext g H g' H' → Emb K g' p.2 H' → Wk K g' H' p.1 J → R J H') (it s m)
theorem PI_imp {tg iter : Expr} {t t' : TI} (h : PI X tg iter t) (i : ∀ σ H R, t' σ H R → t σ H R) : PI X tg iter t' := ⟨fun pins s σ H R I q => h.run pins s σ H R I (i σ H R q)⟩
theorem ss_for {tg iter : Expr} {body : List Stmt} {it : SI} {fg : SG} (hp : PassesOwn (model X.prog X.w) X.A X.env X.xe) (hc : X.calm = true) (hi : PI X tg iter (rdI X.kw Ξ it)) (hg : PG X tg (rdG X.kw Ξ fg)) (hb : PSs X body (rdS X.kw Ξ f))
    (hs : ∀ x, foldedSetIterable iter X.env x = pure x := by intro _; rfl) : PS X (.For tg iter body [] pos) (rdS X.kw Ξ (sFor it fg f)) :=
  PS_imp (ps_for hp hc hi hg hb hs) fun D σ H ⟨g, s, m, em, sr, q⟩ => by
    refine ⟨g, s, m, em, sr, QR.bind q fun p hp q1 g1 H1 J x1 e1 wk => ?_⟩
    obtain ⟨xs, m1⟩ := p
    refine ⟨fun i n σ H => ∃ g s m, Ext g1 H1 g H ∧ Emb X.kw g m H ∧ Sr X.kw g H s σ ∧ n = xs.length - i ∧ QS X.kw Ξ g H D (forL fg f (xs.drop i) s m), ⟨xs.length, g1, s, m1, Ext.refl _ _, e1, sr.ext em x1, by simp, QS.later x1 (by simpa using q1)⟩, ?_⟩
    rintro i n σ2 H2 ⟨g2, s2, m2, x2, e2, r2, rfl, q2⟩
    by_cases hlt : i < xs.length
    · obtain ⟨h1, h2⟩ := wk.go g2 m2 H2 i x2 e2 hlt
      refine .inr ⟨h1, fun σ' H' => ∃ g s m, Ext g1 H1 g H' ∧ Emb X.kw g m H' ∧ Sr X.kw g H' s σ' ∧ QS X.kw Ξ g H' D (forL fg f (xs.drop (i + 1)) s m), ?_, ?_⟩
      · rintro σ' H' ⟨g', s', m', hx, he, hr, hq⟩
        exact ⟨xs.length - (i + 1), by omega, g', s', m', hx, he, hr, rfl, hq⟩
      · intro x H3 hy
        obtain ⟨g3, v, x3, e3, hv, rv⟩ := h2 x H3 hy
        have hd : xs.drop i = v :: xs.drop (i + 1) := by
          rw [List.drop_eq_getElem_cons hlt]
          rw [List.getElem?_eq_getElem hlt] at hv
          cases hv; rfl
        rw [hd] at q2
        refine ⟨g3, s2, m2, v, e3, r2.ext e2 x3, rv, QR.bind (QS.later x3 q2) fun p4 hp4 q4 g4 H4 σ4 x4 e4 r4 => ?_⟩
        refine ⟨g4, p4.1, p4.2, e4, r4, QR.bind (QS.later x4 q4) fun p5 hp5 q5 g5 H5 σ5 x5 e5 r5 => ?_⟩
        obtain ⟨fl, s5, m5⟩ := p5
        have xx : Ext g1 H1 g5 H5 := ((x2.trans x3).trans x4).trans x5
        cases fl with
        | nx => exact ⟨g5, s5, m5, xx, e5, r5, QS.later x5 q5⟩
        | ct => exact ⟨g5, s5, m5, xx, e5, r5, QS.later x5 q5⟩
        | bk => exact QS_nx e5 r5 (QS.later x5 q5)
        | rt v => exact q5 g5 H5 σ5 x5 e5 r5
    · have hle : xs.length ≤ i := Nat.le_of_not_lt hlt
      refine .inl ⟨wk.stop g2 m2 H2 i x2 e2 hle, ?_⟩
      rw [List.drop_of_length_le hle] at q2
      exact QS_nx e2 r2 q2

/-! what is walked -/
theorem wk_vl {g : Gh} {H : Hp} {xs : List PV} {a : Addr} {vs : List V} (ha : g.ro a = some (.lst vs)) (r : Rps K g H xs vs) {m : Mm} (em : Emb K g m H) : Wk K g H xs (Itl K a) := by
  refine ⟨fun g' m' H' i x' e' hi => ?_, fun g' m' H' i x' e' hi => ?_⟩
  · have h1 : H' a = some (.lst vs) := (e'.ro _ _ (x'.ro _ _ ha)).1
    have r' := r.ext em x'
    have hlt : i < vs.length := by rw [← r.length]; exact hi
    refine ⟨⟨vs, vs[i], SqL.of h1, List.getElem?_eq_getElem hlt⟩, fun x H2 ⟨e2, hy⟩ => ?_⟩
    subst e2
    have hx := hy vs (SqL.of h1)
    obtain ⟨v, hv, rv⟩ := r'.get' hx
    exact ⟨g', v, Ext.refl _ _, e', hv, rv⟩
  · have h1 : H' a = some (.lst vs) := (e'.ro _ _ (x'.ro _ _ ha)).1
    exact ⟨vs, SqL.of h1, by rw [← r.length]; exact hi⟩
theorem wk_tup {g : Gh} {H : Hp} {xs : List PV} {a : Addr} {vs : List V} (ha : SqT K H a vs) (r : Rps K g H xs vs) {m : Mm} (em : Emb K g m H) : Wk K g H xs (Itt K a) := by
  refine ⟨fun g' m' H' i x' e' hi => ?_, fun g' m' H' i x' e' hi => ?_⟩
  · have h1 := em.sqT x' ha
    have r' := r.ext em x'
    have hlt : i < vs.length := by rw [← r.length]; exact hi
    refine ⟨⟨vs, vs[i], h1, List.getElem?_eq_getElem hlt⟩, fun x H2 ⟨e2, hy⟩ => ?_⟩
    subst e2
    have hx := hy vs h1
    obtain ⟨v, hv, rv⟩ := r'.get' hx
    exact ⟨g', v, Ext.refl _ _, e', hv, rv⟩
  · exact ⟨vs, em.sqT x' ha, by rw [← r.length]; exact hi⟩
theorem rngL_len : ∀ (n : Nat) (lo : Int), (rngL lo n).length = n
  | 0, _ => rfl
  | n + 1, lo => by rw [rngL, List.length_cons, rngL_len n]
theorem rngL_get : ∀ (n : Nat) (lo : Int) (i : Nat), i < n → (rngL lo n)[i]? = some (.int (lo + i))
  | 0, _, i, h => absurd h (Nat.not_lt_zero i)
  | n + 1, lo, 0, _ => by simp [rngL]
  | n + 1, lo, i + 1, h => by
    rw [rngL, List.getElem?_cons_succ, rngL_get n (lo + 1) i (Nat.lt_of_succ_lt_succ h)]
    have : lo + 1 + (i : Int) = lo + ((i + 1 : Nat) : Int) := by omega
    rw [this]
theorem wk_rng {g : Gh} {H : Hp} {lo : Int} {n : Nat} : Wk K g H (rngL lo n) (Itr lo n) := by
  refine ⟨fun g' m' H' i x' e' hi => ?_, fun g' m' H' i x' e' hi => ?_⟩
  · rw [rngL_len] at hi
    refine ⟨hi, fun x H2 ⟨e2, hy⟩ => ?_⟩
    subst e2
    subst hy
    exact ⟨g', _, Ext.refl _ _, e', rngL_get n lo i hi, .int _⟩
  · rw [rngL_len] at hi; exact hi
variable {tg : Expr}
/-- a list, by a value -/
theorem si_list (h : PE X e (rdE X.kw Ξ fa)) : PI X tg e (rdI X.kw Ξ (iL fa)) :=
  PI_imp (pi_list h) fun σ H R ⟨g, s, m, em, sr, q⟩ => by
    refine ⟨g, s, m, em, sr, QR.bind q fun p hp q1 g1 H1 V x1 e1 r1 => ?_⟩
    obtain ⟨v, m1⟩ := p
    cases v with
    | vl xs => cases r1 with
      | vl ha rr => exact ⟨_, rfl, ⟨_, SqL.of (e1.ro _ _ ha).1⟩, q1 g1 H1 _ x1 e1 (wk_vl ha rr e1)⟩
    | _ => exact q1.elim
theorem si_tup (h : PE X e (rdE X.kw Ξ fa)) : PI X tg e (rdI X.kw Ξ (iT fa)) :=
  PI_imp (pi_tup h) fun σ H R ⟨g, s, m, em, sr, q⟩ => by
    refine ⟨g, s, m, em, sr, QR.bind q fun p hp q1 g1 H1 V x1 e1 r1 => ?_⟩
    obtain ⟨v, m1⟩ := p
    cases v with
    | tup xs => cases r1 with
      | tup ha rr => exact ⟨_, rfl, ⟨_, ha⟩, q1 g1 H1 _ x1 e1 (wk_tup ha rr e1)⟩
    | _ => exact q1.elim
theorem si_rng1 {p p2 : Pos} (hg : Gl X "range") (hm : X.mg "range" = none) (h : PE X e (rdE X.kw Ξ fa)) (hs : starEach [e] X.env = [(false, eval e X.env)] := by rfl) : PI X tg (.Call (.Name "range" p) [e] [] p2) (rdI X.kw Ξ (TT.iRng1 fa)) :=
  PI_imp (pi_range1 hg hm (pa_cons h pa_nil hs) hs) fun σ H R ⟨g, s, m, em, sr, q⟩ => by
    refine ⟨g, s, m, em, sr, QR.bind q fun p hp q1 g1 H1 V x1 e1 r1 => ?_⟩
    obtain ⟨v, m1⟩ := p
    cases v with
    | int j =>
      cases r1.int_inv
      simp only at q1
      split at q1
      · rename_i hc
        simp only [Bool.and_eq_true, decide_eq_true_eq] at hc
        have p62 : P62 = 2 ^ 62 := by decide
        rw [p62] at hc
        exact ⟨j, rfl, hc.1, hc.2, q1 g1 H1 _ x1 e1 wk_rng⟩
      · exact q1.elim
    | _ => exact q1.elim
theorem si_rng2 {p p2 : Pos} (hg : Gl X "range") (hm : X.mg "range" = none) (h : PE X a (rdE X.kw Ξ fa)) (h' : PE X b (rdE X.kw Ξ fb)) (hs : starEach [a, b] X.env = [(false, eval a X.env), (false, eval b X.env)] := by rfl) (hs2 : starEach [b] X.env = [(false, eval b X.env)] := by rfl) : PI X tg (.Call (.Name "range" p) [a, b] [] p2) (rdI X.kw Ξ (TT.iRng2 fa fb)) :=
  PI_imp (pi_range2 hg hm (pa_cons h (pa_cons h' pa_nil hs2) (by rw [hs, hs2])) hs hs2) fun σ H R ⟨g, s, m, em, sr, q⟩ => by
    refine ⟨g, s, m, em, sr, QR.bind q fun p hp q1 g1 H1 V x1 e1 r1 => ?_⟩
    refine ⟨g1, s, p.2, e1, sr.ext em x1, QR.bind (QR.later x1 q1 fun _ q g' H' J x => q g' H' J (x1.trans x)) fun p2 hp2 q2 g2 H2 W x2 e2 r2 => ?_⟩
    obtain ⟨v, m1⟩ := p
    obtain ⟨u, m2⟩ := p2
    simp only at q2
    split at q2
    · rename_i i j
      cases r1.int_inv; cases r2.int_inv
      split at q2
      · rename_i hc
        simp only [Bool.and_eq_true, decide_eq_true_eq] at hc
        have p62 : P62 = 2 ^ 62 := by decide
        rw [p62] at hc
        exact ⟨i, j, rfl, ⟨hc.1.1.1, hc.1.1.2, hc.1.2, hc.2⟩, q2 g2 H2 _ x2 e2 wk_rng⟩
      · exact q2.elim
    · exact q2.elim
end
end
end TT
end

section
set_option Elab.async false
set_option linter.all false
set_option autoImplicit false
set_option maxRecDepth 100000
/-! TT: comprehensions, calls, defs -/
namespace TT
open PySem PySem.Spec PyProof.Rows L2
abbrev X0 : XC := fun _ _ _ _ => False
section
variable {X : Cx} {Ξ : XC} {a b c e o : Expr} {es : List Expr} {pos : Pos} {fa fb fc : SE} {ft : ST} {K : KW}
theorem QR.nx {g : Gh} {H : Hp} {α : Type} {P : α → Prop} {r : Rs α} (h : QR K Ξ g H P r.nx) : QR K X0 g H P r := by
  cases r with
  | ok a => exact h
  | ex e m => exact h.elim
  | no => exact h
theorem QR.nxAt {g g1 : Gh} {H H1 : Hp} {α β : Type} {r : Rs α} {k : α → Rs β} {P : β → Prop} {P' : α → Prop} (h : QR K Ξ g1 H1 P (r.nx.bind k)) (f : ∀ a, r = .ok a → QR K Ξ g1 H1 P (k a) → P' a) : QR K X0 g H P' r := by
  cases r with
  | ok a => exact f a rfl h
  | ex e m => exact h.elim
  | no => exact h

/-! ### comprehensions -/
mutual
theorem Rp.mono {g g' : Gh} {H H' : Hp} (h1 : ∀ n a, g.φ n = some a → g'.φ n = some a) (h2 : ∀ a u, g.ro a = some u → g'.ro a = some u) (h3 : ∀ a xs, SqT K H a xs → SqT K H' a xs) : ∀ {v : PV} {w : V}, Rp K g H v w → Rp K g' H' v w
  | _, _, .non => .non
  | _, _, .bl b => .bl b
  | _, _, .int i => .int i
  | _, _, .str l => .str l
  | _, _, .tup h r => .tup (h3 _ _ h) (Rps.mono h1 h2 h3 r)
  | _, _, .vl h r => .vl (h2 _ _ h) (Rps.mono h1 h2 h3 r)
  | _, _, .fz h r => .fz (sqL_mono h2 h) (Rps.mono h1 h2 h3 r)
  | _, _, .ref h => .ref (h1 _ _ h)
  | _, _, .fn a => .fn a
theorem Rps.mono {g g' : Gh} {H H' : Hp} (h1 : ∀ n a, g.φ n = some a → g'.φ n = some a) (h2 : ∀ a u, g.ro a = some u → g'.ro a = some u) (h3 : ∀ a xs, SqT K H a xs → SqT K H' a xs) : ∀ {v : List PV} {w : List V}, Rps K g H v w → Rps K g' H' v w
  | _, _, .nil => .nil
  | _, _, .cons h r => .cons (Rp.mono h1 h2 h3 h) (Rps.mono h1 h2 h3 r)
end
theorem Emb.other {g : Gh} {m : Mm} {H : Hp} (e : Emb K g m H) {D : Addr} {o : HO} (h1 : ∀ n, g.φ n ≠ some D) (h2 : g.ro D = none) (h3 : ∀ xs, ¬ Rd H D (.tup xs)) (h4 : LamX.Tabs g.T (upd H D o)) : Emb K g m (upd H D o) ∧ ∀ {v w}, Rp K g H v w → Rp K g (upd H D o) v w := by
  have hT : ∀ a xs, SqT K H a xs → SqT K (upd H D o) a xs := fun a xs h => by
    rcases h with h | h
    · have : a ≠ D := fun z => h3 xs (by rw [← z]; exact h)
      rcases h with h | ⟨ob, h⟩
      · exact .inl (.inl (by rw [upd_ne this]; exact h))
      · exact .inl (.inr ⟨ob, by rw [upd_ne this]; exact h⟩)
    · exact .inr h
  have key : ∀ (v : PV) (w : V), Rp K g H v w → Rp K g (upd H D o) v w := fun v w r => r.mono (fun _ _ h => h) (fun _ _ h => h) hT
  have keys : ∀ (v : List PV) (w : List V), Rps K g H v w → Rps K g (upd H D o) v w := fun v w r => r.mono (fun _ _ h => h) (fun _ _ h => h) hT
  refine ⟨⟨fun n ob h => ?_, fun n a h => ?_, e.inj, fun a u h => ?_, e.nt, h4⟩, fun {v w} r => key v w r⟩
  · have q := e.obj n ob h
    cases ob with
    | lst ys =>
      obtain ⟨a, ws, q1, q2, q3⟩ := q
      exact ⟨a, ws, q1, by rw [upd_ne (fun z => h1 n (by rw [← z]; exact q1))]; exact q2, keys _ _ q3⟩
    | dict ys =>
      obtain ⟨a, ws, q1, q2, q3⟩ := q
      exact ⟨a, ws, q1, by rw [upd_ne (fun z => h1 n (by rw [← z]; exact q1))]; exact q2, q3.imp (key _ _)⟩
    | kd ys =>
      obtain ⟨a, ws, q1, q2, q3⟩ := q
      exact ⟨a, ws, q1, by rw [upd_ne (fun z => h1 n (by rw [← z]; exact q1))]; exact q2, q3.imp (key _ _)⟩
    | kl ys =>
      obtain ⟨a, o, ws, q1, q2, q3⟩ := q
      exact ⟨a, o, ws, q1, q2, q3.imp (key _ _)⟩
    | dead => trivial
    | tab P l => exact q
  · obtain ⟨q1, u, q2, q3⟩ := e.dom n a h
    exact ⟨q1, u, by rw [upd_ne (fun z => h1 n (by rw [← z]; exact h))]; exact q2, q3⟩
  · obtain ⟨q1, q2⟩ := e.ro a u h
    exact ⟨by rw [upd_ne (fun z => by rw [z, h2] at h; cases h)]; exact q1, q2⟩
theorem Ext.other {g g' : Gh} {H H' : Hp} {D : Addr} {o : HO} (x : Ext g H g' H') (hD : H D = none) : Ext g H g' (upd H' D o) :=
  ⟨x.phi, x.ro, fun a u h n t => by rw [upd_ne (ne_of_none h hD)]; exact x.fr a u h n t, x.old, x.oldr, x.T⟩
theorem rps_of_rp {g : Gh} {H H' : Hp} (f : ∀ {v w}, Rp K g H v w → Rp K g H' v w) : ∀ {v : List PV} {w : List V}, Rps K g H v w → Rps K g H' v w
  | _, _, .nil => .nil
  | _, _, .cons a b => .cons (f a) (rps_of_rp f b)
theorem sr_of_rp {g : Gh} {H H' : Hp} {s : Sl} {σ : L2.St} (f : ∀ {v w}, Rp K g H v w → Rp K g H' v w) (r : Sr K g H s σ) : Sr K g H' s σ :=
  ⟨r.len, fun i v h => let ⟨w, h1, h2⟩ := r.at_ i v h; ⟨w, h1, f h2⟩⟩
/-- a comprehension's reading, from its function -/
theorem rd_lc {own : List Nat} {it : SI} {fg : SG} {ft : ST} {fe : SE} {tg : TG} {σ : L2.St} {H : Hp} {Q : VK}
    (hw : ∀ (v : V) (σ : L2.St) (H : Hp) (Q : L2.St → Hp → Prop), rdG K X0 fg v (L2.wipe σ own) H Q → tg v (L2.wipe σ own) H fun (σ2 : L2.St) H2 => L2.wipe σ2 own = L2.wipe σ own ∧ Q σ2 H2)
    (h : rdE K Ξ (eLc own it fg ft fe) σ H Q) : tLc (rdI K Ξ it) tg (rdT K X0 ft) (rdE K X0 fe) own σ H Q := by
  obtain ⟨g, s, m, em, sr, q⟩ := h
  refine ⟨g, s, m, em, sr, QR.bind q fun p hp q1 g1 H1 J x1 e1 wk => ?_⟩
  obtain ⟨xs, m1⟩ := p
  intro D hD
  have q1' : QE K Ξ g1 H1 Q ((lcL fg ft fe (TT.wipe s own) xs m1 []).bind fun p => Rs.ok (PV.vl p.1, p.2)) := QE.later x1 q1
  have e0 := e1.other (o := .lst []) (fun n => e1.free hD n) (e1.freeR hD) (fun xs h => by rcases h with h | ⟨ob, h⟩ <;> rw [hD] at h <;> cases h) (tabs_new e1.tab hD)
  refine ⟨fun i n H => ∃ g m acc ws, Ext g1 H1 g H ∧ Emb K g m H ∧ Sr K g H (TT.wipe s own) (L2.wipe σ own) ∧ H D = some (.lst ws) ∧ Rps K g H acc ws ∧ (∀ n, g.φ n ≠ some D) ∧ g.ro D = none ∧ n = xs.length - i ∧
      QE K Ξ g1 H1 Q ((lcL fg ft fe (TT.wipe s own) (xs.drop i) m acc).bind fun p => Rs.ok (PV.vl p.1, p.2)), ⟨xs.length, g1, m1, [], [], (Ext.refl _ _).other hD, e0.1, sr_of_rp e0.2 ((sr.ext em x1).wipe own), upd_same, .nil, fun n => e1.free hD n, e1.freeR hD, by simp, by simpa using q1'⟩, ?_⟩
  rintro i n H2 ⟨g2, m2, acc, ws, x2, e2, r2, hD2, ra, f1, f2, rfl, q2⟩
  by_cases hlt : i < xs.length
  · obtain ⟨h1, h2⟩ := wk.go g2 m2 H2 i x2 e2 hlt
    refine .inr ⟨h1, fun H' => ∃ g m acc ws, Ext g1 H1 g H' ∧ Emb K g m H' ∧ Sr K g H' (TT.wipe s own) (L2.wipe σ own) ∧ H' D = some (.lst ws) ∧ Rps K g H' acc ws ∧ (∀ n, g.φ n ≠ some D) ∧ g.ro D = none ∧
      QE K Ξ g1 H1 Q ((lcL fg ft fe (TT.wipe s own) (xs.drop (i + 1)) m acc).bind fun p => Rs.ok (PV.vl p.1, p.2)), ?_, ?_⟩
    · rintro H' ⟨g', m', acc', ws', hx, he, hr, hd, ha, hf1, hf2, hq⟩
      exact ⟨xs.length - (i + 1), by omega, g', m', acc', ws', hx, he, hr, hd, ha, hf1, hf2, rfl, hq⟩
    · intro x H3 hy
      obtain ⟨g3, v, x3, e3, hv, rv⟩ := h2 x H3 hy
      have hd : xs.drop i = v :: xs.drop (i + 1) := by
        rw [List.drop_eq_getElem_cons hlt]
        rw [List.getElem?_eq_getElem hlt] at hv
        cases hv; rfl
      rw [hd] at q2
      simp only [lcL] at q2
      -- the bind of the whole
      have reb : ∀ {α β γ : Type} (r : Rs α) (k : α → Rs β) (l : β → Rs γ), (r.bind k).bind l = r.bind fun a => (k a).bind l := fun r k l => by cases r <;> rfl
      rw [reb] at q2
      have nL : ∀ {zs : List V}, NT (.lst zs) := fun ps z => nomatch z
      have r3 := r2.ext e2 x3
      have a3 := ra.ext e2 x3
      have d3 := x3.fr _ _ hD2 f1 nL
      have f13 := x3.old _ _ hD2 f1 nL
      have f23 := x3.oldr _ _ hD2 f1 nL f2
      have xx3 := x2.trans x3
      refine hw x σ H3 _ ⟨g3, _, m2, v, e3, r3, rv, QR.nxAt q2 fun p4 hp4 q4 g4 H4 σ4 x4 e4 r4 => ?_⟩
      obtain ⟨s4, m4⟩ := p4
      simp only at q4
      rw [reb] at q4
      have a4 := a3.ext e3 x4
      have d4 := x4.fr _ _ d3 f13 nL
      have f14 := x4.old _ _ d3 f13 nL
      have f24 := x4.oldr _ _ d3 f13 nL f23
      have w4 := r3.ext e3 x4
      have xx4 := xx3.trans x4
      refine ⟨g4, s4, m4, e4, r4, QR.nxAt q4 fun p5 hp5 q5 g5 H5 x5 e5 => ?_⟩
      obtain ⟨k, m5⟩ := p5
      have a5 := a4.ext e4 x5
      have d5 := x5.fr _ _ d4 f14 nL
      have f15 := x5.old _ _ d4 f14 nL
      have f25 := x5.oldr _ _ d4 f14 nL f24
      have w5 := w4.ext e4 x5
      have xx5 := xx4.trans x5
      cases k with
      | false =>
        refine iteF ⟨g5, m5, acc, ws, xx5, e5, w5, d5, a5, f15, f25, ?_⟩
        simpa using q5
      | true =>
        simp only [if_true] at q5
        rw [reb] at q5
        refine iteT ⟨g5, s4, m5, e5, r4.ext e4 x5, QR.nxAt q5 fun p6 hp6 q6 g6 H6 y x6 e6 ry => ?_⟩
        obtain ⟨pv, m6⟩ := p6
        simp only at q6
        have a6 := a5.ext e5 x6
        have d6 := x6.fr _ _ d5 f15 nL
        have f16 := x6.old _ _ d5 f15 nL
        have f26 := x6.oldr _ _ d5 f15 nL f25
        have w6 := w5.ext e5 x6
        have xx6 := xx5.trans x6
        by_cases hl : acc.length < LINE
        · rw [if_pos hl] at q6
          have hno : ∀ xs, ¬ Rd H6 D (.tup xs) := fun xs h => by rcases h with h | ⟨ob, h⟩ <;> rw [d6] at h <;> cases h
          have e7 := e6.other (o := .lst (ws ++ [y])) f16 f26 hno (tabs_wr e6.tab d6 nL (fun _ z => nomatch z))
          refine ⟨ws, d6, by rw [← ra.length]; exact line_lt hl, g6, m6, acc ++ [pv], ws ++ [y], xx6.other hD, e7.1, sr_of_rp e7.2 w6, upd_same, rps_of_rp e7.2 (a6.append (.cons ry .nil)), f16, f26, q6⟩
        · rw [if_neg hl] at q6
          exact q6.elim
  · have hle : xs.length ≤ i := Nat.le_of_not_lt hlt
    refine .inl ⟨wk.stop g2 m2 H2 i x2 e2 hle, ?_⟩
    rw [List.drop_of_length_le hle] at q2
    have q3 : QE K Ξ g1 H1 Q (.ok (.vl acc, m2)) := q2
    have hro : ∀ a u, g2.ro a = some u → (g2.addR D (.lst ws)).ro a = some u := fun a u h => by
      have : a ≠ D := fun z => by subst z; rw [f2] at h; cases h
      show upd g2.ro D _ a = some u
      rw [upd_ne this]; exact h
    have x3 : Ext g1 H1 (g2.addR D (.lst ws)) H2 := ⟨x2.phi, fun a u h => hro a u (x2.ro a u h), x2.fr, x2.old, fun a u h hn ht hr => by
      show upd g2.ro D _ a = none
      rw [upd_ne (ne_of_none h hD)]
      exact x2.oldr a u h hn ht hr, x2.T⟩
    have e3 : Emb K (g2.addR D (.lst ws)) m2 H2 := by
      refine ⟨fun n ob h => ?_, e2.dom, e2.inj, fun a u h => ?_, nt_addR e2.nt, e2.tab⟩
      · have q := e2.obj n ob h
        cases ob with
        | lst ys =>
          obtain ⟨a, us, q1, q2, q3⟩ := q
          exact ⟨a, us, q1, q2, Rps.mono (g := g2) (g' := g2.addR D (.lst ws)) (fun _ _ h => h) hro (fun _ _ h => h) q3⟩
        | dict ys =>
          obtain ⟨a, us, q1, q2, q3⟩ := q
          exact ⟨a, us, q1, q2, RKs.imp (g' := g2.addR D (.lst ws)) (fun r => Rp.mono (g := g2) (g' := g2.addR D (.lst ws)) (fun _ _ h => h) hro (fun _ _ h => h) r) q3⟩
        | kd ys =>
          obtain ⟨a, us, q1, q2, q3⟩ := q
          exact ⟨a, us, q1, q2, RND.imp (g' := g2.addR D (.lst ws)) (fun r => Rp.mono (g := g2) (g' := g2.addR D (.lst ws)) (fun _ _ h => h) hro (fun _ _ h => h) r) q3⟩
        | kl ys =>
          obtain ⟨a, o, us, q1, q2, q3⟩ := q
          exact ⟨a, o, us, q1, hro _ _ q2, RND.imp (g' := g2.addR D (.lst ws)) (fun r => Rp.mono (g := g2) (g' := g2.addR D (.lst ws)) (fun _ _ h => h) hro (fun _ _ h => h) r) q3⟩
        | dead => trivial
        | tab P l => exact q
      · have h' : upd g2.ro D (.lst ws) a = some u := h
        by_cases ha : a = D
        · subst ha
          rw [upd_same] at h'; cases h'
          exact ⟨hD2, fun n hn => (f1 n hn).elim⟩
        · rw [upd_ne ha] at h'
          exact e2.ro a u h'
    exact q3 _ _ _ x3 e3 (.vl upd_same (Rps.mono (g := g2) (g' := g2.addR D (.lst ws)) (fun _ _ h => h) hro (fun _ _ h => h) ra))
theorem wipe_set {σ : L2.St} {i : Nat} {x : Option V} : ∀ {own : List Nat}, i ∈ own → L2.wipe ((L2.wipe σ own).set i x) own = L2.wipe σ own := by
  intro own hi
  apply List.ext_getElem?
  intro j
  have hw : ∀ (σ : L2.St) (own : List Nat) (j : Nat), (L2.wipe σ own)[j]? = if j ∈ own then (if j < σ.length then some none else none) else σ[j]? := by
    intro σ own
    induction own with
    | nil => intro j; simp [L2.wipe]
    | cons v vs ih =>
      intro j
      unfold L2.wipe
      by_cases hv : v = j
      · subst hv
        simp only [List.mem_cons, true_or, if_true]
        by_cases hl : v < σ.length
        · rw [List.getElem?_set_self (by rw [L2.wipe_length]; exact hl), if_pos hl]
        · rw [List.getElem?_eq_none (by rw [List.length_set, L2.wipe_length]; omega), if_neg hl]
      · rw [List.getElem?_set_ne hv, ih j]
        simp only [List.mem_cons, Ne.symm hv, false_or]
  rw [hw, hw]
  by_cases hj : j ∈ own
  · rw [if_pos hj, if_pos hj, List.length_set, L2.wipe_length]
  · rw [if_neg hj, if_neg hj, List.getElem?_set_ne (fun z => hj (by rw [← z]; exact hi)), hw, if_neg hj]
/-- [e for x in xs if t], one name -/
theorem rd_lcN {own : List Nat} {it : SI} {i : Nat} {ft : ST} {fe : SE} (hi : i ∈ own) {σ : L2.St} {H : Hp} {Q : VK}
    (h : rdE K Ξ (eLc own it (TT.gName i) ft fe) σ H Q) : tLc (rdI K Ξ it) (L2.gName i) (rdT K X0 ft) (rdE K X0 fe) own σ H Q :=
  rd_lc (fun v σ H Q ⟨g, s, m, pv, em, sr, rv, q⟩ =>
    ⟨wipe_set hi, q g H _ (Ext.refl _ _) em (sr.set rv i)⟩) h
theorem se_lc {elt iter : Expr} {ifs : List Expr} {scope : Scope} {own : List (Str × Nat)} {oi : List Nat} {x : Str} {px : Pos} {it : SI} (i : Nat) {fe : SE} (hc : X.calm = true) (hN : X.N.Nodup) (hi : PI X (.Name x px) iter (rdI X.kw Ξ it)) (ok : BlkOk X.N X.env.scope scope own)
    (hg : ∀ (s : Shared) (H : Hp) (C : Addr) (cl : List (Str × Addr)) (fp : List Addr), PG (X.blk s H scope (compEnvC scope cl C X.env) fp) (.Name x px) (L2.gName i)) (ht : ∀ (s : Shared) (H : Hp) (C : Addr) (cl : List (Str × Addr)) (fp : List Addr), PTs (X.blk s H scope (compEnvC scope cl C X.env) fp) ifs (rdT X.kw X0 ft))
    (he : ∀ (s : Shared) (H : Hp) (C : Addr) (cl : List (Str × Addr)) (fp : List Addr), PE (X.blk s H scope (compEnvC scope cl C X.env) fp) elt (rdE X.kw X0 fe)) (hs : ∀ x, foldedSetIterable iter X.env x = pure x := by intro _; rfl) (ho : own.map (·.2) = oi := by rfl) (hm : i ∈ own.map (·.2) := by decide) :
    PE X (.ListComp elt [⟨.Name x px, iter, ifs, 0⟩] scope pos) (rdE X.kw Ξ (eLc oi it (TT.gName i) ft fe)) := by
  subst ho
  exact PE_imp (pe_lc hc hN hi ok hg ht he hs) fun σ H Q h => rd_lcN hm h
/-- y = [..] -/
theorem ss_setLc {elt iter : Expr} {ifs : List Expr} {scope : Scope} {own : List (Str × Nat)} {oi : List Nat} {x y : Str} {px py spos : Pos} {it : SI} (iy i : Nat) {fe : SE} (hc : X.calm = true) (hN : X.N.Nodup) (hi : PI X (.Name x px) iter (rdI X.kw Ξ it)) (ok : BlkOk X.N X.env.scope scope own)
    (hg : ∀ (s : Shared) (H : Hp) (C : Addr) (cl : List (Str × Addr)) (fp : List Addr), PG (X.blk s H scope (compEnvC scope cl C X.env) fp) (.Name x px) (L2.gName i)) (ht : ∀ (s : Shared) (H : Hp) (C : Addr) (cl : List (Str × Addr)) (fp : List Addr), PTs (X.blk s H scope (compEnvC scope cl C X.env) fp) ifs (rdT X.kw X0 ft))
    (he : ∀ (s : Shared) (H : Hp) (C : Addr) (cl : List (Str × Addr)) (fp : List Addr), PE (X.blk s H scope (compEnvC scope cl C X.env) fp) elt (rdE X.kw X0 fe)) (hsw : swapsWith (.ListComp elt [⟨.Name x px, iter, ifs, 0⟩] scope pos) (some (.Name y py)) spos.line X.env = pure true)
    (hy : X.N[iy]? = some y := by rfl) (hyl : X.env.scope.names.lookup y = some .local := by rfl) (hs : ∀ x, foldedSetIterable iter X.env x = pure x := by intro _; rfl) (ho : own.map (·.2) = oi := by rfl) (hm : i ∈ own.map (·.2) := by decide) :
    PS X (.Assign [.Name y py] (.ListComp elt [⟨.Name x px, iter, ifs, 0⟩] scope pos) spos) (rdS X.kw Ξ (sAsg (eLc oi it (TT.gName i) ft fe) (TT.gName iy))) := by
  subst ho
  exact PS_imp (ps_setLc hc hN hy hyl hsw hi ok hg ht he hs) fun D σ H ⟨g, s, m, em, sr, q⟩ => by
    refine rd_lcN (Ξ := Ξ) hm ⟨g, s, m, em, sr, QR.bind q fun p hp q1 g1 H1 V x1 e1 r1 => ?_⟩
    exact QS_nx e1 ((sr.ext em x1).set r1 iy) (QS.later x1 q1)
theorem sts_nil : PTs X [] (rdT X.kw Ξ TT.tYes) := ⟨fun pins s σ H Q I ⟨g, sl, m, em, sr, q⟩ => pts_nil.run pins s σ H Q I (q g H (Ext.refl _ _) em)⟩
theorem sts_one (h : PT X c (rdT X.kw Ξ ft)) : PTs X [c] (rdT X.kw Ξ ft) := pts_one h

/-! ### defs -/
/-- what a def promises: by the whole memory -/
def spI (K : KW) (n : Nat) (F : IF) : Sp := fun vs H Q _ => ∃ g m as, as.length = n ∧ Emb K g m H ∧ Rps K g H as vs ∧ QE K X0 g H Q (cI F as m)
/-- .. by values -/
def spP (K : KW) (n : Nat) (F : PF) : Sp := fun vs H Q _ => ∃ g m as, as.length = n ∧ Emb K g m H ∧ Rps K g H as vs ∧ QE K X0 g H Q (cP F as m)
theorem spI_len {K : KW} {n : Nat} {F : IF} {vs : List V} {H : Hp} {Q : VK} {E : XK} (h : spI K n F vs H Q E) : vs.length = n := by
  obtain ⟨g, m, as, hl, _, r, _⟩ := h
  rw [← r.length, hl]
theorem start_sr {g : Gh} {H : Hp} {N : List Str} {as : List PV} {vs : List V} (r : Rps K g H as vs) (hl : as.length ≤ N.length) : Sr K g H (startS N.length as) (L2.start N vs) := by
  refine ⟨?_, fun i v h => ?_⟩
  · unfold startS L2.start
    simp [r.length]
  · unfold startS at h
    unfold L2.start
    by_cases hi : i < as.length
    · rw [List.getElem?_append_left (by simpa using hi), List.getElem?_map] at h
      cases q : as[i]? with
      | none => rw [q] at h; cases h
      | some u =>
        rw [q] at h; cases h
        obtain ⟨w, h1, h2⟩ := r.get q
        refine ⟨w, ?_, h2⟩
        rw [List.getElem?_append_left (by simp [← r.length]; exact hi), List.getElem?_map, h1]
        rfl
    · rw [List.getElem?_append_right (by simpa using hi), List.getElem?_replicate] at h
      split at h <;> cases h
/-- from a body's function to the body's reading -/
theorem body_rd {g : Gh} {m : Mm} {H : Hp} {N : List Str} {as : List PV} {vs : List V} {Q : VK} {b : SS} (em : Emb K g m H) (r : Rps K g H as vs) (hN : as.length ≤ N.length) (q : QE K X0 g H Q (cI (bodyI N.length as.length b) as m)) :
    rdS K X0 b { nx := fun _ H' => Q .non H', rt := Q } (L2.start N vs) H := by
  refine ⟨g, startS N.length as, m, em, start_sr r hN, ?_⟩
  unfold cI bodyI at q
  rw [if_pos rfl] at q
  cases hr : b (startS N.length as) m with
  | ok p =>
    obtain ⟨fl, s, m1⟩ := p
    rw [hr] at q
    cases fl with
    | nx => exact fun g1 H1 σ1 x1 e1 r1 => q g1 H1 .non x1 e1 .non
    | rt v => exact fun g1 H1 σ1 x1 e1 r1 V rv => q g1 H1 V x1 e1 rv
    | bk => exact q.elim
    | ct => exact q.elim
  | ex e m1 => rw [hr] at q; exact q.elim
  | no => rw [hr] at q; exact q.elim
section
variable {P : Program} {w : World} {mg : Str → Option Value} {base : Heap}
/-- THE RULE for a def, by its body's function -/
theorem defI {x qual : Str} {st : Stmt} {f : Addr} {fd : FuncData} {N ps : List Str} {k : Nat} {b : SS} (F : Fun K x qual st f fd) (S : FnScope N ps (defScope st)) (hN : ps.length ≤ N.length)
    (hbody : ∀ (cdv : Value) (A : Around) (outer : List Env) (s : Shared) (H : Hp) (E : XK), Room k (A.deeper (envOfC qual (defScope st) s.heap.objs.size f cdv)) →
      PSs (cxOf CX0 P w K mg base N qual (defScope st) f cdv A outer s H E).nox (defBody st) (rdS K X0 b)) : FnOk P w K mg base CX0 (k + 1) f fd ps (spI K ps.length (bodyI N.length ps.length b)) :=
  F.ok S (fun _ _ _ _ h => spI_len h) fun cdv A outer s H vs Q E hr ⟨g, m, as, hl, em, r, q⟩ => ⟨_, hbody cdv A outer s H E hr, body_rd em r (by rw [hl]; exact hN) (by rw [hl]; exact q)⟩
end
end
end TT
end

section
set_option Elab.async false
set_option linter.all false
set_option autoImplicit false
set_option maxRecDepth 100000
/-! TT: defs by values, calls, walks over zip, more built-ins -/
namespace TT
open PySem PySem.Spec PyProof.Rows L2
section
variable {K : KW} {g g' : Gh} {m m' : Mm} {H H' : Hp}
mutual
/-- a value without refs does not lean on where the memory stands -/
theorem Rp.pure {φ' : Nat → Option Addr} : ∀ {v : PV} {w : V}, v.pu = true → Rp K g H v w → Rp K ⟨φ', g.ro, g.T⟩ H v w
  | _, _, _, .non => .non
  | _, _, _, .bl b => .bl b
  | _, _, _, .int i => .int i
  | _, _, _, .str l => .str l
  | _, _, h, .tup a r => .tup a (Rps.pure (by simpa only [PV.pu] using h) r)
  | _, _, h, .vl a r => .vl a (Rps.pure (by simpa only [PV.pu] using h) r)
  | _, _, h, .fz a r => .fz a (Rps.pure (by simpa only [PV.pu] using h) r)
  | _, _, h, .ref _ => by simp only [PV.pu] at h; cases h
  | _, _, _, .fn a => .fn a
theorem Rps.pure {φ' : Nat → Option Addr} : ∀ {v : List PV} {w : List V}, pus v = true → Rps K g H v w → Rps K ⟨φ', g.ro, g.T⟩ H v w
  | _, _, _, .nil => .nil
  | _, _, h, .cons a r => by
    simp only [pus, Bool.and_eq_true] at h
    exact .cons (Rp.pure h.1 a) (Rps.pure h.2 r)
end
open Classical in
/-- all that lives in the memory is read only from now on -/
noncomputable def roAll (g : Gh) (H : Hp) : Hp := fun a => match g.ro a with
  | some u => some u
  | none => if (∃ n, g.φ n = some a) ∧ ∀ ps, H a ≠ some (.tbl ps) then H a else none
theorem roAll_old {a : Addr} {u : HO} (h : g.ro a = some u) : roAll g H a = some u := by unfold roAll; rw [h]
theorem roAll_new (e : Emb K g m H) {a : Addr} {n : Nat} {u : HO} (h : g.φ n = some a) (hu : H a = some u) (ht : NT u) : roAll g H a = some u := by
  unfold roAll
  cases q : g.ro a with
  | some v =>
    have := (e.ro a v q).1
    rw [hu] at this; cases this; rfl
  | none => simp only; rw [if_pos ⟨⟨n, h⟩, fun ps z => ht ps (by rw [hu] at z; exact Option.some.inj z)⟩, hu]
theorem roAll_inv {a : Addr} {u : HO} (h : roAll g H a = some u) : g.ro a = some u ∨ (g.ro a = none ∧ ((∃ n, g.φ n = some a) ∧ ∀ ps, H a ≠ some (.tbl ps)) ∧ H a = some u) := by
  unfold roAll at h
  split at h
  · rename_i v hv; cases h; exact .inl hv
  · rename_i hv
    split at h
    · rename_i hc; exact .inr ⟨hv, hc, h⟩
    · cases h
theorem frzs_rp (e : Emb K g m H) {f : PV → Option PV} {φ' : Nat → Option Addr} (hf : ∀ v w v', Rp K g H v w → f v = some v' → Rp K ⟨φ', roAll g H, g.T⟩ H v' w) : ∀ {xs : List PV} {ws : List V} {ys : List PV}, Rps K g H xs ws → frz.frzs f xs = some ys → Rps K ⟨φ', roAll g H, g.T⟩ H ys ws
  | [], _, _, .nil, h => by cases h; exact .nil
  | x :: xs, _, ys, .cons a r, h => by
    simp only [frz.frzs] at h
    split at h
    · rename_i y zs h1 h2
      cases h
      exact .cons (hf _ _ _ a h1) (frzs_rp e hf r h2)
    · cases h
theorem frz_rp (e : Emb K g m H) {φ' : Nat → Option Addr} : ∀ (k : Nat) (v : PV) (w : V) (v' : PV), Rp K g H v w → frz k m v = some v' → Rp K ⟨φ', roAll g H, g.T⟩ H v' w
  | 0, v, w, v', r, h => by
    unfold frz at h
    split at h
    · rename_i hp
      cases h
      exact Rp.mono (g := ⟨φ', g.ro, g.T⟩) (g' := ⟨φ', roAll g H, g.T⟩) (fun _ _ h => h) (fun _ _ h => roAll_old h) (fun _ _ h => h) (Rp.pure (φ' := φ') hp r)
    · cases h
  | k + 1, v, w, v', r, h => by
    unfold frz at h
    split at h
    · rename_i hp
      cases h
      exact Rp.mono (g := ⟨φ', g.ro, g.T⟩) (g' := ⟨φ', roAll g H, g.T⟩) (fun _ _ h => h) (fun _ _ h => roAll_old h) (fun _ _ h => h) (Rp.pure (φ' := φ') hp r)
    · split at h
      · rename_i n
        split at h
        · rename_i xs hx
          obtain ⟨a, rfl, hn⟩ := r.ref_inv
          obtain ⟨a', vs, h1, h2, h3⟩ := e.obj _ _ hx
          rw [hn] at h1; cases h1
          cases hq : frz.frzs (frz k m) xs with
          | none => rw [hq] at h; cases h
          | some ys =>
            rw [hq] at h; cases h
            exact .vl (roAll_new e hn h2 (fun _ z => nomatch z)) (frzs_rp e (fun v w v' r h => frz_rp e k v w v' r h) h3 hq)
        · cases h
      · rename_i xs _
        obtain ⟨a, vs, rfl, ha, r1⟩ := r.tup_inv
        cases hq : frz.frzs (frz k m) xs with
        | none => rw [hq] at h; cases h
        | some ys =>
          rw [hq] at h; cases h
          exact .tup ha (frzs_rp e (fun v w v' r h => frz_rp e k v w v' r h) r1 hq)
      · cases h
/-- behind a def that was run in a memory of its own -/
theorem after_own {φ₀ : Gh} (e : Emb K g m H) (h0 : φ₀ = ⟨fun _ => none, g.ro, g.T⟩) {g1 : Gh} {m1 : Mm} {H1 : Hp} (x : Ext φ₀ H g1 H1) (e1 : Emb K g1 m1 H1) :
    Ext g H ⟨g.φ, roAll g1 H1, g.T⟩ H1 ∧ Emb K ⟨g.φ, roAll g1 H1, g.T⟩ m H1 := by
  subst h0
  have fr : ∀ a u, H a = some u → NT u → H1 a = some u := fun a u h => x.fr a u h (fun n z => nomatch z)
  have out : ∀ a u, H a = some u → NT u → ∀ n, g1.φ n ≠ some a := fun a u h => x.old a u h (fun n z => nomatch z)
  have xx : Ext g H ⟨g.φ, roAll g1 H1, g.T⟩ H1 := by
    refine ⟨fun _ _ h => h, fun a u h => roAll_old (x.ro a u h), fun a u h _ t => fr a u h t, fun a u h hn _ => hn, fun a u h hn ht hr => ?_, rfl⟩
    have q := x.oldr a u h (fun n z => nomatch z) ht hr
    show roAll g1 H1 a = none
    cases z : roAll g1 H1 a with
    | none => rfl
    | some v =>
      rcases roAll_inv z with z | ⟨_, ⟨⟨n, z⟩, _⟩, _⟩
      · rw [q] at z; cases z
      · exact (out a u h ht n z).elim
  refine ⟨xx, ⟨fun n o h => ?_, fun n a h => ?_, e.inj, fun a u h => ?_, fun a u h => ?_, by have t := e1.tab; rw [x.T] at t; exact t⟩⟩
  · have q := e.obj n o h
    cases o with
    | lst ys =>
      obtain ⟨a, ws, q1, q2, q3⟩ := q
      exact ⟨a, ws, q1, fr _ _ q2 (fun _ z => nomatch z), q3.ext e xx⟩
    | dict ys =>
      obtain ⟨a, ws, q1, q2, q3⟩ := q
      exact ⟨a, ws, q1, fr _ _ q2 (fun _ z => nomatch z), q3.ext e xx⟩
    | kd ys =>
      obtain ⟨a, ws, q1, q2, q3⟩ := q
      exact ⟨a, ws, q1, fr _ _ q2 kd_nt, q3.ext e xx⟩
    | kl ys =>
      obtain ⟨a, o, ws, q1, q2, q3⟩ := q
      exact ⟨a, o, ws, q1, xx.ro _ _ q2, q3.ext e xx⟩
    | dead => trivial
    | tab P l => exact q
  · obtain ⟨q1, u, q2, q3⟩ := e.dom n a h
    exact ⟨q1, u, fr _ _ q2 (nt_mut q3), q3⟩
  · have h' : roAll g1 H1 a = some u := h
    have key : H1 a = some u := by
      rcases roAll_inv h' with z | ⟨_, _, z⟩
      · exact (e1.ro a u z).1
      · exact z
    refine ⟨key, fun n hn => ?_⟩
    have hn' : g.φ n = some a := hn
    obtain ⟨_, v, hv, hmu⟩ := e.dom n a hn'
    cases hr : g.ro a with
    | some u' => exact (e.ro a u' hr).2 n hn'
    | none =>
      have q := x.oldr a v hv (fun n z => nomatch z) (nt_mut hmu) hr
      rcases roAll_inv h' with z | ⟨_, ⟨⟨k, z⟩, _⟩, _⟩
      · rw [q] at z; cases z
      · exact (out a v hv (nt_mut hmu) k z).elim
  · have h' : roAll g1 H1 a = some u := h
    rcases roAll_inv h' with z | ⟨_, ⟨_, z⟩, z2⟩
    · exact e1.nt a u z
    · exact fun ps z3 => z ps (by rw [z2, z3])
theorem emb_own (e : Emb K g m H) : Emb K ⟨fun _ => none, g.ro, g.T⟩ [] H :=
  ⟨(fun n o h => by simp at h), (fun n a h => nomatch h), (fun n k a h _ => nomatch h), (fun a u h => ⟨(e.ro a u h).1, (fun n z => nomatch z)⟩), e.nt, e.tab⟩
end

/-! ### promises -/
section
variable {P : Program} {w : World} {K : KW} {mg : Str → Option Value} {base : Heap} {CX : CXT} {k : Nat} {f : Addr} {fd : FuncData} {ps : List Str}
/-- by values, from the body -/
theorem spP_of {n N : Nat} {b : SS} {vs : List V} {H : Hp} {Q : VK} {E : XK} (h : spP K n (bodyP N n b) vs H Q E) : spI K n (bodyI N n b) vs H Q E := by
  obtain ⟨g, m, as, hl, em, r, q⟩ := h
  unfold cP at q
  by_cases hp : pus as = true
  · rw [if_pos hp] at q
    refine ⟨⟨fun _ => none, g.ro, g.T⟩, [], as, hl, emb_own em, Rps.pure hp r, ?_⟩
    unfold bodyP at q
    unfold cI
    cases hr : bodyI N n b as [] with
    | ok p =>
      obtain ⟨v, m1⟩ := p
      rw [hr] at q
      simp only at q
      intro g1 H1 V x1 e1 r1
      cases hf : frz 4 m1 v with
      | none => rw [hf] at q; exact q.elim
      | some v' =>
        rw [hf] at q
        obtain ⟨xx, ee⟩ := after_own em rfl x1 e1
        have r2 := frz_rp (φ' := g.φ) e1 4 v V v' r1 hf
        rw [x1.T] at r2
        exact q ⟨g.φ, roAll g1 H1, g.T⟩ H1 V xx ee r2
    | ex e m1 => rw [hr] at q; exact q.elim
    | no => rw [hr] at q; exact q.elim
  · rw [if_neg hp] at q; exact q.elim
theorem FnOk.toP {n N : Nat} {b : SS} (F : FnOk P w K mg base CX k f fd ps (spI K n (bodyI N n b))) : FnOk P w K mg base CX k f fd ps (spP K n (bodyP N n b)) := F.imp fun _ _ _ _ => spP_of
/-- a mirror of a def by values -/
theorem FnOk.mirP {n : Nat} {F G : PF} (h : FnOk P w K mg base CX k f fd ps (spP K n F)) (i : ∀ as v, as.length = n → G as = .ok v → F as = .ok v) : FnOk P w K mg base CX k f fd ps (spP K n G) :=
  h.imp fun vs H Q E ⟨g, m, as, hl, em, r, q⟩ => ⟨g, m, as, hl, em, r, by
    unfold cP at q ⊢
    split at q
    · rename_i hp
      rw [if_pos hp]
      cases hr : G as with
      | ok v => rw [hr] at q; rw [i as v hl hr]; exact q
      | ex e m => rw [hr] at q; exact q.elim
      | no => rw [hr] at q; exact q.elim
    · exact q.elim⟩
mutual
theorem Rp.belo {g g' : Gh} {H : Hp} (hro : g'.ro = g.ro) : ∀ {v : PV} {w : V}, v.pu = true → Rp K g H v w → Rp K g' H v w
  | _, _, _, .non => .non
  | _, _, _, .bl b => .bl b
  | _, _, _, .int i => .int i
  | _, _, _, .str l => .str l
  | _, _, h, .tup a r => .tup a (Rps.belo hro (by simpa only [PV.pu] using h) r)
  | _, _, h, .vl a r => .vl (by rw [hro]; exact a) (Rps.belo hro (by simpa only [PV.pu] using h) r)
  | _, _, h, .fz a r => .fz (by rw [hro]; exact a) (Rps.belo hro (by simpa only [PV.pu] using h) r)
  | _, _, h, .ref _ => by simp only [PV.pu] at h; cases h
  | _, _, _, .fn a => .fn a
theorem Rps.belo {g g' : Gh} {H : Hp} (hro : g'.ro = g.ro) : ∀ {v : List PV} {w : List V}, pus v = true → Rps K g H v w → Rps K g' H v w
  | _, _, _, .nil => .nil
  | _, _, h, .cons a r => by
    simp only [pus, Bool.and_eq_true] at h
    exact .cons (Rp.belo hro h.1 a) (Rps.belo hro h.2 r)
end
mutual
theorem Rp.dom2 {g g1 : Gh} {H H1 : Hp} (h : ∀ n a, g.φ n = some a → g1.φ n = some a) : ∀ {v : PV} {w w1 : V}, Rp K g H v w → Rp K g1 H1 v w1 → Rp K ⟨g.φ, g1.ro, g.T⟩ H1 v w1
  | _, _, _, _, .non => .non
  | _, _, _, _, .bl b => .bl b
  | _, _, _, _, .int i => .int i
  | _, _, _, _, .str l => .str l
  | _, _, _, .tup _ r, .tup a r1 => .tup a (Rps.dom2 h r r1)
  | _, _, _, .vl _ r, .vl a r1 => .vl a (Rps.dom2 h r r1)
  | _, _, _, .fz _ r, .fz a r1 => .fz a (Rps.dom2 h r r1)
  | _, _, _, .ref q, .ref q1 => .ref (by have := h _ _ q; rw [q1] at this; cases this; exact q)
  | _, _, _, .fn a, .fn _ => .fn a
theorem Rps.dom2 {g g1 : Gh} {H H1 : Hp} (h : ∀ n a, g.φ n = some a → g1.φ n = some a) : ∀ {v : List PV} {w w1 : List V}, Rps K g H v w → Rps K g1 H1 v w1 → Rps K ⟨g.φ, g1.ro, g.T⟩ H1 v w1
  | _, _, _, .nil, .nil => .nil
  | _, _, _, .cons a r, .cons a1 r1 => .cons (Rp.dom2 h a a1) (Rps.dom2 h r r1)
end
theorem RKs.belo {g g' : Gh} {H : Hp} (hro : g'.ro = g.ro) : ∀ {v : List (PV × PV)} {w : List (Key × V)}, pud v = true → RKs K g H v w → RKs K g' H v w
  | _, _, _, .nil => .nil
  | _, _, h, .cons k a r => by
    simp only [pud, Bool.and_eq_true] at h
    exact .cons k (Rp.belo hro h.1.2 a) (RKs.belo hro h.2 r)
theorem RKs.dom2 {g g1 : Gh} {H H1 : Hp} (h : ∀ n a, g.φ n = some a → g1.φ n = some a) : ∀ {v : List (PV × PV)} {w w1 : List (Key × V)}, RKs K g H v w → RKs K g1 H1 v w1 → RKs K ⟨g.φ, g1.ro, g.T⟩ H1 v w1
  | _, _, _, .nil, .nil => .nil
  | _, _, _, .cons k a r, .cons k1 a1 r1 => .cons k1 (Rp.dom2 h a a1) (RKs.dom2 h r r1)
theorem RND.belo {g g' : Gh} {H : Hp} (hro : g'.ro = g.ro) : ∀ {v : List (PV × PV)} {w : List (NestedKey × Addr × V)}, pud v = true → RND K g H v w → RND K g' H v w
  | _, _, _, .nil => .nil
  | _, _, h, .cons y k a r => by
    simp only [pud, Bool.and_eq_true] at h
    exact .cons y (Rp.belo hro h.1.1 k) (Rp.belo hro h.1.2 a) (RND.belo hro h.2 r)
theorem RND.dom2 {g g1 : Gh} {H H1 : Hp} (h : ∀ n a, g.φ n = some a → g1.φ n = some a) : ∀ {v : List (PV × PV)} {w w1 : List (NestedKey × Addr × V)}, RND K g H v w → RND K g1 H1 v w1 → RND K ⟨g.φ, g1.ro, g.T⟩ H1 v w1
  | _, _, _, .nil, .nil => .nil
  | _, _, _, .cons _ k a r, .cons y k1 a1 r1 => .cons y (Rp.dom2 h k k1) (Rp.dom2 h a a1) (RND.dom2 h r r1)
/-- an object as it was, or a list that holds no refs now -/
def Calm1 (m m1 : Mm) : Prop := ∀ (n : Nat) (o : Ob), m1[n]? = some o → m[n]? = some o ∨ (o.pu = true ∧ ∃ xs, m[n]? = some (.lst xs))
/-- the memory's last objects are forgotten -/
theorem Emb.trim {g g1 : Gh} {m m1 gar : Mm} {H H1 : Hp} (e : Emb K g m H) (x : Ext g H g1 H1) (e1 : Emb K g1 (m1 ++ gar) H1) (hl : m1.length = m.length) (hp : Calm1 m m1) :
    ∃ g2, Ext g H g2 H1 ∧ Emb K g2 m1 H1 ∧ ∀ v w, v.pu = true → Rp K g1 H1 v w → Rp K g2 H1 v w := by
  refine ⟨⟨g.φ, g1.ro, g.T⟩, ?_, ⟨fun n o h => ?_, fun n a h => ?_, fun n k a h1 h2 => e.inj n k a h1 h2, fun a u h => ?_, e1.nt, by have t := e1.tab; rw [x.T] at t; exact t⟩, fun v w hv r => Rp.belo (g := g1) (g' := ⟨g.φ, g1.ro, g.T⟩) rfl hv r⟩
  · exact ⟨fun _ _ h => h, x.ro, x.fr, fun a u h hn _ => hn, x.oldr, rfl⟩
  · have hlt : n < m1.length := (List.getElem?_eq_some_iff.mp h).1
    have q := e1.obj n o (by rw [List.getElem?_append_left hlt]; exact h)
    cases o with
    | lst ys =>
      obtain ⟨a, ws, q1, q2, q3⟩ := q
      rcases hp n _ h with z | ⟨z, xs, zx⟩
      · obtain ⟨a', vs, p1, p2, p3⟩ := e.obj n _ z
        have e' := x.phi _ _ p1
        rw [q1] at e'; cases e'
        exact ⟨a, ws, p1, q2, Rps.dom2 x.phi p3 q3⟩
      · obtain ⟨a', vs, p1, p2, p3⟩ := e.obj n _ zx
        have e' := x.phi _ _ p1
        rw [q1] at e'; cases e'
        exact ⟨a, ws, p1, q2, Rps.belo (g := g1) (g' := ⟨g.φ, g1.ro, g.T⟩) rfl (by simpa only [Ob.pu] using z) q3⟩
    | dict ys =>
      obtain ⟨a, ws, q1, q2, q3⟩ := q
      rcases hp n _ h with z | ⟨z, xs, zx⟩
      · obtain ⟨a', vs, p1, p2, p3⟩ := e.obj n _ z
        have e' := x.phi _ _ p1
        rw [q1] at e'; cases e'
        exact ⟨a, ws, p1, q2, RKs.dom2 x.phi p3 q3⟩
      · obtain ⟨a', vs, p1, p2, p3⟩ := e.obj n _ zx
        have e' := x.phi _ _ p1
        rw [q1] at e'; cases e'
        exact ⟨a, ws, p1, q2, RKs.belo (g := g1) (g' := ⟨g.φ, g1.ro, g.T⟩) rfl (by simpa only [Ob.pu] using z) q3⟩
    | kd ys =>
      obtain ⟨a, ws, q1, q2, q3⟩ := q
      rcases hp n _ h with z | ⟨z, xs, zx⟩
      · obtain ⟨a', vs, p1, p2, p3⟩ := e.obj n _ z
        have e' := x.phi _ _ p1
        rw [q1] at e'; cases e'
        exact ⟨a, ws, p1, q2, RND.dom2 x.phi p3 q3⟩
      · obtain ⟨a', vs, p1, p2, p3⟩ := e.obj n _ zx
        have e' := x.phi _ _ p1
        rw [q1] at e'; cases e'
        exact ⟨a, ws, p1, q2, RND.belo (g := g1) (g' := ⟨g.φ, g1.ro, g.T⟩) rfl (by simpa only [Ob.pu] using z) q3⟩
    | kl ys =>
      obtain ⟨a, o, ws, q1, q2, q3⟩ := q
      rcases hp n _ h with z | ⟨z, xs, zx⟩
      · obtain ⟨a', o', vs, p1, p2, p3⟩ := e.obj n _ z
        have e' := x.phi _ _ p1
        rw [q1] at e'; cases e'
        exact ⟨a, o, ws, p1, q2, RND.dom2 x.phi p3 q3⟩
      · obtain ⟨a', vs, p1, p2, p3⟩ := e.obj n _ zx
        have e' := x.phi _ _ p1
        rw [q1] at e'; cases e'
        exact ⟨a, o, ws, p1, q2, RND.belo (g := g1) (g' := ⟨g.φ, g1.ro, g.T⟩) rfl (by simpa only [Ob.pu] using z) q3⟩
    | dead => trivial
    | tab P l =>
      have q' : g1.T = _ := q
      rw [x.T] at q'
      exact q'
  · have h' : g.φ n = some a := h
    obtain ⟨q1, u, q2, q3⟩ := e1.dom n a (x.phi _ _ h')
    exact ⟨by rw [hl]; exact (e.dom n a h').1, u, q2, q3⟩
  · have h' : g1.ro a = some u := h
    obtain ⟨q1, q2⟩ := e1.ro a u h'
    refine ⟨q1, fun n hn => ?_⟩
    have hn' : g.φ n = some a := hn
    have q := q2 n (x.phi _ _ hn')
    have hlt : n < m1.length := by rw [hl]; exact (e.dom n a hn').1
    rw [List.getElem?_append_left hlt] at q
    exact q
/-- a mirror of a def by the whole memory: its rubbish is forgotten -/
theorem FnOk.mirI {n : Nat} {F G : IF} (h : FnOk P w K mg base CX k f fd ps (spI K n F))
    (i : ∀ as m v m', as.length = n → G as m = .ok (v, m') → ∃ gar, F as m = .ok (v, m' ++ gar) ∧ (gar = [] ∨ (m'.length = m.length ∧ v.pu = true ∧ Calm1 m m'))) : FnOk P w K mg base CX k f fd ps (spI K n G) :=
  h.imp fun vs H Q E ⟨g, m, as, hl, em, r, q⟩ => ⟨g, m, as, hl, em, r, by
    unfold cI at q ⊢
    cases hr : G as m with
    | ok p =>
      obtain ⟨v, m'⟩ := p
      rw [hr] at q
      obtain ⟨gar, hF, hc⟩ := i as m v m' hl hr
      rw [hF]
      intro g1 H1 V x1 e1 r1
      rcases hc with hc | ⟨c1, c2, c3⟩
      · subst hc
        have e1' : Emb K g1 m' H1 := by simpa using e1
        exact q g1 H1 V x1 e1' r1
      · obtain ⟨g2, x2, e2, f2⟩ := em.trim x1 e1 c1 c3
        exact q g2 H1 V x2 e2 (f2 v V c2 r1)
    | ex e m => rw [hr] at q; exact q.elim
    | no => rw [hr] at q; exact q.elim⟩
end

/-! ### calls -/
section
variable {X : Cx} {Ξ : XC} {k : Nat} {f : Addr} {fd : FuncData} {ps : List Str} {x : Str} {p pos : Pos} {e : Expr} {es : List Expr} {fs : SA} {K : KW}
theorem cI_X0 {g : Gh} {H : Hp} {Q : VK} {F : IF} {as : List PV} {m : Mm} (q : QE K Ξ g H Q (cI F as m)) : QE K X0 g H Q (cI F as m) := by
  unfold cI at q ⊢
  cases h : F as m with
  | ok p => rw [h] at q; exact q
  | ex e m => rw [h] at q; exact q.elim
  | no => rw [h] at q; exact q.elim
theorem cP_X0 {g : Gh} {H : Hp} {Q : VK} {F : PF} {as : List PV} {m : Mm} (q : QE K Ξ g H Q (cP F as m)) : QE K X0 g H Q (cP F as m) := by
  unfold cP at q ⊢
  split at q
  · rename_i hp
    rw [if_pos hp]
    cases h : F as with
    | ok p => rw [h] at q; exact q
    | ex e m => rw [h] at q; exact q.elim
    | no => rw [h] at q; exact q.elim
  · exact q.elim
theorem se_callI {n : Nat} {F : IF} (G : FnOk X.prog X.w X.kw X.mg X.base CX0 k f fd ps (spI X.kw n F)) (hr : Room k X.A) (hm : X.mg x = some (.ref f)) (hk : PySem.W.keepIn X.kw (.ref f) = true) (hb : Binds X.kw fd ps []) (ha : PA X (e :: es) (rdA X.kw Ξ fs)) (hl : ∀ s m xs m', fs s m = .ok (xs, m') → xs.length = (e :: es).length)
    (hn : (e :: es).length = n := by rfl) (hg : Gl X x := by rfl) (hdb : (x == ("__debug__" : Str)) = false := by decide) (he : starEach (e :: es) X.env = (false, eval e X.env) :: starEach es X.env := by rfl) (hpl : (backTo pos (starEach es X.env)).any (·.1) = false := by rfl) :
    PE X (.Call (.Name x p) (e :: es) [] pos) (rdE X.kw Ξ (eN (cI F) fs)) :=
  PE_imp (pe_call G hr hg hm hk hb .nil pass0 ha hdb he hpl) fun σ H Q ⟨g, s, m, em, sr, q⟩ => by
    refine ⟨g, s, m, em, sr, QR.bind q fun p hp q1 g1 H1 V x1 e1 r1 => ?_⟩
    exact ⟨g1, p.2, p.1, by rw [hl s m p.1 p.2 hp, hn], e1, by rw [List.append_nil]; exact r1, cI_X0 (QE.later x1 q1)⟩
theorem se_callI0 {F : IF} (G : FnOk X.prog X.w X.kw X.mg X.base CX0 k f fd ps (spI X.kw 0 F)) (hr : Room k X.A) (hm : X.mg x = some (.ref f)) (hk : PySem.W.keepIn X.kw (.ref f) = true) (hb : Binds X.kw fd ps [])
    (hg : Gl X x := by rfl) (hdb : (x == ("__debug__" : Str)) = false := by decide) : PE X (.Call (.Name x p) [] [] pos) (rdE X.kw Ξ (eN (cI F) aNil)) :=
  PE_imp (pe_call0 G hr hg hm hk hb .nil pass0 hdb) fun σ H Q ⟨g, s, m, em, sr, q⟩ => ⟨g, m, [], rfl, em, .nil, cI_X0 q⟩
theorem se_callP {n : Nat} {F : PF} (G : FnOk X.prog X.w X.kw X.mg X.base CX0 k f fd ps (spP X.kw n F)) (hr : Room k X.A) (hm : X.mg x = some (.ref f)) (hk : PySem.W.keepIn X.kw (.ref f) = true) (hb : Binds X.kw fd ps []) (ha : PA X (e :: es) (rdA X.kw Ξ fs)) (hl : ∀ s m xs m', fs s m = .ok (xs, m') → xs.length = (e :: es).length)
    (hn : (e :: es).length = n := by rfl) (hg : Gl X x := by rfl) (hdb : (x == ("__debug__" : Str)) = false := by decide) (he : starEach (e :: es) X.env = (false, eval e X.env) :: starEach es X.env := by rfl) (hpl : (backTo pos (starEach es X.env)).any (·.1) = false := by rfl) :
    PE X (.Call (.Name x p) (e :: es) [] pos) (rdE X.kw Ξ (eN (cP F) fs)) :=
  PE_imp (pe_call G hr hg hm hk hb .nil pass0 ha hdb he hpl) fun σ H Q ⟨g, s, m, em, sr, q⟩ => by
    refine ⟨g, s, m, em, sr, QR.bind q fun p hp q1 g1 H1 V x1 e1 r1 => ?_⟩
    exact ⟨g1, p.2, p.1, by rw [hl s m p.1 p.2 hp, hn], e1, by rw [List.append_nil]; exact r1, cP_X0 (QE.later x1 q1)⟩
theorem se_callP0 {F : PF} (G : FnOk X.prog X.w X.kw X.mg X.base CX0 k f fd ps (spP X.kw 0 F)) (hr : Room k X.A) (hm : X.mg x = some (.ref f)) (hk : PySem.W.keepIn X.kw (.ref f) = true) (hb : Binds X.kw fd ps [])
    (hg : Gl X x := by rfl) (hdb : (x == ("__debug__" : Str)) = false := by decide) : PE X (.Call (.Name x p) [] [] pos) (rdE X.kw Ξ (eN (cP F) aNil)) :=
  PE_imp (pe_call0 G hr hg hm hk hb .nil pass0 hdb) fun σ H Q ⟨g, s, m, em, sr, q⟩ => ⟨g, m, [], rfl, em, .nil, cP_X0 q⟩

/-! ### repr of a truth value -/
theorem call_tReprB : CallR X (.builtin "repr") (rdN X.kw Ξ fReprB) := by
  intro pins s σ H xs us Q I r ⟨g, m, as, e, ra, q⟩
  unfold fReprB at q
  split at q
  · cases ra with
    | cons r1 r2 =>
      cases r2
      cases r1.bl_inv
      obtain ⟨u, rfl, rx⟩ := vals1 r
      cases rx
      exact PySem.P.repr_of_bool ⟨.str _, H, I.tok _, ⟨_, rfl⟩, QE.ret e (.str _) q⟩
  · cases ra with
    | cons r1 r2 =>
      cases r2
      cases r1.bl_inv
      obtain ⟨u, rfl, rx⟩ := vals1 r
      cases rx
      exact PySem.P.repr_of_bool ⟨.str _, H, I.tok _, ⟨_, rfl⟩, QE.ret e (.str _) q⟩
  · exact q.elim

/-! ### zip -/
theorem zipP_get : ∀ {xs ys : List PV} {i : Nat}, i < (zipP xs ys).length → ∃ x y, xs[i]? = some x ∧ ys[i]? = some y ∧ (zipP xs ys)[i]? = some (.tup [x, y])
  | x :: xs, y :: ys, 0, _ => ⟨x, y, rfl, rfl, rfl⟩
  | x :: xs, y :: ys, i + 1, h => by
    obtain ⟨u, v, h1, h2, h3⟩ := zipP_get (xs := xs) (ys := ys) (i := i) (by simpa [zipP] using h)
    exact ⟨u, v, by simpa using h1, by simpa using h2, by simpa [zipP] using h3⟩
  | [], _, _, h => by simp [zipP] at h
  | _ :: _, [], _, h => by simp [zipP] at h
theorem zipP_end : ∀ {xs ys : List PV} {i : Nat}, (zipP xs ys).length ≤ i → xs.length ≤ i ∨ ys.length ≤ i
  | x :: xs, y :: ys, 0, h => by simp [zipP] at h
  | x :: xs, y :: ys, i + 1, h => by
    have := zipP_end (xs := xs) (ys := ys) (i := i) (by simpa [zipP] using h)
    simp only [List.length_cons]; omega
  | [], _, _, _ => .inl (by simp)
  | _ :: _, [], _, _ => .inr (by simp)
variable {a b : Expr} {fa fb : SE}
theorem si_zip {p2 tpos : Pos} {elts : List Expr} {kk : Nat} (hg : Gl X "zip") (hm : X.mg "zip" = none) (h : PE X a (rdE X.kw Ξ fa)) (h' : PE X b (rdE X.kw Ξ fb)) (hs : starEach [a, b] X.env = (false, eval a X.env) :: starEach [b] X.env := by rfl) (hpl : (backTo pos (starEach [b] X.env)).any (·.1) = false := by rfl) (hs2 : starEach [b] X.env = (false, eval b X.env) :: starEach [] X.env := by rfl) :
    PI X (.Tuple elts kk tpos) (.Call (.Name "zip" p2) [a, b] [] pos) (rdI X.kw Ξ (iZip fa fb)) :=
  PI_imp (RZ.pi_zipA hg hm (pa_cons h (pa_cons h' pa_nil hs2) hs) hs hpl) fun σ H R ⟨g, s, m, em, sr, q⟩ => by
    refine ⟨g, s, m, em, sr, QR.bind q fun p hp q1 g1 H1 V x1 e1 r1 => ?_⟩
    refine ⟨g1, s, p.2, e1, sr.ext em x1, QR.bind (QR.later x1 q1 fun _ q g' H' J x => q g' H' J (x1.trans x)) fun p2 hp2 q2 g2 H2 W x2 e2 r2 => ?_⟩
    obtain ⟨v, m1⟩ := p
    obtain ⟨u, m2⟩ := p2
    have r1' := r1.ext e1 x2
    simp only at q2
    split at q2
    · rename_i xs ys
      obtain ⟨a1, vs, rfl, ha, ra⟩ := r1'.tup_inv
      obtain ⟨b1, ws, rfl, hb, rb⟩ := r2.tup_inv
      refine ⟨a1, b1, vs, ws, rfl, .inr ⟨ha, hb, q2 g2 H2 _ x2 e2 ⟨fun g' m' H' i x' e' hi => ?_, fun g' m' H' i x' e' hi => ?_⟩⟩⟩
      · obtain ⟨x0, y0, h1, h2, h3⟩ := zipP_get hi
        have ha' := e2.sqT x' ha
        have hb' := e2.sqT x' hb
        obtain ⟨xv, hx, rx⟩ := (ra.ext e2 x').get h1
        obtain ⟨yv, hy, ry⟩ := (rb.ext e2 x').get h2
        refine ⟨⟨vs, ws, xv, yv, ha', hb', hx, hy⟩, fun z H3 ⟨T, x1, y1, hz, hT, hH, f1, f2⟩ => ?_⟩
        subst hz hH
        have ex : x1 = xv := Option.some.inj ((f1 _ ha').symm.trans hx)
        have ey : y1 = yv := Option.some.inj ((f2 _ hb').symm.trans hy)
        subst ex ey
        obtain ⟨n1, n2, n3⟩ := e'.new_tup (xs := [x0, y0]) (vs := [x1, y1]) hT (.cons rx (.cons ry .nil))
        exact ⟨g', _, n1, n2, h3, n3⟩
      · refine ⟨vs, ws, e2.sqT x' ha, e2.sqT x' hb, ?_⟩
        rw [← ra.length, ← rb.length]
        exact zipP_end hi
    · rename_i xs ys
      cases r1' with
      | vl ha ra => cases r2 with
        | vl hb rb =>
          rename_i a1 vs b1 ws
          have hL : ∀ {g' m' H'}, Ext g2 H2 g' H' → Emb X.kw g' m' H' → SqL X.kw H' a1 vs ∧ SqL X.kw H' b1 ws := fun x' e' => ⟨SqL.of (e'.ro _ _ (x'.ro _ _ ha)).1, SqL.of (e'.ro _ _ (x'.ro _ _ hb)).1⟩
          obtain ⟨l1, l2⟩ := hL (Ext.refl _ _) e2
          refine ⟨a1, b1, vs, ws, rfl, .inl ⟨l1, l2, q2 g2 H2 _ x2 e2 ⟨fun g' m' H' i x' e' hi => ?_, fun g' m' H' i x' e' hi => ?_⟩⟩⟩
          · obtain ⟨x0, y0, h1, h2, h3⟩ := zipP_get hi
            obtain ⟨ha', hb'⟩ := hL x' e'
            obtain ⟨xv, hx, rx⟩ := (ra.ext e2 x').get h1
            obtain ⟨yv, hy, ry⟩ := (rb.ext e2 x').get h2
            refine ⟨⟨vs, ws, xv, yv, ha', hb', hx, hy⟩, fun z H3 ⟨T, x1, y1, hz, hT, hH, f1, f2⟩ => ?_⟩
            subst hz hH
            have ex : x1 = xv := Option.some.inj ((f1 _ ha').symm.trans hx)
            have ey : y1 = yv := Option.some.inj ((f2 _ hb').symm.trans hy)
            subst ex ey
            obtain ⟨n1, n2, n3⟩ := e'.new_tup (xs := [x0, y0]) (vs := [x1, y1]) hT (.cons rx (.cons ry .nil))
            exact ⟨g', _, n1, n2, h3, n3⟩
          · obtain ⟨ha', hb'⟩ := hL x' e'
            refine ⟨vs, ws, ha', hb', ?_⟩
            rw [← ra.length, ← rb.length]
            exact zipP_end hi
    · exact q2.elim
end
end TT
end

section
set_option Elab.async false
set_option linter.all false
set_option autoImplicit false
set_option maxRecDepth 100000
/-! TT: x[::-1] of tuples and lists -/
namespace TT
open PySem PySem.Spec PyProof.Rows L2
section
variable {prog : Program} {w : World} {A : Around} {E : Value → Shared → Prop} {s : Shared}
theorem revAll (xs : Array Value) : ((List.range xs.size).filterMap fun (m : Nat) => xs[((xs.size : Int) - 1 + (m : Int) * (-1)).toNat]?).toArray = xs.toList.reverse.toArray := by
  congr 1
  apply List.ext_getElem?
  intro i
  have key : ∀ (n : Nat), n ≤ xs.size → ((List.range n).filterMap fun (m : Nat) => xs[((xs.size : Int) - 1 + (m : Int) * (-1)).toNat]?) = xs.toList.reverse.take n := by
    intro n hn
    induction n with
    | zero => rfl
    | succ n ih =>
      rw [List.range_succ, List.filterMap_append, ih (Nat.le_of_succ_le hn)]
      have hlt : n < xs.toList.reverse.length := by simp; omega
      rw [List.take_succ_eq_append_getElem hlt]
      congr 1
      have e : ((xs.size : Int) - 1 + (n : Int) * (-1)).toNat = xs.size - 1 - n := by omega
      simp only [List.filterMap_cons, List.filterMap_nil, e]
      have hb : xs.size - 1 - n < xs.size := by omega
      rw [Array.getElem?_eq_getElem hb]
      simp [List.getElem_reverse]
  rw [key xs.size (Nat.le_refl _), List.take_of_length_le (by simp)]
theorem sliceApplied_rev {sl : Addr} {vs : Value} {n : Nat} {Q : Int × Int × Nat → Shared → Prop} (hs : s.heap.IsSliceOf sl .none .none vs) (ps : IsPart vs (some (-1))) (h : Q ((n : Int) - 1, -1, n) s) : wpAny (model prog w) A (Builtin.Slice.sliceApplied (.ref sl) (pure (n : Int))) Q E s := by
  obtain ⟨os, hos, hcs, hds⟩ := id hs
  unfold Builtin.Slice.sliceApplied Builtin.Slice.sliceFields
  refine wpAny_bind (wpAny_bind (wpAny_field hos hds (x := .none) rfl (wpAny_bind (wpAny_field hos hds (x := .none) rfl (wpAny_bind (wpAny_field hos hds (x := vs) rfl (wpAny_pure ?_)))))))
  refine wpAny_bind (HT.slicePart_ ps ?_)
  show wpAny _ _ (if ((-1 : Int) == 0) = true then _ else _) _ _ s
  rw [if_neg (by decide)]
  refine wpAny_bind (slicePart_none (wpAny_bind (slicePart_none (wpAny_bind (wpAny_pure ?_)))))
  show wpAny _ _ (match Builtin.Slice.sliceAdjust none none (-1) (n : Int) with | (lo, hi) => pure (lo, (-1 : Int), Builtin.Slice.slicePlaces lo hi (-1))) _ _ s
  have e1 : Builtin.Slice.sliceAdjust none none (-1) (n : Int) = ((n : Int) - 1, -1) := by
    unfold Builtin.Slice.sliceAdjust; rfl
  rw [e1]
  have e2 : Builtin.Slice.slicePlaces ((n : Int) - 1) (-1) (-1) = n := by
    unfold Builtin.Slice.slicePlaces
    rw [if_neg (by decide)]
    split <;> simp <;> omega
  show wpAny _ _ (pure ((n : Int) - 1, (-1 : Int), Builtin.Slice.slicePlaces ((n : Int) - 1) (-1) (-1))) _ _ s
  rw [e2]
  exact wpAny_pure h
theorem getItem_tuple_rev {t sl : Addr} {items : Array Value} {vs : Value} {Q : Value → Shared → Prop} (ht : IsTup s.heap t items) (hs : s.heap.IsSliceOf sl .none .none vs) (ps : IsPart vs (some (-1)))
    (h : Q (.ref s.heap.objs.size) { s with heap := s.heap.push { cls := .type "tuple", data := .seq items.toList.reverse.toArray } })
    (hsz : items.size ≤ sizeLine) : wpAny (model prog w) A (getItem (.ref t) (.ref sl)) Q E s := by
  have htake : sizeOk (.seq items.toList.reverse.toArray) := by
    show items.toList.reverse.toArray.size ≤ sizeLine
    simpa using hsz
  obtain ⟨os, hos, hcs, hds⟩ := id hs
  have hTs : s.TypeIs (.ref sl) "slice" := ⟨os, hos, hcs⟩
  unfold getItem
  try with_reducible refine wpAny_holding ?_
  first | refine wpAny_bind (wpAny_pure ?_) | skip
  refine wpAny_bind (wpAny_sequenceKey ht.typeIs (by decide) ?_)
  refine wpAny_bind (wpAny_callSpecial?_slot (name := Str.ofString "__getitem__") ht.typeIs PyProof.Rows.slot_tuple_getitem
    (wpAny_call_entry PyProof.Rows.slot_tuple_getitem ht.typeIs entry_tuple_getitem ?_ (args_tuple_getitem _ _)))
  show wpAny _ _ (Builtin.Tuple.tupleItemsOf (.ref t) >>= _) _ _ s
  refine wpAny_bind (tupleItemsOf_ ht ?_)
  refine wpAny_bind (wpAny_typeOf hTs ?_)
  rw [if_pos (by decide)]
  refine wpAny_bind (sliceApplied_rev hs ps ?_)
  show wpAny _ _ (if ((((items.size : Int) - 1) == 0 && (-1 : Int) == 1 && items.size == items.size) = true) then _ else _) _ _ s
  rw [if_neg (by intro q; rw [Bool.and_eq_true, Bool.and_eq_true] at q; exact absurd q.1.2 (by decide)), revAll]
  first
    | exact wpAny_bind (m := Builtin.Tuple.tupleExact _) (wpAny_newObj_type (wpAny_pure ⟨_, rfl, wpAny_pure h⟩) htake)
    | exact wpAny_bind (m := Builtin.Tuple.tupleExact _) (wpAny_newObj_type (wpAny_bind (wpAny_pure (wpAny_pure ⟨_, rfl, wpAny_pure h⟩))) htake)
    | exact wpAny_bind (wpAny_bind (m := Builtin.Tuple.tupleExact _) (wpAny_newObj_type (wpAny_pure (wpAny_pure ⟨_, rfl, wpAny_pure h⟩)) htake))
    | exact wpAny_bind (wpAny_bind (m := Builtin.Tuple.tupleExact _) (wpAny_newObj_type (wpAny_pure ⟨_, rfl, wpAny_pure h⟩) htake))
end
section
variable {X : Cx} {Ξ : XC} {fa : SE}
def tRevT (K : KW) (te : TE) : TE := fun σ H Q => te σ H fun x H1 => ∃ a xs, x = .ref a ∧ SqT K H1 a xs ∧ ∀ p, H1 p = none → Q (.ref p) (upd H1 p (.tup xs.reverse))
theorem pe_revT {e : Expr} {te : TE} {k : Nat} {p1 p2 p3 pos : Pos} (he : PE X e te) : PE X (.Subscript e (.Slice none none (some (.UnaryOp .USub (.Constant (.int 1) k p1) p2)) p3) pos) (tRevT X.kw te) := by
  refine ⟨fun pins s σ H Q I h => ?_⟩
  refine Subscript_ (thn (he.run pins s σ H _ I h) fun v s1 ⟨x, H1, I1, r1, q1⟩ => ?_)
  obtain ⟨a, xs, ex, hx, q⟩ := q1
  subst ex
  cases r1
  have hst : PO X (some (.UnaryOp .USub (.Constant (.int 1) k p1) p2)) (tPart (tUn (rU fun i => .int (-i)) (tC (.int 1)))) := po_some (pe_un un_neg pe_int)
  refine wpAny_Slice (thn (po_none.run pins s1 σ H1 (fun o H2 => o = none ∧ H2 = H1) I1 ⟨rfl, rfl⟩) fun vl s2 ⟨l, H2, I2, pl, el, e2⟩ => ?_)
  subst el e2
  refine thn (po_none.run pins s2 σ H2 (fun o H3 => o = none ∧ H3 = H2) I2 ⟨rfl, rfl⟩) fun vu s3 ⟨u, H3, I3, pu, eu, e3⟩ => ?_
  subst eu e3
  refine thn (hst.run pins s3 σ H3 (fun o H4 => o = some (-1) ∧ H4 = H3) I3 ⟨1, rfl, -1, rfl, rfl, rfl⟩) fun vs s4 ⟨o, H4, I4, ps, eo, e4⟩ => ?_
  subst eo e4
  cases pl
  cases pu
  have I5 : Inv X pins σ H4 { s4 with heap := s4.heap.push { cls := .type "slice", data := .fields #[.none, .none, vs] } } := I4.kept (t' := s4.toks) fun b ob q => Heap.get?_push_of_some _ q
  obtain ⟨its, r, ht, hz⟩ := I5.tuple hx
  have hlen := r.length
  show wpAny (model X.prog X.w) X.A (subscriptTail e (.Slice none none (some (.UnaryOp .USub (.Constant (.int 1) k p1) p2)) p3) (.ref a) (.ref s4.heap.objs.size)) (EP X pins σ Q) X.xe { s4 with heap := s4.heap.push { cls := .type "slice", data := .fields #[.none, .none, vs] } }
  refine tail_any (ops := [.ref a, .ref s4.heap.objs.size]) ht.typeIs PyProof.Rows.slot_tuple_getitem.lookup ?_ (by with_unfolding_all rfl)
  refine getItem_tuple_rev ht (Heap.IsSliceOf.new _ .none .none vs) ps ?_ (by rw [List.size_toArray]; omega)
  refine ⟨.ref _, _, I5.laid (t' := s4.toks) (o := .tup xs.reverse) (fun b ob q => Heap.get?_push_of_some _ q) (Nat.le_refl _) ?_, rfl, q _ (I5.hok.fresh (Nat.le_refl _))⟩
  refine ⟨by rw [List.length_reverse]; exact hz, its.reverse, r.reverse, ?_⟩
  have := IsTup.new { s4.heap with objs := s4.heap.objs.push { cls := .type "slice", data := .fields #[.none, .none, vs] } } its.reverse.toArray
  exact this
theorem PE_or {e : Expr} {t t' : TE} (h : PE X e t) (h' : PE X e t') : PE X e (fun σ H Q => t σ H Q ∨ t' σ H Q) := ⟨fun pins s σ H Q I q => q.elim (h.run pins s σ H Q I) (h'.run pins s σ H Q I)⟩
theorem se_revL {e : Expr} {k : Nat} {p1 p2 p3 pos : Pos} (he : PE X e (rdE X.kw Ξ fa)) : PE X (.Subscript e (.Slice none none (some (.UnaryOp .USub (.Constant (.int 1) k p1) p2)) p3) pos) (rdE X.kw Ξ (e1 oRevL fa)) :=
  PE_imp (pe_revL he) fun σ H Q ⟨g, s, m, em, sr, q⟩ => by
    refine ⟨g, s, m, em, sr, QR.bind q fun p hp q1 g1 H1 V x1 e1 r1 => ?_⟩
    obtain ⟨v, m1⟩ := p
    have q2 : QE X.kw Ξ g1 H1 Q (oRevL v m1) := QE.later x1 q1
    unfold oRevL at q2
    split at q2
    · rename_i xs h1
      obtain ⟨a1, vs, rfl, ha, r1'⟩ := e1.look r1 h1
      exact ⟨a1, vs, rfl, SqL.of ha, fun p hp => QE.newL e1 r1'.rev q2 hp⟩
    · exact q2.elim
theorem se_revT {e : Expr} {k : Nat} {p1 p2 p3 pos : Pos} (he : PE X e (rdE X.kw Ξ fa)) : PE X (.Subscript e (.Slice none none (some (.UnaryOp .USub (.Constant (.int 1) k p1) p2)) p3) pos) (rdE X.kw Ξ (e1 oRevT fa)) :=
  PE_imp (pe_revT he) fun σ H Q ⟨g, s, m, em, sr, q⟩ => by
    refine ⟨g, s, m, em, sr, QR.bind q fun p hp q1 g1 H1 V x1 e1 r1 => ?_⟩
    obtain ⟨v, m1⟩ := p
    have q2 : QE X.kw Ξ g1 H1 Q (oRevT v m1) := QE.later x1 q1
    unfold oRevT at q2
    split at q2
    · rename_i xs
      obtain ⟨a1, vs, rfl, ha, r1'⟩ := r1.tup_inv
      exact ⟨a1, vs, rfl, ha, fun p hp => QE.newT e1 r1'.rev q2 hp⟩
    · exact q2.elim
end
end TT
end

section
set_option Elab.async false
set_option linter.all false
set_option autoImplicit false
set_option maxRecDepth 100000
/-! TT: comprehensions whose target is a tuple of names -/
namespace TT
open PySem PySem.Spec PyProof.Rows L2
theorem wipe_get (σ : L2.St) (own : List Nat) : ∀ (j : Nat), (L2.wipe σ own)[j]? = if j ∈ own then (if j < σ.length then some none else none) else σ[j]? := by
  induction own with
  | nil => intro j; simp [L2.wipe]
  | cons v vs ih =>
    intro j
    unfold L2.wipe
    by_cases hv : v = j
    · subst hv
      simp only [List.mem_cons, true_or, if_true]
      by_cases hl : v < σ.length
      · rw [List.getElem?_set_self (by rw [L2.wipe_length]; exact hl), if_pos hl]
      · rw [List.getElem?_eq_none (by rw [List.length_set, L2.wipe_length]; omega), if_neg hl]
    · rw [List.getElem?_set_ne hv, ih j]
      simp only [List.mem_cons, Ne.symm hv, false_or]
theorem wipe_set1 {σ : L2.St} {i : Nat} {x : Option V} {own : List Nat} (hi : i ∈ own) : L2.wipe (σ.set i x) own = L2.wipe σ own := by
  apply List.ext_getElem?
  intro j
  rw [wipe_get, wipe_get, List.length_set]
  by_cases hj : j ∈ own
  · rw [if_pos hj, if_pos hj]
  · rw [if_neg hj, if_neg hj, List.getElem?_set_ne (fun z => hj (by rw [← z]; exact hi))]
theorem wipe_wipe {σ : L2.St} {own : List Nat} : L2.wipe (L2.wipe σ own) own = L2.wipe σ own := by
  apply List.ext_getElem?
  intro j
  rw [wipe_get, wipe_get, L2.wipe_length]
  by_cases hj : j ∈ own
  · rw [if_pos hj, if_pos hj]
  · rw [if_neg hj, if_neg hj]
def tgs : List Nat → TGs
  | [] => gNil
  | i :: is => gCons (L2.gName i) (tgs is)
section
variable {K : KW} {g : Gh} {H : Hp}
theorem tgs_run : ∀ (is : List Nat) (pvs : List PV) (xs : List V) (s s' : Sl) (σ : L2.St), Sr K g H s σ → Rps K g H pvs xs → gNames is pvs s = some s' →
    ∃ σ', Sr K g H s' σ' ∧ (∀ Q : L2.St → Hp → Prop, Q σ' H → tgs is xs σ H Q) ∧ ∀ own : List Nat, (∀ i ∈ is, i ∈ own) → L2.wipe σ' own = L2.wipe σ own
  | [], [], _, s, s', σ, sr, .nil, h => by
    cases h
    exact ⟨σ, sr, fun Q q => ⟨rfl, q⟩, fun _ _ => rfl⟩
  | [], _ :: _, _, _, _, _, _, _, h => by cases h
  | _ :: _, [], _, _, _, _, _, _, h => by cases h
  | i :: is, pv :: pvs, x :: xs, s, s', σ, sr, .cons r1 r2, h => by
    obtain ⟨σ', h1, h2, h3⟩ := tgs_run is pvs xs _ s' (σ.set i (some x)) (sr.set r1 i) r2 h
    refine ⟨σ', h1, fun Q q => ⟨x, xs, rfl, h2 Q q⟩, fun own ho => ?_⟩
    rw [h3 own fun j hj => ho j (List.mem_cons_of_mem _ hj), wipe_set1 (ho i List.mem_cons_self)]
end
section
variable {X : Cx} {Ξ : XC} {c : Expr} {es : List Expr} {pos : Pos} {ft : ST} {K : KW}
theorem sgt_nil : PGs X [] (tgs []) := pgs_nil
theorem sgt_cons {is : List Nat} (i : Nat) {x : Str} {p : Pos} (hN : X.N.Nodup) (h2 : PGs X es (tgs is)) (hi : X.N[i]? = some x := by rfl) (hx : Loc X.env.scope x := by first | exact Or.inl rfl | exact Or.inr rfl) (hf : X.fn x = true ∨ X.env.scope.names.lookup x = some .local := by first | exact .inl rfl | exact .inr rfl | assumption)
    (hs : (assignEach (.Name x p :: es) X.env).map (·.2) = assign (.Name x p) X.env :: (assignEach es X.env).map (·.2) := by rfl) : PGs X (.Name x p :: es) (tgs (i :: is)) := pgs_cons (pg_name hN hi hx hf) h2 hs
theorem rd_lcT {own : List Nat} {it : SI} {is : List Nat} {n : Nat} {ft : ST} {fe : SE} (hi : ∀ i ∈ is, i ∈ own) (hn : is.length = n) {σ : L2.St} {H : Hp} {Q : VK}
    (h : rdE K Ξ (eLc own it (TT.gTup is) ft fe) σ H Q) : tLc (rdI K Ξ it) (L2.gTup K n (tgs is)) (rdT K X0 ft) (rdE K X0 fe) own σ H Q :=
  rd_lc (fun v σ H Q ⟨g, s, m, pv, em, sr, rv, q⟩ => by
    unfold TT.gTup at q
    split at q
    · rename_i vs
      obtain ⟨a, ws, rfl, ha, r1⟩ := rv.tup_inv
      split at q
      · rename_i s' hs
        obtain ⟨σ', h1, h2, h3⟩ := tgs_run is vs ws s s' _ sr r1 hs
        refine ⟨a, ws, rfl, ha, by rw [← r1.length, gNames_len _ _ _ _ hs, hn], h2 _ ⟨?_, q g H σ' (Ext.refl _ _) em h1⟩⟩
        rw [h3 own hi, wipe_wipe]
      · exact q.elim
    · exact q.elim) h
theorem se_lcT {elt iter : Expr} {ifs : List Expr} {scope : Scope} {own : List (Str × Nat)} {oi : List Nat} {tes : List Expr} {tk : Nat} {tp : Pos} {it : SI} (is : List Nat) {fe : SE} (hc : X.calm = true) (hN : X.N.Nodup) (hi : PI X (.Tuple tes tk tp) iter (rdI X.kw Ξ it)) (ok : BlkOk X.N X.env.scope scope own)
    (hg : ∀ (s : Shared) (H : Hp) (C : Addr) (cl : List (Str × Addr)) (fp : List Addr), PG (X.blk s H scope (compEnvC scope cl C X.env) fp) (.Tuple tes tk tp) (L2.gTup X.kw is.length (tgs is))) (ht : ∀ (s : Shared) (H : Hp) (C : Addr) (cl : List (Str × Addr)) (fp : List Addr), PTs (X.blk s H scope (compEnvC scope cl C X.env) fp) ifs (rdT X.kw X0 ft))
    (he : ∀ (s : Shared) (H : Hp) (C : Addr) (cl : List (Str × Addr)) (fp : List Addr), PE (X.blk s H scope (compEnvC scope cl C X.env) fp) elt (rdE X.kw X0 fe)) (hs : ∀ x, foldedSetIterable iter X.env x = pure x := by intro _; rfl) (ho : own.map (·.2) = oi := by rfl) (hm : ∀ i ∈ is, i ∈ own.map (·.2) := by decide) :
    PE X (.ListComp elt [⟨.Tuple tes tk tp, iter, ifs, 0⟩] scope pos) (rdE X.kw Ξ (eLc oi it (TT.gTup is) ft fe)) := by
  subst ho
  exact PE_imp (pe_lc hc hN hi ok hg ht he hs) fun σ H Q h => rd_lcT hm rfl h
theorem ss_setLcT {elt iter : Expr} {ifs : List Expr} {scope : Scope} {own : List (Str × Nat)} {oi : List Nat} {y : Str} {py spos : Pos} {tes : List Expr} {tk : Nat} {tp : Pos} {it : SI} (iy : Nat) (is : List Nat) {fe : SE} (hc : X.calm = true) (hN : X.N.Nodup) (hi : PI X (.Tuple tes tk tp) iter (rdI X.kw Ξ it)) (ok : BlkOk X.N X.env.scope scope own)
    (hg : ∀ (s : Shared) (H : Hp) (C : Addr) (cl : List (Str × Addr)) (fp : List Addr), PG (X.blk s H scope (compEnvC scope cl C X.env) fp) (.Tuple tes tk tp) (L2.gTup X.kw is.length (tgs is))) (ht : ∀ (s : Shared) (H : Hp) (C : Addr) (cl : List (Str × Addr)) (fp : List Addr), PTs (X.blk s H scope (compEnvC scope cl C X.env) fp) ifs (rdT X.kw X0 ft))
    (he : ∀ (s : Shared) (H : Hp) (C : Addr) (cl : List (Str × Addr)) (fp : List Addr), PE (X.blk s H scope (compEnvC scope cl C X.env) fp) elt (rdE X.kw X0 fe)) (hsw : swapsWith (.ListComp elt [⟨.Tuple tes tk tp, iter, ifs, 0⟩] scope pos) (some (.Name y py)) spos.line X.env = pure true)
    (hy : X.N[iy]? = some y := by rfl) (hyl : X.env.scope.names.lookup y = some .local := by rfl) (hs : ∀ x, foldedSetIterable iter X.env x = pure x := by intro _; rfl) (ho : own.map (·.2) = oi := by rfl) (hm : ∀ i ∈ is, i ∈ own.map (·.2) := by decide) :
    PS X (.Assign [.Name y py] (.ListComp elt [⟨.Tuple tes tk tp, iter, ifs, 0⟩] scope pos) spos) (rdS X.kw Ξ (sAsg (eLc oi it (TT.gTup is) ft fe) (TT.gName iy))) := by
  subst ho
  exact PS_imp (ps_setLc hc hN hy hyl hsw hi ok hg ht he hs) fun D σ H ⟨g, s, m, em, sr, q⟩ => by
    refine rd_lcT (Ξ := Ξ) hm rfl ⟨g, s, m, em, sr, QR.bind q fun p hp q1 g1 H1 V x1 e1 r1 => ?_⟩
    exact QS_nx e1 ((sr.ext em x1).set r1 iy) (QS.later x1 q1)
end

/-! ### what a def of the text is worth to its callers -/
section
variable {P : Program} {w : World} {K : KW} {mg : Str → Option Value} {base : Heap}
/-- a def by this name keeps this promise, by at most level k -/
def Has (P : Program) (w : World) (K : KW) (mg : Str → Option Value) (base : Heap) (x : Str) (k : Nat) (sp : Sp) : Prop :=
  ∃ f fd ps, FnOk P w K mg base CX0 k f fd ps sp ∧ mg x = some (.ref f) ∧ PySem.W.keepIn K (.ref f) = true ∧ Binds K fd ps []
theorem Has.mono {x : Str} {j k : Nat} {sp : Sp} (h : Has P w K mg base x j sp) (hk : j ≤ k) : Has P w K mg base x k sp := let ⟨f, fd, ps, a, b, c, d⟩ := h; ⟨f, fd, ps, a.mono hk, b, c, d⟩
theorem Has.toP {x : Str} {k n N : Nat} {b : SS} (h : Has P w K mg base x k (spI K n (bodyI N n b))) : Has P w K mg base x k (spP K n (bodyP N n b)) := let ⟨f, fd, ps, a, b, c, d⟩ := h; ⟨f, fd, ps, TT.FnOk.toP a, b, c, d⟩
theorem Has.mirP {x : Str} {k n : Nat} {F G : PF} (h : Has P w K mg base x k (spP K n F)) (i : ∀ as v, as.length = n → G as = .ok v → F as = .ok v) : Has P w K mg base x k (spP K n G) := let ⟨f, fd, ps, a, b, c, d⟩ := h; ⟨f, fd, ps, TT.FnOk.mirP a i, b, c, d⟩
theorem Has.mirI {x : Str} {k n : Nat} {F G : IF} (h : Has P w K mg base x k (spI K n F)) (i : ∀ as m v m', as.length = n → G as m = .ok (v, m') → ∃ gar, F as m = .ok (v, m' ++ gar) ∧ (gar = [] ∨ (m'.length = m.length ∧ v.pu = true ∧ Calm1 m m'))) : Has P w K mg base x k (spI K n G) := let ⟨f, fd, ps, a, b, c, d⟩ := h; ⟨f, fd, ps, TT.FnOk.mirI a i, b, c, d⟩
/-- a def, by its body -/
theorem has_def {x : Str} {st : Stmt} {f : Addr} {fd : FuncData} {N ps : List Str} {k : Nat} {b : SS} (F : Fun K x x st f fd) (hm : mg x = some (.ref f)) (S : FnScope N ps (defScope st)) (hN : ps.length ≤ N.length)
    (hb : ∀ (kV doc pm : Value) (an : Option Addr) (cdv ct : Value) (us : List Value), us.length = ps.length → bindArgs (PySem.W.fnOf x x (defArgs st) (defBody st) (defScope st) .none kV doc pm an cdv ct) ⟨us, []⟩ = pure (ps.zip us))
    (hbody : ∀ (cdv : Value) (A : Around) (outer : List Env) (s : Shared) (H : Hp) (E : XK), Room k (A.deeper (envOfC x (defScope st) s.heap.objs.size f cdv)) →
      PSs (cxOf CX0 P w K mg base N x (defScope st) f cdv A outer s H E).nox (defBody st) (rdS K X0 b)) : Has P w K mg base x (k + 1) (spI K ps.length (bodyI N.length ps.length b)) :=
  ⟨f, fd, ps, defI F S hN hbody, hm, F.kp, F.binds hb⟩
end
section
variable {X : Cx} {Ξ : XC} {k : Nat} {x : Str} {p pos : Pos} {e : Expr} {es : List Expr} {fs : SA}
theorem sh_callI {n : Nat} {F : IF} (h : Has X.prog X.w X.kw X.mg X.base x k (spI X.kw n F)) (hr : Room k X.A) (ha : PA X (e :: es) (rdA X.kw Ξ fs)) (hl : ∀ s m xs m', fs s m = .ok (xs, m') → xs.length = (e :: es).length)
    (hn : (e :: es).length = n := by rfl) (hg : Gl X x := by rfl) (hdb : (x == ("__debug__" : Str)) = false := by decide) (he : starEach (e :: es) X.env = (false, eval e X.env) :: starEach es X.env := by rfl) (hpl : (backTo pos (starEach es X.env)).any (·.1) = false := by rfl) :
    PE X (.Call (.Name x p) (e :: es) [] pos) (rdE X.kw Ξ (eN (cI F) fs)) := let ⟨f, fd, ps, a, b, c, d⟩ := h; se_callI a hr b c d ha hl hn hg hdb he hpl
theorem sh_callI0 {F : IF} (h : Has X.prog X.w X.kw X.mg X.base x k (spI X.kw 0 F)) (hr : Room k X.A) (hg : Gl X x := by rfl) (hdb : (x == ("__debug__" : Str)) = false := by decide) : PE X (.Call (.Name x p) [] [] pos) (rdE X.kw Ξ (eN (cI F) aNil)) := let ⟨f, fd, ps, a, b, c, d⟩ := h; se_callI0 a hr b c d hg hdb
theorem sh_callP {n : Nat} {F : PF} (h : Has X.prog X.w X.kw X.mg X.base x k (spP X.kw n F)) (hr : Room k X.A) (ha : PA X (e :: es) (rdA X.kw Ξ fs)) (hl : ∀ s m xs m', fs s m = .ok (xs, m') → xs.length = (e :: es).length)
    (hn : (e :: es).length = n := by rfl) (hg : Gl X x := by rfl) (hdb : (x == ("__debug__" : Str)) = false := by decide) (he : starEach (e :: es) X.env = (false, eval e X.env) :: starEach es X.env := by rfl) (hpl : (backTo pos (starEach es X.env)).any (·.1) = false := by rfl) :
    PE X (.Call (.Name x p) (e :: es) [] pos) (rdE X.kw Ξ (eN (cP F) fs)) := let ⟨f, fd, ps, a, b, c, d⟩ := h; se_callP a hr b c d ha hl hn hg hdb he hpl
theorem sh_callP0 {F : PF} (h : Has X.prog X.w X.kw X.mg X.base x k (spP X.kw 0 F)) (hr : Room k X.A) (hg : Gl X x := by rfl) (hdb : (x == ("__debug__" : Str)) = false := by decide) : PE X (.Call (.Name x p) [] [] pos) (rdE X.kw Ξ (eN (cP F) aNil)) := let ⟨f, fd, ps, a, b, c, d⟩ := h; se_callP0 a hr b c d hg hdb
/-- a constant of the module -/
def HasC (K : KW) (mg : Str → Option Value) (x : Str) (v : PV) : Prop := ∃ u w, mg x = some u ∧ RelV w u ∧ ∀ g H, Rp K g H v w
theorem sh_glob {v : PV} {pos : Pos} (h : HasC X.kw X.mg x v) (hg : Gl X x := by rfl) (hd : (x == ("__debug__" : Str)) = false := by decide) : PE X (.Name x pos) (rdE X.kw Ξ (eC v)) := let ⟨u, w, a, b, c⟩ := h; se_glob hg a b c hd
end
theorem bb_len : bootBuiltins "len" = some (.builtin "len") := by decide +kernel
theorem bb_int : bootBuiltins "int" = some (.type "int") := by decide +kernel
theorem bb_str : bootBuiltins "str" = some (.type "str") := by decide +kernel
theorem bb_bool : bootBuiltins "bool" = some (.type "bool") := by decide +kernel
theorem bb_list : bootBuiltins "list" = some (.type "list") := by decide +kernel
theorem bb_tuple : bootBuiltins "tuple" = some (.type "tuple") := by decide +kernel
theorem bb_isinstance : bootBuiltins "isinstance" = some (.builtin "isinstance") := by decide +kernel
theorem bb_min : bootBuiltins "min" = some (.builtin "min") := by decide +kernel
theorem bb_max : bootBuiltins "max" = some (.builtin "max") := by decide +kernel
theorem bb_all : bootBuiltins "all" = some (.builtin "all") := by decide +kernel
theorem bb_repr : bootBuiltins "repr" = some (.builtin "repr") := by decide +kernel
theorem bb_sum : bootBuiltins "sum" = some (.builtin "sum") := by decide +kernel
theorem bb_sorted : bootBuiltins "sorted" = some (.builtin "sorted") := by decide +kernel
end TT
end

section
set_option Elab.async false
set_option linter.all false
set_option autoImplicit false
set_option maxRecDepth 100000
/-! TT: the law's own promise -/
namespace TT
open PySem PySem.Spec PyProof.Rows L2
def spLaw (K : KW) : Sp := fun vs H Q _ => ∃ (a : Addr) (ns : List Int), vs = [.ref a] ∧ SqL K H a (ns.map V.int) ∧ ns.length ≤ 63 ∧ ∀ H', Q (.bl true) H'
/-- the heap without its tables -/
def ntOf (H : Hp) : Hp := fun a => match H a with
  | some (.tbl _) => none
  | u => u
theorem ntOf_inv {H : Hp} {a : Addr} {u : HO} (h : ntOf H a = some u) : H a = some u ∧ NT u := by
  unfold ntOf at h
  split at h
  · cases h
  · rename_i hn
    exact ⟨h, fun ps z => hn ps (by rw [h, z])⟩
theorem ntOf_sq {K : KW} {H : Hp} {a : Addr} {xs : List V} (h : SqL K H a xs) : SqL K (ntOf H) a xs := by
  rcases h with (h | ⟨o, h⟩) | h
  · exact .inl (.inl (by unfold ntOf; rw [h]))
  · exact .inl (.inr ⟨o, by unfold ntOf; rw [h]⟩)
  · exact .inr h
theorem rps_ints {K : KW} {g : Gh} {H : Hp} : ∀ ns : List Int, Rps K g H (ns.map PV.int) (ns.map V.int)
  | [] => .nil
  | n :: r => .cons (.int n) (rps_ints r)
theorem spLaw_of {K : KW} {F : IF} (h : ∀ ns : List Int, ns.length ≤ 63 → ∃ m, F [.fz (ns.map PV.int)] [] = .ok (.bl true, m)) {vs : List V} {H : Hp} {Q : VK} {E : XK} (q : spLaw K vs H Q E) : spI K 1 F vs H Q E := by
  obtain ⟨a, ns, rfl, hS, hl, q⟩ := q
  refine ⟨⟨fun _ => none, ntOf H, []⟩, [], [.fz (ns.map PV.int)], rfl, ⟨(fun n o h => by simp at h), (fun n a h => nomatch h), (fun n k a h _ => nomatch h), (fun a u h => ⟨(ntOf_inv h).1, (fun n z => nomatch z)⟩), (fun a u h => (ntOf_inv h).2), (fun p hp => by simp at hp)⟩, .cons (.fz (ntOf_sq hS) (rps_ints ns)) .nil, ?_⟩
  obtain ⟨m, hm⟩ := h ns hl
  unfold cI
  rw [hm]
  intro g' H' V x e r
  cases r.bl_inv
  exact q H'
/-- the law's def: its function over every base, from what it has there -/
theorem law_fn {P : Program} {w : World} {K : KW} {mg : Str → Option Value} {base : Heap} {x : Str} {st : Stmt} {f : Addr} {fd : FuncData} {N : List Str} {p : Str} {k : Nat} {b : SS} (F : Fun K x x st f fd) (S : FnScope N [p] (defScope st)) (hN : 1 ≤ N.length)
    (hbody : ∀ (cdv : Value) (A : Around) (outer : List Env) (s : Shared) (H : Hp) (E : XK), Room k (A.deeper (envOfC x (defScope st) s.heap.objs.size f cdv)) →
      PSs (cxOf CX0 P w K mg base N x (defScope st) f cdv A outer s H E).nox (defBody st) (rdS K X0 b))
    (h : ∀ ns : List Int, ns.length ≤ 63 → ∃ m, bodyI N.length 1 b [.fz (ns.map PV.int)] [] = .ok (.bl true, m)) : FnOk P w K mg base CX0 (k + 1) f fd [p] (spLaw K) :=
  (defI (ps := [p]) F S hN hbody).imp fun _ _ _ _ => spLaw_of h
/-! ### constants of the module -/
theorem HasC.int {K : KW} {mg : Str → Option Value} {x : Str} {i : Int} {t : Tok} (h : mg x = some (.int i t)) : HasC K mg x (.int i) := ⟨_, .int i, h, ⟨t, rfl⟩, fun _ _ => .int i⟩
theorem HasC.str {K : KW} {mg : Str → Option Value} {x : Str} {z : Str} {t : Tok} (l : List Nat) (h : mg x = some (.str z t)) (e : z = ⟨l.toArray⟩) : HasC K mg x (.str l) := by
  subst e; exact ⟨_, .str _, h, ⟨t, rfl⟩, fun _ _ => .str l⟩
/-- a value of the written part -/
inductive KV1 (K : KW) : PV → Value → Prop
  | non : KV1 K .non .none
  | bl (b : Bool) : KV1 K (.bl b) (.bool b)
  | int (i : Int) (t : Tok) : KV1 K (.int i) (.int i t)
  | str (l : List Nat) (t : Tok) : KV1 K (.str l) (.str ⟨l.toArray⟩ t)
inductive KVs (K : KW) (R : PV → Value → Prop) : List PV → List Value → Prop
  | nil : KVs K R [] []
  | cons {x : PV} {xs : List PV} {u : Value} {us : List Value} : R x u → KVs K R xs us → KVs K R (x :: xs) (u :: us)
theorem kv1_rp {K : KW} {g : Gh} {H : Hp} {x : PV} {u : Value} (h : KV1 K x u) : ∃ v, RelV v u ∧ Rp K g H x v := by
  cases h with
  | non => exact ⟨.non, rfl, .non⟩
  | bl b => exact ⟨.bl b, rfl, .bl b⟩
  | int i t => exact ⟨.int i, ⟨t, rfl⟩, .int i⟩
  | str l t => exact ⟨.str _, ⟨t, rfl⟩, .str l⟩
/-- a tuple of the written part whose items are R -/
def KTup (K : KW) (R : PV → Value → Prop) (xs : List PV) (a : Addr) : Prop := ∃ (oc : Value) (od : Option Addr) (us : List Value) (n : Nat) (sl : Array (Option Value)), oc = .type "tuple" ∧ K.K.lookup a = some ⟨oc, od, .seq us.toArray n, sl⟩ ∧ us.length ≤ 1000 ∧ KVs K R xs us
theorem ktup_rp {K : KW} {R : PV → Value → Prop} (hR : ∀ x u, R x u → ∃ v, RelV v u ∧ ∀ g H, Rp K g H x v) {xs : List PV} {a : Addr} (h : KTup K R xs a) : ∀ g H, Rp K g H (.tup xs) (.ref a) := by
  obtain ⟨oc, od, us, n, sl, rfl, hl, hs, hk⟩ := h
  have : ∃ vs, Vals vs us ∧ ∀ g H, Rps K g H xs vs := by
    clear hl hs
    induction hk with
    | nil => exact ⟨[], .nil, fun _ _ => .nil⟩
    | cons h1 _ ih =>
      obtain ⟨vs, a, b⟩ := ih
      obtain ⟨v, c, d⟩ := hR _ _ h1
      exact ⟨v :: vs, .cons c a, fun g H => .cons (d g H) (b g H)⟩
  obtain ⟨vs, hv, hr⟩ := this
  intro g H
  refine .tup (.inr ⟨_, us.toArray, n, hl, rfl, rfl, ?_, ?_⟩) (hr g H)
  · rw [List.size_toArray, sizeLine_eq]; omega
  · simpa using hv
theorem HasC.tup {K : KW} {mg : Str → Option Value} {x : Str} {a : Addr} {xs : List PV} (h : mg x = some (.ref a)) (k : KTup K (KV1 K) xs a) : HasC K mg x (.tup xs) :=
  ⟨_, .ref a, h, rfl, ktup_rp (fun x u h => by
    cases h with
    | non => exact ⟨.non, rfl, fun _ _ => .non⟩
    | bl b => exact ⟨.bl b, rfl, fun _ _ => .bl b⟩
    | int i t => exact ⟨.int i, ⟨t, rfl⟩, fun _ _ => .int i⟩
    | str l t => exact ⟨.str _, ⟨t, rfl⟩, fun _ _ => .str l⟩) k⟩
/-- a tuple of tuples -/
def KT2 (K : KW) : PV → Value → Prop := fun x u => KV1 K x u ∨ ∃ xs a, x = .tup xs ∧ u = .ref a ∧ KTup K (KV1 K) xs a
theorem HasC.tup2 {K : KW} {mg : Str → Option Value} {x : Str} {a : Addr} {xs : List PV} (h : mg x = some (.ref a)) (k : KTup K (KT2 K) xs a) : HasC K mg x (.tup xs) :=
  ⟨_, .ref a, h, rfl, ktup_rp (fun x u h => by
    have base : ∀ (x : PV) (u : Value), KV1 K x u → ∃ v, RelV v u ∧ ∀ g H, Rp K g H x v := fun x u h => by
      cases h with
      | non => exact ⟨.non, rfl, fun _ _ => .non⟩
      | bl b => exact ⟨.bl b, rfl, fun _ _ => .bl b⟩
      | int i t => exact ⟨.int i, ⟨t, rfl⟩, fun _ _ => .int i⟩
      | str l t => exact ⟨.str _, ⟨t, rfl⟩, fun _ _ => .str l⟩
    rcases h with h | ⟨xs, a, rfl, rfl, h⟩
    · exact base x u h
    · exact ⟨.ref a, rfl, ktup_rp base h⟩) k⟩
end TT
end

section
set_option Elab.async false
set_option linter.all false
set_option autoImplicit false
set_option maxRecDepth 100000
/-! TT: unpacking of lists, texts searched, calls with keywords -/
namespace TT
open PySem PySem.Spec PyProof.Rows L2
section
variable {X : Cx} {Ξ : XC} {a b c e o : Expr} {es : List Expr} {pos : Pos} {fa fb fc : SE} {ft : ST} {K : KW}
/-- a, b, .. = a list -/
theorem sg_seq {is : List Nat} {k : Nat} (n : Nat) (hc : X.calm = true) (h : PGs X es (rdGs X.kw Ξ is)) (hl : is.length = n := by rfl) (hn : (assignEach es X.env).length = n := by rfl) (hst : (assignEach es X.env).findIdx? (·.1) = none := by rfl) : PG X (.Tuple es k pos) (rdG X.kw Ξ (gUnp is)) :=
  PG_imp (pg_unl hc h hn hst) fun v σ H Q ⟨g, s, m, pv, em, sr, rv, q⟩ => by
    unfold gUnp at q
    split at q
    · rename_i vs hv
      obtain ⟨a, ws, rfl, ha, r1⟩ := em.look rv hv
      split at q
      · rename_i s' hs
        have hlen : vs.length = n := by rw [← hl]; exact gNames_len _ _ _ _ hs
        exact ⟨a, ws, rfl, SqL.of ha, by rw [← r1.length]; exact hlen, g, s, m, vs, em, sr, r1, s', hs, fun σ' sr' => q g H σ' (Ext.refl _ _) em sr'⟩
      · exact q.elim
    · exact q.elim
/-! ### a sign in a text of two -/
theorem occ2 (p q c : Nat) : Builtin.Str.occurrences ⟨#[p, q]⟩ ⟨#[c]⟩ 0 2 1 = if c = p then [0] else if c = q then [1] else [] := by
  have one : ∀ x y : Nat, ((#[x] : Array Nat) == #[y]) = decide (y = x) := fun x y => by
    by_cases h : y = x
    · subst h; simp
    · rw [decide_eq_false h]
      exact beq_eq_false_iff_ne.mpr fun z => h (by injection z with z; injection z with z; exact z.symm)
  have s0 : Builtin.Str.subAt ⟨#[p, q]⟩ ⟨#[c]⟩ 0 = decide (c = p) := one p c
  have s1 : Builtin.Str.subAt ⟨#[p, q]⟩ ⟨#[c]⟩ 1 = decide (c = q) := one q c
  have l1 : (⟨#[c]⟩ : Str).length = 1 := rfl
  rw [StrLaws.occ_eq]
  have lr : List.range' 0 (2 + 1 - 0) = [0, 1, 2] := rfl
  rw [lr]
  simp only [List.forIn_cons, List.forIn_nil, StrLaws.occBody, s0, s1, l1]
  by_cases h : c = p
  · simp [h]
  · by_cases h' : c = q
    · subst h'; simp [h]
    · simp [h, h']
theorem mt_tIndexS : MtR X "str.index" (rdM X.kw Ξ mIndexS) := by
  refine MtR_imp mt_sindex fun x xs H Q ⟨g, m, a, as, e, ra, rs, q⟩ => ?_
  unfold mIndexS at q
  split at q
  · rename_i p r c
    cases ra.str_inv
    cases rs with
    | cons r1 r2 =>
      cases r2
      cases r1.str_inv
      have := occ2 p r c
      by_cases h : c = p
      · rw [if_pos h] at q this
        exact ⟨_, _, 0, [], rfl, rfl, this, QE.ret e (.int 0) q⟩
      · rw [if_neg h] at q this
        by_cases h' : c = r
        · rw [if_pos h'] at q this
          exact ⟨_, _, 1, [], rfl, rfl, this, QE.ret e (.int 1) q⟩
        · rw [if_neg h'] at q; exact q.elim
  · exact q.elim
theorem mt_tFindS : MtR X "str.find" (rdM X.kw Ξ mFindS) := by
  refine MtR_imp mt_find fun x xs H Q ⟨g, m, a, as, e, ra, rs, q⟩ => ?_
  unfold mFindS at q
  split at q
  · rename_i p r c
    cases ra.str_inv
    cases rs with
    | cons r1 r2 =>
      cases r2
      cases r1.str_inv
      have := occ2 p r c
      refine ⟨_, _, rfl, rfl, ?_⟩
      have hf : Txt.find ⟨#[p, r]⟩ ⟨#[c]⟩ = if c = p then 0 else if c = r then 1 else -1 := by
        show (match Builtin.Str.occurrences ⟨#[p, r]⟩ ⟨#[c]⟩ 0 2 1 with | i :: _ => (i : Int) | [] => -1) = _
        rw [this]
        by_cases h : c = p
        · rw [if_pos h, if_pos h]; rfl
        · by_cases h' : c = r
          · rw [if_neg h, if_neg h, if_pos h', if_pos h']; rfl
          · rw [if_neg h, if_neg h, if_neg h', if_neg h']
      show Q (.int (Txt.find ⟨#[p, r]⟩ ⟨#[c]⟩)) H
      rw [hf]
      exact QE.ret e (.int _) q
  · exact q.elim
end
/-! ### calls with keywords -/
section
variable {P : Program} {w : World} {K : KW} {mg : Str → Option Value} {base : Heap}
def HasK (P : Program) (w : World) (K : KW) (mg : Str → Option Value) (base : Heap) (x : Str) (k n : Nat) (ks : List Str) (sp : Sp) : Prop :=
  ∃ f fd ps, FnOk P w K mg base CX0 k f fd ps sp ∧ mg x = some (.ref f) ∧ PySem.W.keepIn K (.ref f) = true ∧ KBn K fd ps n ks (fun us ws => us ++ ws) (fun vs zs => vs ++ zs)
def HasD (P : Program) (w : World) (K : KW) (mg : Str → Option Value) (base : Heap) (x : Str) (k : Nat) (ds : List PV) (sp : Sp) : Prop :=
  ∃ f fd ps us zs, FnOk P w K mg base CX0 k f fd ps sp ∧ mg x = some (.ref f) ∧ PySem.W.keepIn K (.ref f) = true ∧ Binds K fd ps us ∧ Vals zs us ∧ ∀ g H, Rps K g H ds zs
theorem HasK.toP {x : Str} {k n N j : Nat} {ks : List Str} {b : SS} (h : HasK P w K mg base x k j ks (spI K n (bodyI N n b))) : HasK P w K mg base x k j ks (spP K n (bodyP N n b)) := let ⟨f, fd, ps, a, b, c, d⟩ := h; ⟨f, fd, ps, TT.FnOk.toP a, b, c, d⟩
theorem HasD.toP {x : Str} {k n N : Nat} {ds : List PV} {b : SS} (h : HasD P w K mg base x k ds (spI K n (bodyI N n b))) : HasD P w K mg base x k ds (spP K n (bodyP N n b)) := let ⟨f, fd, ps, us, zs, a, b, c, d, e⟩ := h; ⟨f, fd, ps, us, zs, TT.FnOk.toP a, b, c, d, e⟩
theorem hasK_fn {x : Str} {st : Stmt} {f : Addr} {fd : FuncData} {ps : List Str} {k : Nat} {sp : Sp} (n : Nat) (ks : List Str) (a : FnOk P w K mg base CX0 k f fd ps sp) (F : Fun K x x st f fd) (hm : mg x = some (.ref f))
    (hb : ∀ (kV doc pm : Value) (an : Option Addr) (cdv ct : Value) (us ws : List Value), us.length = n → ws.length = ks.length → bindArgs (PySem.W.fnOf x x (defArgs st) (defBody st) (defScope st) .none kV doc pm an cdv ct) ⟨us, ks.zip ws⟩ = pure (ps.zip (us ++ ws))) : HasK P w K mg base x k n ks sp := by
  refine ⟨f, fd, ps, a, hm, F.kp, ⟨fun s us ws _ l1 l2 => ?_, fun r1 r2 => r1.append r2⟩⟩
  obtain ⟨oc, od, kV, doc, pm, an, cdv, ct, osl, rfl, lk, hcd⟩ := F.ex
  exact .of_eq (hb kV doc pm an cdv ct us ws l1 l2)
theorem funD_mk {x qual : Str} {st : Stmt} {f D : Addr} {oc : Value} {od an : Option Addr} {osl : Array (Option Value)} {doc pm cdv ct : Value} {kws : List (Str × V)} (l : K.K.lookup f = some ⟨oc, od, .func (PySem.W.fnOf x qual (defArgs st) (defBody st) (defScope st) .none (.ref D) doc pm an cdv ct), osl⟩)
    (c : PySem.W.codeIn K cdv qual = true) (k : PySem.W.keepIn K (.ref f) = true) (d : ∀ q ∈ kws, ∃ u, PySem.W.nsIn K D q.1 = some (some u) ∧ RelV q.2 u) : FunD K x qual (defArgs st) (defBody st) (defScope st) [] kws f (PySem.W.fnOf x qual (defArgs st) (defBody st) (defScope st) .none (.ref D) doc pm an cdv ct) :=
  ⟨⟨oc, od, .none, .ref D, doc, pm, an, cdv, ct, osl, rfl, l, c, .inl ⟨rfl, rfl⟩, .inr ⟨D, rfl, d⟩⟩, k⟩
theorem hasD_fn {x : Str} {st : Stmt} {f : Addr} {fd : FuncData} {ps : List Str} {k : Nat} {sp : Sp} {kws : List (Str × V)} {ds : List PV} (n : Nat) (a : FnOk P w K mg base CX0 k f fd ps sp) (hm : mg x = some (.ref f)) (F : FunD K x x (defArgs st) (defBody st) (defScope st) [] kws f fd) (hk : kws ≠ []) (hn : n + kws.length = ps.length)
    (hc : ∀ (D : Addr) (doc pm : Value) (an : Option Addr) (cdv ct : Value) (us ks : List Value), us.length = n → ks.length = kws.length →
      KwChain D ((kws.map (·.1)).zip ks) (bindArgs (PySem.W.fnOf x x (defArgs st) (defBody st) (defScope st) .none (.ref D) doc pm an cdv ct) ⟨us, []⟩) (ps.zip (us ++ ks))) (hd : ∀ g H, Rps K g H ds (kws.map (·.2))) : HasD P w K mg base x k ds sp := by
  obtain ⟨us, hv, hb⟩ := F.binds0 n hk hn hc
  exact ⟨f, fd, ps, us, _, a, hm, F.kp, hb, hv, hd⟩
end
section
variable {X : Cx} {Ξ : XC} {k : Nat} {x : Str} {p pos kpos : Pos} {e : Expr} {es : List Expr} {kws : List Keyword} {fs gs : SA} {fa : SE} {nm : Option Str}
theorem PK_imp {t t' : TA} (h : PK X kws t) (f : ∀ σ H Q, t' σ H Q → t σ H Q) : PK X kws t' := ⟨fun pos pins s σ H Q I q => h.run pos pins s σ H Q I (f σ H Q q)⟩
theorem sk_nil : PK X [] (rdA X.kw Ξ aNil) := PK_imp pk_nil fun σ H Q ⟨g, s, m, em, sr, q⟩ => q g H [] (Ext.refl _ _) em .nil
theorem sk_cons (ha : PE X e (rdE X.kw Ξ fa)) (hr : PK X kws (rdA X.kw Ξ gs)) : PK X (⟨nm, e, kpos⟩ :: kws) (rdA X.kw Ξ (aCons fa gs)) :=
  PK_imp (pk_cons ha hr) fun σ H Q ⟨g, s, m, em, sr, q⟩ => by
    refine ⟨g, s, m, em, sr, QR.bind q fun p hp q1 g1 H1 V x1 e1 r1 => ?_⟩
    refine ⟨g1, s, p.2, e1, sr.ext em x1, QR.bind (QA.later x1 q1) fun p2 hp2 q2 g2 H2 W x2 e2 r2 => ?_⟩
    exact q2 g2 H2 _ x2 e2 (.cons (r1.ext e1 x2) r2)
theorem al_kcons {fa : SE} {f : SA} {n : Nat} (h : ∀ s m xs m', f s m = .ok (xs, m') → xs.length = n) : ∀ s m xs m', aCons fa f s m = .ok (xs, m') → xs.length = n + 1 := fun s m xs m' he => by
  obtain ⟨p, h1, h2⟩ := Rs.bind_eq_ok he
  obtain ⟨p2, h3, h4⟩ := Rs.bind_eq_ok h2
  cases h4
  rw [List.length_cons, h _ _ _ _ h3]
theorem al_knil : ∀ s m xs m', aNil s m = .ok (xs, m') → xs.length = 0 := fun s m xs m' h => by cases h; rfl
theorem sh_callK {n : Nat} {ks : List Str} {F : PF} (N : Nat) (h : HasK X.prog X.w X.kw X.mg X.base x k n ks (spP X.kw N F)) (hr : Room k X.A) (ha : PA X (e :: es) (rdA X.kw Ξ fs)) (hl : ∀ s m xs m', fs s m = .ok (xs, m') → xs.length = (e :: es).length)
    (hkw : PK X kws (rdA X.kw Ξ gs)) (hl2 : ∀ s m xs m', gs s m = .ok (xs, m') → xs.length = ks.length)
    (hn : (e :: es).length = n := by rfl) (hN : n + ks.length = N := by rfl) (hg : Gl X x := by rfl) (hall : (backToKw pos (keywordEach kws X.env)).all (·.1.isSome) = true := by rfl) (hks : (backToKw pos (keywordEach kws X.env)).filterMap (·.1) = ks := by rfl)
    (hdb : (x == ("__debug__" : Str)) = false := by decide) (he : starEach (e :: es) X.env = (false, eval e X.env) :: starEach es X.env := by rfl)
    (hpl : ((backTo pos (starEach (e :: es) X.env)).any (·.1) || (backToKw pos (keywordEach kws X.env)).any (·.1.isNone)) = false := by rfl) :
    PE X (.Call (.Name x p) (e :: es) kws pos) (rdE X.kw Ξ (eNK (cP F) fs gs)) := by
  obtain ⟨f, fd, ps, a, b, c, d⟩ := h
  refine PE_imp (pe_callN a hr hg b c d pass0 ha hkw hall hks hdb he hpl) fun σ H Q ⟨g, s, m, em, sr, q⟩ => ?_
  refine ⟨g, s, m, em, sr, QR.bind q fun p hp q1 g1 H1 V x1 e1 r1 => ?_⟩
  refine ⟨g1, s, p.2, e1, sr.ext em x1, QR.bind (QE.later x1 q1) fun p2 hp2 q2 g2 H2 W x2 e2 r2 => ?_⟩
  have l1 := hl _ _ _ _ hp
  have l2 := hl2 _ _ _ _ hp2
  refine ⟨by rw [← r1.length, l1, hn], by rw [← r2.length, l2], g2, p2.2, p.1 ++ p2.1, by rw [List.length_append, l1, l2, hn, hN], e2, (r1.ext e1 x2).append r2, cP_X0 (QE.later x2 q2)⟩
theorem sh_callD {ds : List PV} {F : PF} (N : Nat) (h : HasD X.prog X.w X.kw X.mg X.base x k ds (spP X.kw N F)) (hr : Room k X.A) (ha : PA X (e :: es) (rdA X.kw Ξ fs)) (hl : ∀ s m xs m', fs s m = .ok (xs, m') → xs.length = (e :: es).length)
    (hN : (e :: es).length + ds.length = N := by rfl) (hg : Gl X x := by rfl)
    (hdb : (x == ("__debug__" : Str)) = false := by decide) (he : starEach (e :: es) X.env = (false, eval e X.env) :: starEach es X.env := by rfl) (hpl : (backTo pos (starEach es X.env)).any (·.1) = false := by rfl) :
    PE X (.Call (.Name x p) (e :: es) [] pos) (rdE X.kw Ξ (eND (cP F) fs ds)) := by
  obtain ⟨f, fd, ps, us, zs, a, b, c, d, hv, hz⟩ := h
  refine PE_imp (pe_call a hr hg b c d hv pass0 ha hdb he hpl) fun σ H Q ⟨g, s, m, em, sr, q⟩ => ?_
  refine ⟨g, s, m, em, sr, QR.bind q fun p hp q1 g1 H1 V x1 e1 r1 => ?_⟩
  exact ⟨g1, p.2, p.1 ++ ds, by rw [List.length_append, hl _ _ _ _ hp, hN], e1, r1.append (hz _ _), cP_X0 (QE.later x1 q1)⟩
end
end TT
end

section
set_option Elab.async false
set_option linter.all false
set_option autoImplicit false
set_option maxRecDepth 100000
/-! TT: x[lo::st] of lists -/
namespace TT
open PySem PySem.Spec PyProof.Rows L2
inductive F2 {α β : Type} (R : α → β → Prop) : List α → List β → Prop
  | nil : F2 R [] []
  | cons {x : α} {y : β} {xs : List α} {ys : List β} : R x y → F2 R xs ys → F2 R (x :: xs) (y :: ys)
theorem pick_len {α β : Type} {xs : List α} {ys : List β} (h : xs.length = ys.length) {R : α → β → Prop} (g : ∀ (i : Nat) x y, xs[i]? = some x → ys[i]? = some y → R x y) : ∀ is : List Nat, F2 R (is.filterMap fun i => xs[i]?) (is.filterMap fun i => ys[i]?)
  | [] => .nil
  | i :: is => by
    have ih := pick_len h g is
    cases hx : xs[i]? with
    | none =>
      have hy : ys[i]? = none := by rw [List.getElem?_eq_none_iff] at hx ⊢; omega
      simp only [List.filterMap_cons, hx, hy]; exact ih
    | some x =>
      have hlt : i < ys.length := by have := (List.getElem?_eq_some_iff.mp hx).1; omega
      have hy : ys[i]? = some ys[i] := List.getElem?_eq_getElem hlt
      simp only [List.filterMap_cons, hx, hy]; exact .cons (g i x _ hx hy) ih
theorem vals_of {xs : List V} {us : List Value} (h : F2 RelV xs us) : Vals xs us := by
  induction h with
  | nil => exact .nil
  | cons a _ ih => exact .cons a ih
theorem vals_step {xs : List V} {us : List Value} (r : Vals xs us) (lo st : Int) : Vals (stepL xs lo st) (stepL us lo st) := by
  unfold stepL
  rw [← r.length]
  refine vals_of (pick_len r.length (fun i x y hx hy => ?_) _)
  obtain ⟨u, h1, h2⟩ := r.get hx
  rw [hy] at h1; cases h1
  exact h2
theorem rps_of {K : KW} {g : Gh} {H : Hp} {xs : List PV} {us : List V} (h : F2 (Rp K g H) xs us) : Rps K g H xs us := by
  induction h with
  | nil => exact .nil
  | cons a _ ih => exact .cons a ih
theorem rps_step {K : KW} {g : Gh} {H : Hp} {xs : List PV} {us : List V} (r : Rps K g H xs us) (lo st : Int) : Rps K g H (stepL xs lo st) (stepL us lo st) := by
  unfold stepL
  rw [← r.length]
  refine rps_of (pick_len r.length (fun i x y hx hy => ?_) _)
  obtain ⟨u, h1, h2⟩ := r.get hx
  rw [hy] at h1; cases h1
  exact h2
theorem pick_step {items : Array Value} {lo st : Int} (h0 : 0 ≤ lo) (h1 : lo ≤ items.size) (hs : 0 < st) : slicePick items (some lo) none (some st) = (stepL items.toList lo st).toArray := by
  have hb : sliceBounds (some lo) none (some st) items.size = (lo, (items.size : Int), st) := by
    simp only [sliceBounds, Option.getD_some]
    rw [if_neg (by omega : ¬ lo < 0)]
    simp only [gt_iff_lt, hs, if_true]
    congr 1
    omega
  unfold slicePick
  rw [hb]
  unfold stepL stepIdx sliceRange
  simp only [gt_iff_lt, hs, if_true, Array.length_toList]
  congr 1
  congr 1
  funext i
  simp
theorem step_len {α : Type} (xs : List α) (lo st : Int) (h0 : 0 ≤ lo) (h1 : lo ≤ xs.length) (hs : 0 < st) : (stepL xs lo st).length ≤ xs.length := by
  unfold stepL
  refine Nat.le_trans (List.length_filterMap_le _ _) ?_
  unfold stepIdx
  rw [List.length_map, List.length_range]
  split
  · have := ceilDiv_le ((xs.length : Int) - lo) st (by omega) (by omega)
    omega
  · omega
section
variable {X : Cx} {Ξ : XC} {fa fb : SE}
def tStep (K : KW) (st : Int) (te ti : TE) : TE := fun σ H Q => te σ H fun x H1 => ∃ a, x = .ref a ∧ ti σ H1 fun y H2 => ∃ lo, y = .int lo ∧ ∃ xs, SqL K H2 a xs ∧ 0 ≤ lo ∧ lo ≤ xs.length ∧ ∀ p, H2 p = none → Q (.ref p) (upd H2 p (.lst (stepL xs lo st)))
theorem pe_step {e i : Expr} {te ti : TE} {st : Int} {k : Nat} {p1 p3 pos : Pos} (hs : 0 < st) (he : PE X e te) (hi : PE X i ti) : PE X (.Subscript e (.Slice (some i) none (some (.Constant (.int st) k p1)) p3) pos) (tStep X.kw st te ti) := by
  refine ⟨fun pins s σ H Q I h => ?_⟩
  refine Subscript_ (thn (he.run pins s σ H _ I h) fun v s1 ⟨x, H1, I1, r1, q1⟩ => ?_)
  obtain ⟨a, ex, q⟩ := q1
  subst ex
  cases r1
  have hst : PO X (some (.Constant (.int st) k p1)) (tPart (tC (.int st))) := po_some pe_int
  have hlo : PO X (some i) (tPart ti) := po_some hi
  refine wpAny_Slice (thn (hlo.run pins s1 σ H1 (fun o H2 => match o with | some lo => ∃ xs, SqL X.kw H2 a xs ∧ 0 ≤ lo ∧ lo ≤ xs.length ∧ ∀ p, H2 p = none → Q (.ref p) (upd H2 p (.lst (stepL xs lo st))) | none => False) I1 q) fun vl s2 ⟨l, H2, I2, pl, hq⟩ => ?_)
  obtain _ | lo := l
  · exact hq.elim
  obtain ⟨xs, hx, l0, l1, q⟩ := hq
  refine thn (po_none.run pins s2 σ H2 (fun o H3 => o = none ∧ H3 = H2) I2 ⟨rfl, rfl⟩) fun vu s3 ⟨u, H3, I3, pu, eu, e3⟩ => ?_
  subst eu e3
  refine thn (hst.run pins s3 σ H3 (fun o H4 => o = some st ∧ H4 = H3) I3 ⟨st, rfl, rfl, rfl⟩) fun vs s4 ⟨o, H4, I4, ps, eo, e4⟩ => ?_
  subst eo e4
  have I5 : Inv X pins σ H4 { s4 with heap := s4.heap.push { cls := .type "slice", data := .fields #[vl, vu, vs] } } := I4.kept (t' := s4.toks) fun b ob q => Heap.get?_push_of_some _ q
  obtain ⟨its, r, ht, hz⟩ := I5.list hx
  have hlen := r.length
  show wpAny (model X.prog X.w) X.A (subscriptTail e (.Slice (some i) none (some (.Constant (.int st) k p1)) p3) (.ref a) (.ref s4.heap.objs.size)) (EP X pins σ Q) X.xe { s4 with heap := s4.heap.push { cls := .type "slice", data := .fields #[vl, vu, vs] } }
  refine tail_any (ops := [.ref a, .ref s4.heap.objs.size]) ht.isList.typeIs (PySem.slot_list_getitem.lookup) ?_ (by with_unfolding_all rfl)
  refine wpAny_getItem_list_slice ht.isList (Heap.IsSliceOf.new _ vl vu vs) pl pu ps (by intro z; cases z; omega) ?_ (by rw [List.size_toArray]; omega)
  rw [pick_step l0 (by rw [List.size_toArray]; omega) hs]
  refine ⟨.ref _, _, I5.laid (t' := s4.toks) (o := .lst (stepL xs lo st)) (fun b ob q => Heap.get?_push_of_some _ q) (Nat.le_refl _) ?_, rfl, q _ (I5.hok.fresh (Nat.le_refl _))⟩
  exact ⟨Nat.le_trans (step_len xs lo st l0 l1 hs) hz, _, 0, vals_step r lo st, Heap.get?_push_size _ rfl⟩
theorem se_slS {e i : Expr} {st : Int} {k : Nat} {p1 p3 pos : Pos} (he : PE X e (rdE X.kw Ξ fa)) (hi : PE X i (rdE X.kw Ξ fb)) (hs : 0 < st := by decide) : PE X (.Subscript e (.Slice (some i) none (some (.Constant (.int st) k p1)) p3) pos) (rdE X.kw Ξ (eSlS fb st fa)) :=
  PE_imp (pe_step hs he hi) fun σ H Q ⟨g, s, m, em, sr, q⟩ => by
    refine ⟨g, s, m, em, sr, QR.bind q fun p hp q1 g1 H1 V x1 e1 r1 => ?_⟩
    obtain ⟨v, m1⟩ := p
    simp only at q1
    cases v with
    | ref n =>
      obtain ⟨a1, rfl, hn⟩ := r1.ref_inv
      refine ⟨a1, rfl, g1, s, m1, e1, sr.ext em x1, QR.bind (QE.later x1 q1) fun p2 hp2 q3 g2 H2 W x2 e2 r2 => ?_⟩
      obtain ⟨l, m2⟩ := p2
      have q4 : QE X.kw Ξ g2 H2 Q (oStep st n l m2) := QE.later x2 q3
      unfold oStep at q4
      split at q4
      · rename_i i
        split at q4
        · rename_i xs hm
          split at q4
          · rename_i hc
            simp only [Bool.and_eq_true, decide_eq_true_eq] at hc
            cases r2.int_inv
            obtain ⟨a2, vs, h1, h2, h3⟩ := e2.obj _ _ hm
            rw [x2.phi _ _ hn] at h1; cases h1
            exact ⟨_, rfl, vs, SqL.of h2, hc.1, by rw [← h3.length]; exact hc.2, fun p hp => QE.newL e2 (rps_step h3 _ _) q4 hp⟩
          · exact q4.elim
        · exact q4.elim
      · exact q4.elim
    | _ => exact q1.elim
end
end TT
end

section
set_option Elab.async false
set_option linter.all false
set_option autoImplicit false
set_option maxRecDepth 100000
/-! TT: dicts whose keys are texts and whole numbers -/
namespace TT
open PySem PySem.Spec PyProof.Rows L2
theorem keyOf_ok {k : PV} (h : keyOk k = true) : ∃ k', keyOf k = some k' := by
  cases k <;> first | exact ⟨_, rfl⟩ | cases h
theorem keyOf_eq {a b : PV} {a' b' : Key} (ha : keyOf a = some a') (hb : keyOf b = some b') : keyEq a b = decide (a' = b') := by
  cases a <;> cases b <;> simp only [keyOf] at ha hb <;> cases ha <;> cases hb
  · rename_i i j
    simp only [keyEq, Sum.inl.injEq]
  · rfl
  · rfl
  · rename_i x y
    have : (Sum.inr (⟨x.toArray⟩ : Str) : Key) = Sum.inr ⟨y.toArray⟩ ↔ x = y := by
      constructor
      · intro h; injection h with h; injection h with h; simpa using h
      · intro h; rw [h]
    simp only [keyEq, this]
section
variable {K : KW} {g g' : Gh} {m m' : Mm} {H H' : Hp}
theorem rp_key {k : PV} {v : V} {k' : Key} (r : Rp K g H k v) (h : keyOf k = some k') : v = kV k' := by
  cases r <;> simp only [keyOf] at h <;> cases h <;> rfl
theorem RKs.find {k : PV} {k' : Key} (hk : keyOf k = some k') : ∀ {kvs : List (PV × PV)} {vs : List (Key × V)}, RKs K g H kvs vs → ∀ x, dFind kvs k = some x → ∃ v, valV vs k' = some v ∧ Rp K g H x v
  | _, _, .nil, x, h => by simp [dFind] at h
  | _, _, .cons (k := a) (x := y) (k' := a') (v := w) (xs := r) (vs := rs) ka rv rest, x, h => by
    have e := keyOf_eq ka hk
    by_cases c : a' = k'
    · have e1 : keyEq a k = true := by rw [e]; simp [c]
      have : dFind ((a, y) :: r) k = some y := by simp [dFind, List.find?_cons, e1]
      rw [this] at h; cases h
      exact ⟨w, valV_pos c, rv⟩
    · have e1 : keyEq a k = false := by rw [e]; simp [c]
      have : dFind ((a, y) :: r) k = dFind r k := by simp [dFind, List.find?_cons, e1]
      rw [this] at h
      obtain ⟨v, h1, h2⟩ := RKs.find hk rest x h
      exact ⟨v, by rw [valV_neg c]; exact h1, h2⟩
theorem RKs.any {k : PV} {k' : Key} (hk : keyOf k = some k') : ∀ {kvs : List (PV × PV)} {vs : List (Key × V)}, RKs K g H kvs vs → (kvs.any fun p => keyEq p.1 k) = (vs.any fun p => decide (p.1 = k'))
  | _, _, .nil => rfl
  | _, _, .cons ka rv rest => by simp only [List.any_cons, keyOf_eq ka hk, RKs.any hk rest]
theorem RKs.repl {k : PV} {k' : Key} {x : PV} {v : V} (hk : keyOf k = some k') (r : Rp K g H x v) : ∀ {kvs : List (PV × PV)} {vs : List (Key × V)}, RKs K g H kvs vs → RKs K g H (kvs.map fun p => if keyEq p.1 k = true then (p.1, x) else p) (vs.map fun p => if p.1 = k' then (p.1, v) else p)
  | _, _, .nil => .nil
  | _, _, .cons (k' := a') ka rv rest => by
    rw [List.map_cons, List.map_cons]
    have e := keyOf_eq ka hk
    by_cases c : a' = k'
    · rw [if_pos (by rw [e]; simp [c]), if_pos c]; exact .cons ka r (RKs.repl hk r rest)
    · rw [if_neg (by rw [e]; simp [c]), if_neg c]; exact .cons ka rv (RKs.repl hk r rest)
theorem RKs.snoc {k : PV} {k' : Key} {x : PV} {v : V} (hk : keyOf k = some k') (r : Rp K g H x v) : ∀ {kvs : List (PV × PV)} {vs : List (Key × V)}, RKs K g H kvs vs → RKs K g H (kvs ++ [(k, x)]) (vs ++ [(k', v)])
  | _, _, .nil => .cons hk r .nil
  | _, _, .cons ka rv rest => .cons ka rv (RKs.snoc hk r rest)
theorem RKs.put {k : PV} {k' : Key} {x : PV} {v : V} (hk : keyOf k = some k') (r : Rp K g H x v) {kvs : List (PV × PV)} {vs : List (Key × V)} (h : RKs K g H kvs vs) : RKs K g H (dPut kvs k x) (putK vs k' v) := by
  unfold dPut putK
  rw [h.any hk]
  split
  · exact h.repl hk r
  · exact h.snoc hk r
theorem RKs.merge {more : List (PV × PV)} {ms : List (Key × V)} (r : RKs K g H more ms) : ∀ {kvs : List (PV × PV)} {vs : List (Key × V)}, RKs K g H kvs vs → RKs K g H (dMerge kvs more) (mergeK vs ms) := by
  induction r with
  | nil => intro kvs vs h; exact h
  | cons ka rv _ ih => intro kvs vs h; exact ih (h.put ka rv)
theorem RKs.length : ∀ {kvs : List (PV × PV)} {vs : List (Key × V)}, RKs K g H kvs vs → kvs.length = vs.length
  | _, _, .nil => rfl
  | _, _, .cons _ _ r => by rw [List.length_cons, List.length_cons, RKs.length r]
inductive RPs (K : KW) (g : Gh) (H : Hp) : List (PV × PV) → List (V × V) → Prop
  | nil : RPs K g H [] []
  | cons {a b : PV} {c d : V} {xs : List (PV × PV)} {ys : List (V × V)} : Rp K g H a c → Rp K g H b d → RPs K g H xs ys → RPs K g H ((a, b) :: xs) ((c, d) :: ys)
theorem RPs.keys : ∀ {xs : List (PV × PV)} {ys : List (V × V)}, RPs K g H xs ys → xs.all (fun p => keyOk p.1) = true → ∃ kvs : List (Key × V), ys = kvs.map (fun kv => (kV kv.1, kv.2)) ∧ RKs K g H xs kvs
  | _, _, .nil, _ => ⟨[], rfl, .nil⟩
  | _, _, .cons ra rb r, h => by
    simp only [List.all_cons, Bool.and_eq_true] at h
    obtain ⟨k', hk⟩ := keyOf_ok h.1
    obtain ⟨kvs, e, q⟩ := RPs.keys r h.2
    refine ⟨(k', _) :: kvs, ?_, .cons hk rb q⟩
    rw [List.map_cons, e, rp_key ra hk]
theorem RPs.ext (e : Emb K g m H) (x : Ext g H g' H') : ∀ {xs : List (PV × PV)} {ys : List (V × V)}, RPs K g H xs ys → RPs K g' H' xs ys
  | _, _, .nil => .nil
  | _, _, .cons a b r => .cons (a.ext e x) (b.ext e x) (RPs.ext e x r)
/-- an object that stands comes into the memory -/
theorem Emb.adopt (e : Emb K g m H) {p : Addr} {u : HO} {ob : Ob} (hp : H p = some u) (mu : Mut (some u)) (hn : ∀ n, g.φ n ≠ some p) (hr : g.ro p = none) (ho : ROb K (g.addP m.length p) H m.length ob) :
    Emb K (g.addP m.length p) (m ++ [ob]) H ∧ ∀ {v w}, Rp K g H v w → Rp K (g.addP m.length p) H v w := by
  have hφ : ∀ n a, g.φ n = some a → (g.addP m.length p).φ n = some a := fun n a h => by
    have : n ≠ m.length := fun z => by subst z; rw [e.fresh_id] at h; cases h
    show (if n = m.length then some p else g.φ n) = some a
    rw [if_neg this]; exact h
  have key : ∀ (v : PV) (w : V), Rp K g H v w → Rp K (g.addP m.length p) H v w := fun v w r => r.mono hφ (fun _ _ h => h) (fun _ _ h => h)
  have keys : ∀ (v : List PV) (w : List V), Rps K g H v w → Rps K (g.addP m.length p) H v w := fun v w r => r.mono hφ (fun _ _ h => h) (fun _ _ h => h)
  refine ⟨⟨fun n o h => ?_, fun n a h => ?_, fun n k a h1 h2 => ?_, fun a u' h => ?_, e.nt, e.tab⟩, fun {v w} r => key v w r⟩
  · by_cases hlt : n < m.length
    · rw [List.getElem?_append_left hlt] at h
      have q := e.obj n o h
      cases o with
      | lst ys =>
        obtain ⟨a, ws, h1, h2, h3⟩ := q
        exact ⟨a, ws, hφ _ _ h1, h2, keys _ _ h3⟩
      | dict ys =>
        obtain ⟨a, ws, h1, h2, h3⟩ := q
        exact ⟨a, ws, hφ _ _ h1, h2, h3.imp fun r => key _ _ r⟩
      | kd ys =>
        obtain ⟨a, ws, h1, h2, h3⟩ := q
        exact ⟨a, ws, hφ _ _ h1, h2, h3.imp fun r => key _ _ r⟩
      | kl zs =>
        obtain ⟨a, o2, ws, h1, h2, h3⟩ := q
        exact ⟨a, o2, ws, hφ _ _ h1, h2, h3.imp fun r => key _ _ r⟩
      | dead => trivial
      | tab P l => exact q
    · have hle : m.length ≤ n := Nat.le_of_not_lt hlt
      rw [List.getElem?_append_right hle] at h
      have h0 : n - m.length = 0 := by
        cases hk : n - m.length with
        | zero => rfl
        | succ j => rw [hk] at h; simp at h
      rw [h0] at h
      have hnm : n = m.length := by omega
      simp at h
      subst h
      subst hnm
      exact ho
  · have h' : (if n = m.length then some p else g.φ n) = some a := h
    rw [List.length_append, List.length_singleton]
    split at h'
    · cases h'
      exact ⟨by omega, u, hp, mu⟩
    · obtain ⟨h1, u', h2, h3⟩ := e.dom n a h'
      exact ⟨by omega, u', h2, h3⟩
  · have h1' : (if n = m.length then some p else g.φ n) = some a := h1
    have h2' : (if k = m.length then some p else g.φ k) = some a := h2
    split at h1' <;> split at h2'
    · omega
    · cases h1'; exact (hn _ h2').elim
    · cases h2'; exact (hn _ h1').elim
    · exact e.inj n k a h1' h2'
  · obtain ⟨h1, h2⟩ := e.ro a u' h
    refine ⟨h1, fun n hn' => ?_⟩
    have hn'' : (if n = m.length then some p else g.φ n) = some a := hn'
    split at hn''
    · cases hn''
      have h' : g.ro p = some u' := h
      rw [hr] at h'; cases h'
    · have q := h2 n hn''
      have : n < m.length := (e.dom n a hn'').1
      rw [List.getElem?_append_left this]; exact q
theorem Ext.adopt {g0 : Gh} {H0 : Hp} (x : Ext g0 H0 g H) (e : Emb K g m H) {p : Addr} (hp : H0 p = none) : Ext g0 H0 (g.addP m.length p) H :=
  ⟨fun n a h => by
    have h' := x.phi n a h
    have : n ≠ m.length := fun z => by subst z; rw [e.fresh_id] at h'; cases h'
    show (if n = m.length then some p else g.φ n) = some a
    rw [if_neg this]; exact h', x.ro, x.fr, fun a u h hn ht n => by
    show (if n = m.length then some p else g.φ n) ≠ some a
    split
    · intro z; cases z; rw [hp] at h; cases h
    · exact x.old a u h hn ht n, x.oldr, x.T⟩
/-- a dict in the memory is written -/
theorem Emb.wr_dict (e : Emb K g m H) {n : Nat} {a : Addr} {xs ys : List (PV × PV)} {ws : List (Key × V)} (hm : m[n]? = some (.dict xs)) (ha : g.φ n = some a) (r : RKs K g H ys ws) :
    Ext g H g (upd H a (.dK ws)) ∧ Emb K g (m.set n (.dict ys)) (upd H a (.dK ws)) := by
  have x : Ext g H g (upd H a (.dK ws)) := ⟨fun _ _ h => h, fun _ _ h => h, fun b u h hb _ => by
    rw [upd_ne (fun z => hb n (by rw [z]; exact ha))]; exact h, fun _ _ _ h _ => h, fun _ _ _ _ _ h => h, rfl⟩
  have hlt : n < m.length := (List.getElem?_eq_some_iff.mp hm).1
  obtain ⟨a0, vs0, p1, p2, _⟩ := e.obj n _ hm
  rw [ha] at p1; cases p1
  refine ⟨x, fun k o h => ?_, fun k b h => ?_, e.inj, fun b u h => ?_, e.nt, tabs_wr e.tab p2 (fun ps z => nomatch z) (fun ps z => nomatch z)⟩
  · by_cases hk : n = k
    · subst hk
      rw [List.getElem?_set_self hlt] at h
      cases h
      exact ⟨a, ws, ha, upd_same, r.ext e x⟩
    · rw [List.getElem?_set_ne hk] at h
      have q := e.obj k o h
      cases o with
      | lst zs =>
        obtain ⟨b, us, h1, h2, h3⟩ := q
        refine ⟨b, us, h1, ?_, h3.ext e x⟩
        rw [upd_ne (fun z => hk (e.inj n k a ha (by rw [← z]; exact h1)))]
        exact h2
      | dict zs =>
        obtain ⟨b, us, h1, h2, h3⟩ := q
        refine ⟨b, us, h1, ?_, h3.ext e x⟩
        rw [upd_ne (fun z => hk (e.inj n k a ha (by rw [← z]; exact h1)))]
        exact h2
      | kd zs =>
        obtain ⟨b, us, h1, h2, h3⟩ := q
        refine ⟨b, us, h1, ?_, h3.ext e x⟩
        rw [upd_ne (fun z => hk (e.inj n k a ha (by rw [← z]; exact h1)))]
        exact h2
      | kl zs =>
        obtain ⟨b, ob, us, h1, h2, h3⟩ := q
        exact ⟨b, ob, us, h1, x.ro _ _ h2, h3.ext e x⟩
      | dead => trivial
      | tab P l => exact q
  · obtain ⟨h1, u, h2, h3⟩ := e.dom k b h
    rw [List.length_set]
    by_cases hb : b = a
    · subst hb; exact ⟨h1, _, upd_same, trivial⟩
    · exact ⟨h1, u, by rw [upd_ne hb]; exact h2, h3⟩
  · obtain ⟨h1, h2⟩ := e.ro b u h
    have hb : b ≠ a := fun z => by
      subst z
      have := h2 n ha
      rw [hm] at this; cases this
    refine ⟨by rw [upd_ne hb]; exact h1, fun k hk => ?_⟩
    have q := h2 k hk
    have hkn : n ≠ k := fun z => by subst z; rw [hm] at q; cases q
    rw [List.getElem?_set_ne hkn]; exact q
end
section
variable {X : Cx} {Ξ : XC} {o i e value : Expr} {pos pos' : Pos} {fa fb fc : SE}
/-- d[k] -/
theorem se_dget (hu : X.A.units + 1 < cLine) (ho : PE X o (rdE X.kw Ξ fa)) (hi : PE X i (rdE X.kw Ξ fb)) (hs : NoSl i := by exact fun _ _ => rfl) : PE X (.Subscript o i pos) (rdE X.kw Ξ (e2 oDGet fa fb)) :=
  PE_imp (pe_dget hu ho hi hs) fun σ H Q h => by
    obtain ⟨g, s, m, em, sr, q⟩ := h
    refine ⟨g, s, m, em, sr, QR.bind q fun p hp q1 g1 H1 V x1 e1 r1 => ?_⟩
    refine ⟨g1, s, p.2, e1, sr.ext em x1, QR.bind (QE.later x1 q1) fun p2 hp2 q2 g2 H2 W x2 e2 r2 => ?_⟩
    have q3 : QE X.kw Ξ g2 H2 Q (oDGet p.1 p2.1 p2.2) := QE.later x2 q2
    have r1' := r1.ext e1 x2
    unfold oDGet at q3
    split at q3
    · rename_i n hn
      rw [hn] at r1'
      obtain ⟨a, rfl, ha⟩ := r1'.ref_inv
      split at q3
      · rename_i kvs hm
        split at q3
        · rename_i hk
          split at q3
          · rename_i v hv
            obtain ⟨a2, vs, h1, h2, h3⟩ := e2.obj _ _ hm
            rw [ha] at h1; cases h1
            obtain ⟨k', hk'⟩ := keyOf_ok hk
            obtain ⟨w, hw, rw'⟩ := h3.find hk' v hv
            refine ⟨a, w, rfl, ?_, QE.ret e2 rw' q3⟩
            rw [rp_key r2 hk', ← hw]
            exact DGet.k h2
          · exact q3.elim
        · exact q3.elim
      · exact q3.elim
    · exact q3.elim
/-- d[k] = v -/
theorem ss_dset (hu : X.A.units + 1 < cLine) (hv : PE X value (rdE X.kw Ξ fc)) (ho : PE X o (rdE X.kw Ξ fa)) (hi : PE X i (rdE X.kw Ξ fb)) (hs : swapsWith value (some (.Subscript o i pos')) pos.line X.env = pure false := by rfl) : PS X (.Assign [.Subscript o i pos'] value pos) (rdS X.kw Ξ (sDSet fc fa fb)) :=
  PS_imp (ps_dput hu ho hi hv hs) fun D σ H h => by
    obtain ⟨g, s, m, em, sr, q⟩ := h
    refine ⟨g, s, m, em, sr, QR.bind q fun p hp q1 g1 H1 V x1 e1 r1 => ?_⟩
    refine ⟨g1, s, p.2, e1, sr.ext em x1, QR.bind (QS.later x1 q1) fun p2 hp2 q2 g2 H2 W x2 e2 r2 => ?_⟩
    refine ⟨g2, s, p2.2, e2, (sr.ext em x1).ext e1 x2, QR.bind (QS.later x2 q2) fun p3 hp3 q3 g3 H3 U x3 e3 r3 => ?_⟩
    have q4 : QS X.kw Ξ g3 H3 D ((oDSet p2.1 p3.1 p.1 p3.2).bind fun m4 => .ok (.nx, s, m4)) := QS.later x3 q3
    have r1' := (r1.ext e1 x2).ext e2 x3
    have r2' := r2.ext e2 x3
    have sr' := ((sr.ext em x1).ext e1 x2).ext e2 x3
    unfold oDSet at q4
    split at q4
    · rename_i n hn
      rw [hn] at r2'
      obtain ⟨a, rfl, ha⟩ := r2'.ref_inv
      split at q4
      · rename_i kvs hm
        split at q4
        · rename_i hk
          simp only [Bool.and_eq_true, decide_eq_true_eq] at hk
          obtain ⟨a2, vs, h1, h2, h3⟩ := e3.obj _ _ hm
          rw [ha] at h1; cases h1
          obtain ⟨k', hk'⟩ := keyOf_ok hk.1
          obtain ⟨x4, e4⟩ := e3.wr_dict hm ha (h3.put hk' r1')
          refine ⟨a, _, rfl, ?_, q4 _ _ σ x4 e4 (sr'.ext e3 x4)⟩
          rw [rp_key r3 hk']
          exact DPut.k h2 (by rw [← h3.length]; exact line_lt hk.2)
        · exact q4.elim
      · exact q4.elim
    · exact q4.elim
/-! ### displays -/
abbrev trsOf (K : KW) (Ξ : XC) (L : List (SE × SE)) : List (TE × TE) := L.map fun p => (rdE K Ξ p.1, rdE K Ξ p.2)
theorem tp_of {K : KW} : ∀ (L : List (SE × SE)) {σ : L2.St} {H : Hp} {Q : List (V × V) → Hp → Prop} {g : Gh} {s : Sl} {m : Mm}, Emb K g m H → Sr K g H s σ →
    QR K Ξ g H (fun p => ∀ g' H' Vs, Ext g H g' H' → Emb K g' p.2 H' → RPs K g' H' p.1 Vs → Q Vs H') (pairsOf L s m) → tPairs (trsOf K Ξ L) σ H Q
  | [], σ, H, Q, g, s, m, em, sr, q => q g H [] (Ext.refl _ _) em .nil
  | (fa, fb) :: L, σ, H, Q, g, s, m, em, sr, q => by
    refine ⟨g, s, m, em, sr, QR.bind q fun p hp q1 g1 H1 V x1 e1 r1 => ?_⟩
    have q1' := QR.later (P' := fun p2 => ∀ g' H' Vs, Ext g1 H1 g' H' → Emb K g' p2.2 H' → RPs K g' H' p2.1 Vs → Q Vs H') x1 q1 fun _ h g' H' Vs x => h g' H' Vs (x1.trans x)
    refine ⟨g1, s, p.2, e1, sr.ext em x1, QR.bind q1' fun p2 hp2 q2 g2 H2 W x2 e2 r2 => ?_⟩
    have q2' := QR.later (P' := fun p3 => ∀ g' H' Vs, Ext g2 H2 g' H' → Emb K g' p3.2 H' → RPs K g' H' p3.1 Vs → Q Vs H') x2 q2 fun _ h g' H' Vs x => h g' H' Vs (x2.trans x)
    refine tp_of L e2 ((sr.ext em x1).ext e1 x2) (QR.bind q2' fun p3 hp3 q3 g3 H3 Vs x3 e3 r3 => ?_)
    exact q3 g3 H3 _ x3 e3 (.cons ((r1.ext e1 x2).ext e2 x3) (r2.ext e2 x3) r3)
theorem se_dict {keys : List (Option Expr)} {values : List Expr} (L : List (SE × SE)) (h : PPs X pos keys values (trsOf X.kw Ξ L)) (hall : keys.all (·.isSome) = true := by rfl) (hl : keys.length = values.length := by rfl) (h0 : keys ≠ [] := by intro z; cases z) (h15 : keys.length ≤ 15 := by decide) :
    PE X (.Dict keys values pos) (rdE X.kw Ξ (eDict L)) :=
  PE_imp (pe_disp h hall hl h0 h15) fun σ H Q ⟨g, s, m, em, sr, q⟩ p hp => by
    have hf := em.free hp
    have hr := em.freeR hp
    obtain ⟨e0, tr⟩ := em.other (D := p) (o := .dK []) hf hr (fun xs z => by
      rcases z with z | ⟨o, z⟩ <;> rw [hp] at z <;> cases z) (tabs_new em.tab hp)
    have x0 : Ext g H g (upd H p (.dK [])) := Ext.newTup hp fun ⟨n, z⟩ => hf n z
    refine tp_of L e0 (sr_of_rp (fun r => tr r) sr) (QR.bindAt x0 q fun pr hpr q1 g1 H1 Vs x1 e1 r1 => ?_)
    have hp1 : H1 p = some (.dK []) := x1.fr p _ upd_same hf (fun _ z => nomatch z)
    have hf1 : ∀ n, g1.φ n ≠ some p := x1.old p _ upd_same hf (fun _ z => nomatch z)
    have hr1 : g1.ro p = none := x1.oldr p _ upd_same hf (fun _ z => nomatch z) hr
    refine ⟨hp1, ?_⟩
    have q2 : QE X.kw Ξ g H Q (if pr.1.all (fun p => keyOk p.1) && decide (pr.1.length ≤ 15) then .ok (.ref pr.2.length, pr.2 ++ [.dict (dMerge [] pr.1)]) else .no) := q1
    by_cases hc : (pr.1.all (fun p => keyOk p.1) && decide (pr.1.length ≤ 15)) = true
    · rw [if_pos hc] at q2
      simp only [Bool.and_eq_true, decide_eq_true_eq] at hc
      obtain ⟨kvs, rfl, rk⟩ := r1.keys hc.1
      refine ⟨kvs, rfl, by rw [← rk.length]; exact hc.2, ?_⟩
      obtain ⟨e2, tr2⟩ := e1.other (D := p) (o := .dK (mergeK [] kvs)) hf1 hr1 (fun xs z => by
        rcases z with z | ⟨o, z⟩ <;> rw [hp1] at z <;> cases z) (tabs_wr e1.tab hp1 (fun _ z => nomatch z) (fun _ z => nomatch z))
      have x2 : Ext g H g1 (upd H1 p (.dK (mergeK [] kvs))) := Ext.other (x0.trans x1) hp
      have rk2 : RKs X.kw g1 (upd H1 p (.dK (mergeK [] kvs))) (dMerge [] pr.1) (mergeK [] kvs) := (RKs.merge rk .nil).imp fun r => tr2 r
      have hφ : ∀ n a, g1.φ n = some a → (g1.addP pr.2.length p).φ n = some a := fun n a h => by
        have : n ≠ pr.2.length := fun z => by subst z; rw [e1.fresh_id] at h; cases h
        show (if n = pr.2.length then some p else g1.φ n) = some a
        rw [if_neg this]; exact h
      obtain ⟨e3, tr3⟩ := e2.adopt (p := p) (u := .dK (mergeK [] kvs)) (ob := .dict (dMerge [] pr.1)) upd_same trivial hf1 hr1 ⟨p, _, by show (if pr.2.length = pr.2.length then some p else _) = some p; rw [if_pos rfl], upd_same, rk2.imp fun r => r.mono hφ (fun _ _ h => h) (fun _ _ h => h)⟩
      exact q2 _ _ _ (x2.adopt e2 hp) e3 (.ref (by show (if pr.2.length = pr.2.length then some p else _) = some p; rw [if_pos rfl]))
    · rw [if_neg hc] at q2; exact q2.elim
end
end TT
end

section
set_option Elab.async false
set_option linter.all false
set_option autoImplicit false
set_option maxRecDepth 100000
/-! TT: exceptions: raise, defs that raise, lambdas handed to a def that tells what was raised -/
namespace TT
open PySem PySem.Spec PyProof.Rows L2
def exNames : List Str := ["TurnError", "InvalidRule", "InvalidHistory", "InvalidNumber", "InvalidAsks", "InvalidLog", "InvalidPart", "InvalidIndex", "InvalidToken", "NothingToUndo", "TooMany", "InvalidText"]
abbrev exN (c : Nat) : Str := exNames.getD c ""
/-- the fields of an exception in its dict -/
inductive FsOk (K : KW) (g : Gh) (H : Hp) : List PV → Option Addr → Prop
  | nil : FsOk K g H [] none
  | one {x : PV} {v : V} {f : Str} {d : Addr} : H d = some (.xd [(f, v)]) → Rp K g H x v → FsOk K g H [x] (some d)
/-- what is wished of an exception -/
def XofE (K : KW) (mg : Str → Option Value) (E : XK) : XC := fun e _ g H => match e with
  | .mk c fs => ∀ C d, mg (exN c) = some (.ref C) → FsOk K g H fs d → E (.ref C) d H
/-- an own class of exceptions -/
structure ExCls (K : KW) (mg : Str → Option Value) (x : Str) (C : Addr) : Prop where
  g : mg x = some (.ref C)
  x : PySem.W.excIn K C [.type "ValueError", .type "Exception", .type "BaseException", .type "object"] "ValueError.__new__" = true
  k : PySem.W.keepIn K (.ref C) = true
  b : PySem.W.subIn K (.ref C) (.type "BaseException") = some true
  t : PySem.W.typeIn K (.ref C) = some (.type "type")
def HasE (K : KW) (mg : Str → Option Value) (x : Str) : Prop := ∃ C, ExCls K mg x C
section
variable {X : Cx} {j : Nat} {p p2 pos pos' : Pos} {x msg : Str}
theorem ss_raise {E : XK} (c : Nat) (h : HasE X.kw X.mg x) (hx : exN c = x) (hc : X.calm = true) (tk : Takes X (fun cls d _ H => E cls d H)) (hg : Gl X x := by rfl) (hdb : (x == ("__debug__" : Str)) = false := by decide) :
    PS X (.Raise (some (.Call (.Name x p) [.Constant (.str msg) j p2] [] pos')) none pos) (rdS X.kw (XofE X.kw X.mg E) (sRaise c)) := by
  obtain ⟨C, h⟩ := h
  refine PS_imp (ps_raise hc tk (pmk_own PySem.F.excBase_ValueError h.x h.g h.k (raises_own h.b h.t) hg hdb)) fun D σ H ⟨g, s, m, em, sr, q⟩ => ?_
  exact q g H (Ext.refl _ _) em C none (by rw [hx]; exact h.g) .nil
end

/-! ### defs that raise, by values -/
section
variable {K : KW} {mg : Str → Option Value} {g g1 : Gh} {H H1 : Hp}
theorem FsOk.own {φ' : Nat → Option Addr} {T : List (Addr × Str)} {fs : List PV} {d : Option Addr} (hp : pus fs = true) (h : FsOk K g1 H1 fs d) : FsOk K ⟨φ', roAll g1 H1, T⟩ H1 fs d := by
  cases h with
  | nil => exact .nil
  | one a r =>
    simp only [pus, Bool.and_eq_true] at hp
    exact .one a (Rp.mono (g := ⟨φ', g1.ro, g1.T⟩) (g' := ⟨φ', roAll g1 H1, T⟩) (fun _ _ h => h) (fun _ _ h => roAll_old h) (fun _ _ h => h) (Rp.pure (φ' := φ') hp.1 r))
def spXI (K : KW) (mg : Str → Option Value) (n : Nat) (F : IF) : Sp := fun vs H Q E => ∃ g m as, as.length = n ∧ Emb K g m H ∧ Rps K g H as vs ∧ QE K (XofE K mg E) g H Q (F as m)
def spX (K : KW) (mg : Str → Option Value) (n : Nat) (F : PF) : Sp := fun vs H Q E => ∃ g m as, as.length = n ∧ Emb K g m H ∧ Rps K g H as vs ∧ QE K (XofE K mg E) g H Q (cX F as m)
theorem spXI_len {n : Nat} {F : IF} {vs : List V} {H : Hp} {Q : VK} {E : XK} (h : spXI K mg n F vs H Q E) : vs.length = n := by
  obtain ⟨g, m, as, hl, _, r, _⟩ := h
  rw [← r.length, hl]
theorem spX_of {n N : Nat} {b : SS} {vs : List V} {H : Hp} {Q : VK} {E : XK} (h : spX K mg n (bodyP N n b) vs H Q E) : spXI K mg n (bodyI N n b) vs H Q E := by
  obtain ⟨g, m, as, hl, em, r, q⟩ := h
  unfold cX at q
  by_cases hp : pus as = true
  · rw [if_pos hp] at q
    refine ⟨⟨fun _ => none, g.ro, g.T⟩, [], as, hl, emb_own em, Rps.pure hp r, ?_⟩
    unfold bodyP at q
    cases hr : bodyI N n b as [] with
    | ok p =>
      obtain ⟨v, m1⟩ := p
      rw [hr] at q
      simp only at q
      intro g1 H1 V x1 e1 r1
      cases hf : frz 4 m1 v with
      | none => rw [hf] at q; exact q.elim
      | some v' =>
        rw [hf] at q
        obtain ⟨xx, ee⟩ := after_own em rfl x1 e1
        have r2 := frz_rp (φ' := g.φ) e1 4 v V v' r1 hf
        rw [x1.T] at r2
        exact q ⟨g.φ, roAll g1 H1, g.T⟩ H1 V xx ee r2
    | ex e m1 =>
      rw [hr] at q
      obtain ⟨c, fs⟩ := e
      simp only at q
      by_cases hf : pus fs = true
      · rw [if_pos hf] at q
        intro g1 H1 x1 e1 C d hm hF
        obtain ⟨xx, ee⟩ := after_own em rfl x1 e1
        exact q _ _ xx ee C d hm (hF.own hf)
      · rw [if_neg hf] at q; exact q.elim
    | no => rw [hr] at q; exact q.elim
  · rw [if_neg hp] at q; exact q.elim
theorem body_rdX {Ξ : XC} {m : Mm} {N : List Str} {as : List PV} {vs : List V} {Q : VK} {b : SS} (em : Emb K g m H) (r : Rps K g H as vs) (hN : as.length ≤ N.length) (q : QE K Ξ g H Q (bodyI N.length as.length b as m)) :
    rdS K Ξ b { nx := fun _ H' => Q .non H', rt := Q } (L2.start N vs) H := by
  refine ⟨g, startS N.length as, m, em, start_sr r hN, ?_⟩
  unfold bodyI at q
  rw [if_pos rfl] at q
  cases hr : b (startS N.length as) m with
  | ok p =>
    obtain ⟨fl, s, m1⟩ := p
    rw [hr] at q
    cases fl with
    | nx => exact fun g1 H1 σ1 x1 e1 r1 => q g1 H1 .non x1 e1 .non
    | rt v => exact fun g1 H1 σ1 x1 e1 r1 V rv => q g1 H1 V x1 e1 rv
    | bk => exact q.elim
    | ct => exact q.elim
  | ex e m1 => rw [hr] at q; exact q
  | no => rw [hr] at q; exact q.elim
variable {P : Program} {w : World} {base : Heap}
theorem defX {x qual : Str} {st : Stmt} {f : Addr} {fd : FuncData} {N ps : List Str} {k : Nat} {b : SS} (F : Fun K x qual st f fd) (S : FnScope N ps (defScope st)) (hN : ps.length ≤ N.length)
    (hbody : ∀ (cdv : Value) (A : Around) (outer : List Env) (s : Shared) (H : Hp) (E : XK), Room k (A.deeper (envOfC qual (defScope st) s.heap.objs.size f cdv)) →
      PSs (cxOf (L2.CX P w) P w K mg base N qual (defScope st) f cdv A outer s H E) (defBody st) (rdS K (XofE K mg E) b)) : FnOk P w K mg base (L2.CX P w) (k + 1) f fd ps (spXI K mg ps.length (bodyI N.length ps.length b)) :=
  F.okX S (fun _ _ _ _ h => spXI_len h) fun cdv A outer s H vs Q E hr ⟨g, m, as, hl, em, r, q⟩ => ⟨_, hbody cdv A outer s H E hr, body_rdX em r (by rw [hl]; exact hN) (by rw [hl]; exact q)⟩
/-- a def that raises stands there -/
def HasX (P : Program) (w : World) (K : KW) (mg : Str → Option Value) (base : Heap) (x : Str) (k : Nat) (sp : Sp) : Prop :=
  ∃ f fd ps, FnOk P w K mg base (L2.CX P w) k f fd ps sp ∧ mg x = some (.ref f) ∧ PySem.W.keepIn K (.ref f) = true ∧ Binds K fd ps []
theorem HasX.toX {x : Str} {k n N : Nat} {b : SS} (h : HasX P w K mg base x k (spXI K mg n (bodyI N n b))) : HasX P w K mg base x k (spX K mg n (bodyP N n b)) := let ⟨f, fd, ps, a, b, c, d⟩ := h; ⟨f, fd, ps, a.imp fun _ _ _ _ => spX_of, b, c, d⟩
theorem has_defX {x : Str} {st : Stmt} {f : Addr} {fd : FuncData} {N ps : List Str} {k : Nat} {b : SS} (F : Fun K x x st f fd) (hm : mg x = some (.ref f)) (S : FnScope N ps (defScope st)) (hN : ps.length ≤ N.length)
    (h : ∀ (kV doc pm : Value) (an : Option Addr) (cdv ct : Value) (us : List Value), us.length = ps.length → bindArgs (PySem.W.fnOf x x (defArgs st) (defBody st) (defScope st) .none kV doc pm an cdv ct) ⟨us, []⟩ = pure (ps.zip us))
    (hbody : ∀ (cdv : Value) (A : Around) (outer : List Env) (s : Shared) (H : Hp) (E : XK), Room k (A.deeper (envOfC x (defScope st) s.heap.objs.size f cdv)) →
      PSs (cxOf (L2.CX P w) P w K mg base N x (defScope st) f cdv A outer s H E) (defBody st) (rdS K (XofE K mg E) b)) : HasX P w K mg base x (k + 1) (spXI K mg ps.length (bodyI N.length ps.length b)) :=
  ⟨f, fd, ps, defX F S hN hbody, hm, F.kp, F.binds h⟩
end
section
variable {X : Cx} {k : Nat} {x : Str} {p pos : Pos} {e : Expr} {es : List Expr} {fs : SA}
theorem sh_callX {n : Nat} {F : PF} {E : XK} (h : HasX X.prog X.w X.kw X.mg X.base x k (spX X.kw X.mg n F)) (hr : Room k X.A) (tk : Takes X (fun cls d _ H => E cls d H)) (ha : PA X (e :: es) (rdA X.kw (XofE X.kw X.mg E) fs)) (hl : ∀ s m xs m', fs s m = .ok (xs, m') → xs.length = (e :: es).length)
    (hn : (e :: es).length = n := by rfl) (hg : Gl X x := by rfl) (hdb : (x == ("__debug__" : Str)) = false := by decide) (he : starEach (e :: es) X.env = (false, eval e X.env) :: starEach es X.env := by rfl) (hpl : (backTo pos (starEach es X.env)).any (·.1) = false := by rfl) :
    PE X (.Call (.Name x p) (e :: es) [] pos) (rdE X.kw (XofE X.kw X.mg E) (eN (cX F) fs)) := by
  obtain ⟨f, fd, ps, G, hm, hk, hb⟩ := h
  refine PE_imp (pe_callS (E := fun _ => E) G hr hg hm hk hb (fun σ => passAt tk σ) ha hdb he hpl) fun σ H Q ⟨g, s, m, em, sr, q⟩ => ?_
  refine ⟨g, s, m, em, sr, QR.bind q fun p hp q1 g1 H1 V x1 e1 r1 => ?_⟩
  exact ⟨g1, p.2, p.1, by rw [hl s m p.1 p.2 hp, hn], e1, r1, QE.later x1 q1⟩
end

/-! ### what is told of an exception -/
section
variable {X : Cx} {p1 p2 p3 p4 pos : Pos} {K : KW}
def HasSub (K : KW) (mg : Str → Option Value) (x y : Str) (b : Bool) : Prop := ∀ D C, mg x = some (.ref D) → mg y = some (.ref C) → PySem.W.kitOne K (.ref D) (.ref C) = some b
/-- the slot of the exception, where the slots are as many as they should be -/
def rAt (a : Addr) (i L : Nat) (σ : L2.St) : Prop := σ.length = L → σ[i]? = some (some (.ref a))
def rTold (a : Addr) (i L : Nat) (v : Str) : TE := fun σ H Q => rAt a i L σ ∧ Q (.str v) H
def rToldT (a : Addr) (i L : Nat) (b : Bool) : TT := fun σ H Q => rAt a i L σ ∧ Q b H
def rToldS (a : Addr) (i L : Nat) (v : Str) : TS := fun D σ H => rAt a i L σ ∧ D.rt (.str v) H
theorem told_str {a : Addr} {i L j : Nat} {v : Str} : PE X (.Constant (.str v) j pos) (rTold a i L v) := PE_imp pe_str fun σ H Q h => h.2
theorem told_is {a D C : Addr} {i : Nat} {oe : Obj} {pn : List (Addr × Obj)} {en cn : Str} {b : Bool} (hs : PySem.W.kitOne X.kw (.ref D) (.ref C) = some b) (hC : X.mg cn = some (.ref C)) (ec : ExcC X.kw D) (hz : Zc (.ref D) none oe) (hf : ∃ vs, oe.data = .fields vs)
    (hi : X.N[i]? = some en) (hbi : X.mg "isinstance" = none) (hgi : Gl (X.suite a ((a, oe) :: pn)) "isinstance") (hgc : Gl (X.suite a ((a, oe) :: pn)) cn) (hv : Vis X.env.scope en) (hd : (en == ("__debug__" : Str)) = false) (hcd : (en == ("__classdict__" : Str)) = false) (hdc : (cn == ("__debug__" : Str)) = false)
    (he1 : starEach [(.Name en p2 : Expr), .Name cn p3] X.env = (false, eval (.Name en p2) X.env) :: starEach [.Name cn p3] X.env) (he2 : starEach [(.Name cn p3 : Expr)] X.env = (false, eval (.Name cn p3) X.env) :: starEach [] X.env) (hpl : (backTo pos (starEach [(.Name cn p3 : Expr)] X.env)).any (·.1) = false) :
    PT (X.suite a ((a, oe) :: pn)) (.Call (.Name "isinstance" p1) [.Name en p2, .Name cn p3] [] pos) (rToldT a i X.N.length b) := by
  have hE := pe_callB (X := X.suite a ((a, oe) :: pn)) (p := p1) (pos := pos) (call_isE (pn := pn) ec hz hf) hgi hbi (by decide +kernel) (pa_cons (pe_var (X := X.suite a ((a, oe) :: pn)) (pos := p2) hi hv hd hcd) (pa_cons (pe_glob (X := X.suite a ((a, oe) :: pn)) (v := .ref C) (pos := p3) hgc hC rfl hdc) pa_nil he2) he1) (by decide) (by decide) he1 hpl
  refine ⟨fun pins s σ H Q I ⟨h1, h2⟩ => ?_⟩
  refine (pt_val hE (fun _ => rfl)).run pins s σ H Q I ?_
  exact ⟨.ref a, h1 I.len, ⟨.ref C, .ref C, b, rfl, fun u r => r, hs, b, rfl, h2⟩⟩
end
end TT
end

section
set_option Elab.async false
set_option linter.all false
set_option autoImplicit false
set_option maxRecDepth 100000
/-! TT: lambdas handed to a def that tells what was raised -/
namespace TT
open PySem PySem.Spec PyProof.Rows L2
section
variable {X : Cx} {a : Addr} {i L : Nat} {b : Bool} {v1 v2 : Str} {pos : Pos} {test A B : Expr} {sA rest : List Stmt}
theorem told_ite (ht : PT X test (rToldT a i L b)) (hA : PE X A (rTold a i L v1)) (hB : PE X B (rTold a i L v2)) : PE X (.IfExp test A B pos) (rTold a i L (if b = true then v1 else v2)) :=
  PE_imp (pe_ifExp ht hA hB) fun σ H Q ⟨h1, h2⟩ => ⟨h1, by
    cases b with
    | true => exact iteT ⟨h1, h2⟩
    | false => exact iteF ⟨h1, h2⟩⟩
theorem told_ret (hA : PE X A (rTold a i L v1)) : PSs X [.Return (some A) pos] (rToldS a i L v1) := PSs_imp (pss_one (ps_ret hA)) fun D σ H h => h
theorem told_sif (ht : PT X test (rToldT a i L b)) (hA : PSs X sA (rToldS a i L v1)) (hB : PSs X rest (rToldS a i L v2)) : PSs X (.If test sA [] pos :: rest) (rToldS a i L (if b = true then v1 else v2)) :=
  PSs_imp (pss_cons (ps_if ht hA pss_nil) hB) fun D σ H ⟨h1, h2⟩ => ⟨h1, by
    cases b with
    | true => exact iteT ⟨h1, h2⟩
    | false => exact iteF ⟨h1, h2⟩⟩
end
/-- what the def makes of the lambda -/
def TTold (mg : Str → Option Value) (t : Told) (els : List Nat) (cs : List Nat) : (XK → Hp → VK → Prop) → Hp → VK → Prop := fun tl H Q =>
  tl (fun cls d H' => ∃ c D, c ∈ cs ∧ cls = .ref D ∧ d = none ∧ mg (exN c) = some (.ref D) ∧ Q (.str ⟨(t.ev c).toArray⟩) H') H (fun _ H' => Q (.str ⟨els.toArray⟩) H')
theorem told_gives {X : Cx} {Ng : List Str} {x a xT en : Str} {sg : Scope} {g CT : Addr} {cdg : Value} {q : Str} {i j : Nat} {b₀ : Stmt} {suite : List Stmt} {t : Told} {els cs : List Nat} {elsS : Str} {p1 p2 p3 p4 p5 p6 p7 p8 : Pos}
    (hN : Ng.Nodup) (hi : Ng[i]? = some en) (hln : sg.names.lookup en = some .local) (hgT : sg.names.lookup xT = some .globalImplicit) (hmT : X.mg xT = some (.ref CT)) (hdT : (xT == ("__debug__" : Str)) = false) (h0 : ∀ f : Addr, (L2.start Ng [V.ref f])[0]? = some (some (V.ref f)))
    (hels : elsS = ⟨els.toArray⟩) (hexm : ∀ c ∈ cs, ∀ D, X.mg (exN c) = some (.ref D) → PySem.W.exmOne X.kw (.ref D) (.ref CT) = some true)
    (hsu : ∀ (Y : Cx), Y.K = X.kw → Y.mg = X.mg → Y.N = Ng → Y.env.scope = sg → ∀ c ∈ cs, ∀ D, X.mg (exN c) = some (.ref D) → ∀ (a : Addr) (oe : Obj) (pn : List (Addr × Obj)), Zc (.ref D) none oe → (∃ vs, oe.data = .fields vs) → PSs (Y.suite a ((a, oe) :: pn)) (b₀ :: suite) (rToldS a i Ng.length ⟨(t.ev c).toArray⟩)) :
    LamX.GivesTo X Ng x sg g cdg [.Try [.Expr (.Call (.Name a p1) [] [] p2) p3] [.ExceptHandler (some (.Name xT p4)) (some en) (b₀ :: suite) p5] [] [] p6, .Return (some (.Constant (.str elsS) j p7)) p8] a q (TTold X.mg t els cs) := by
  intro f c' s H Q tl act hc h
  have hil : i < Ng.length := (List.getElem?_eq_some_iff.mp hi).1
  have hgl : Gl (cxOf C8.CX0 X.prog X.w X.kw X.mg X.base Ng x sg g cdg X.A X.stack s H C8.E0).nox xT := hgT
  refine ⟨_, pss_cons (ps_try_as (X := (cxOf C8.CX0 X.prog X.w X.kw X.mg X.base Ng x sg g cdg X.A X.stack s H C8.E0).nox) (c := .ref CT) (i := i)
      (tb := fun W D σ H => ∃ Ech : XK, (∀ cls d σ' H', Ech cls d H' → W cls d σ' H') ∧ σ[0]? = some (some (.ref f)) ∧ H c' = some (LamX.CodeO c' q) ∧ tl Ech H fun _ H' => D.nx σ H')
      (ts := fun a cls d D σ H => ∃ c Dc, c ∈ cs ∧ cls = .ref Dc ∧ d = none ∧ X.mg (exN c) = some (.ref Dc) ∧ rToldS a i Ng.length ⟨(t.ev c).toArray⟩ D σ H)
      rfl rfl hN hi hln ⟨hgl, hdT, .inl hmT⟩ LamX.takes0 (fun W pn xe tk _ => ?_) (fun a oe cls d pn hz hf => ?_)) (pss_one (ps_ret pe_str)), ?_⟩
  · refine ⟨fun pins s' σ H' D I h' => ?_⟩
    obtain ⟨Ech, hW, h1, h2, h3⟩ := h'
    have hp := act W pn xe Ech p1 p2 tk hW
    have hq := pss_one (ps_expr (pos := p3) hp)
    exact hq.run pins s' σ H' D I ⟨h1, h2, h3⟩
  · refine ⟨fun pins s' σ H' D I h' => ?_⟩
    obtain ⟨c, Dc, hc', rfl, rfl, hm, h1⟩ := h'
    exact (hsu (cxOf C8.CX0 X.prog X.w X.kw X.mg X.base Ng x sg g cdg X.A X.stack s H C8.E0).nox rfl rfl rfl rfl c hc' Dc hm a oe pn hz hf).run pins s' σ H' D I h1
  · refine ⟨fun cls d H' => ∃ c D, c ∈ cs ∧ cls = .ref D ∧ d = none ∧ X.mg (exN c) = some (.ref D) ∧ Q (.str ⟨(t.ev c).toArray⟩) H', fun cls d σ' H' ⟨c, D, k1, k2, k3, k4, k5⟩ => ?_, h0 f, hc, ?_⟩
    · subst k2
      refine ⟨true, hexm c k1 D k4, fun _ a _ => ⟨c, D, k1, rfl, k3, k4, fun hl => ?_, k5⟩, fun z => nomatch z⟩
      rw [List.length_set] at hl
      exact List.getElem?_set_self (by rw [hl]; exact hil)
    · subst hels
      exact h
/-- a def that tells what was raised stands there -/
structure ToldAt (K : KW) (mg : Str → Option Value) (x : Str) (t : Told) (els cs : List Nat) : Prop where
  ex : ∃ (g : Addr) (Ng : List Str) (a : Str) (sg : Scope) (pg : Arguments) (bg : List Stmt) (dV kV doc pm cdv ct oc : Value) (an od : Option Addr) (osl : Array (Option Value)),
    mg x = some (.ref g) ∧ PySem.W.keepIn K (.ref g) = true ∧ K.K.lookup g = some ⟨oc, od, .func (PySem.W.fnOf x x pg bg sg dV kV doc pm an cdv ct), osl⟩ ∧ PySem.W.codeIn K cdv x = true ∧
    L2.Binds K (PySem.W.fnOf x x pg bg sg dV kV doc pm an cdv ct) [a] [] ∧ FnScope Ng [a] sg ∧ Ng[0]? = some a ∧ Vis sg a ∧ (a == ("__debug__" : Str)) = false ∧ (a == ("__classdict__" : Str)) = false ∧
    ∀ (X : Cx) (q : Str), X.K = K.K → X.mg = mg → LamX.GivesTo X Ng x sg g cdv bg a q (TTold mg t els cs)
theorem Emb.extN {K : KW} {g : Gh} {m : Mm} {H H1 : Hp} (e : Emb K g m H) (x : LamX.ExtN H H1) (t : LamX.Tabs g.T H1) : Ext g H g H1 ∧ Emb K g m H1 := by
  have xx : Ext g H g H1 := ⟨fun _ _ h => h, fun _ _ h => h, fun a u h _ n => x a u h n, fun _ _ _ h _ => h, fun _ _ _ _ _ h => h, rfl⟩
  refine ⟨xx, ⟨fun n o h => ?_, fun n a h => ?_, e.inj, fun a u h => ?_, e.nt, t⟩⟩
  · have q := e.obj n o h
    cases o with
    | lst ys =>
      obtain ⟨a, ws, h1, h2, h3⟩ := q
      exact ⟨a, ws, h1, x _ _ h2 (fun _ z => nomatch z), h3.ext e xx⟩
    | dict ys =>
      obtain ⟨a, ws, h1, h2, h3⟩ := q
      exact ⟨a, ws, h1, x _ _ h2 (fun _ z => nomatch z), h3.ext e xx⟩
    | kd ys =>
      obtain ⟨a, ws, h1, h2, h3⟩ := q
      exact ⟨a, ws, h1, x _ _ h2 kd_nt, h3.ext e xx⟩
    | kl ys =>
      obtain ⟨a, o, ws, h1, h2, h3⟩ := q
      exact ⟨a, o, ws, h1, h2, h3.ext e xx⟩
    | dead => trivial
    | tab P l => exact q
  · obtain ⟨h1, u, h2, h3⟩ := e.dom n a h
    exact ⟨h1, u, x _ _ h2 (nt_mut h3), h3⟩
  · obtain ⟨h1, h2⟩ := e.ro a u h
    exact ⟨x _ _ h1 (e.nt a u h), h2⟩
section
variable {X : Cx} {Ξ : XC}
theorem se_told {x : Str} {c P : Addr} {k : Nat} {q : List Nat} {params : Arguments} {body : Expr} {scope : Scope} {t : Told} {els cs : List Nat} {B : SE} {p lpos pos : Pos} (h : ToldAt X.kw X.mg x t els cs) (TB : LamX.TabB X.base X.mg c P) (hcode : X.env.code = .ref c) (hr : Room (k + 2) X.A)
    (hbody : ∀ (A : Around) (outer : List Env) (s : Shared) (H : Hp) (E : XK) (f c' : Addr), Room k (A.deeper (LamX.lamEnv X scope s.heap.objs.size f c')) → PE (LamX.lamCx X A outer s H E scope f c') body (rdE X.kw (XofE X.kw X.mg E) B))
    (hq : X.env.qual ++ "<lambda>" = ⟨q.toArray⟩ := by rfl) (L : LamX.LamS X.env.scope scope := by exact LamX.lamS_by rfl) (hdef : defaultsOf params X.env = ([], []) := by rfl)
    (hbind : ∀ (q : Str) (cl : List (Str × Addr)) (pm cv ctv : Value), bindArgs (PySem.W.kla_fn "<lambda>" q params body scope cl pm cv ctv) ⟨[], []⟩ = pure [] := by intro _ _ _ _ _; rfl) (hg : Gl X x := by rfl) (hdb : (x == ("__debug__" : Str)) = false := by decide) :
    PE X (.Call (.Name x p) [.Lambda params body scope lpos] [] pos) (rdE X.kw Ξ (eTold P q t els cs B)) := by
  obtain ⟨g, Ng, a, sg, pg, bg, dV, kV, doc, pm, cdv, ct, oc, an, od, osl, hm, hk, lk, hcd, hb, S, hN0, hva, hda, hca, hG⟩ := h.ex
  refine PE_imp (LamX.pe_lamcall (T := [(P, ⟨q.toArray⟩)]) (TT := TTold X.mg t els cs) (t := fun E => rdE X.kw (XofE X.kw X.mg E) B) hg hm hk lk hcd hb S hN0 hva (hG X _ rfl rfl) TB hcode (by rw [hq]; exact List.mem_singleton.mpr rfl) (fun p hp _ => by rw [hq]; cases List.mem_singleton.mp hp; rfl) hr L hdef hbind hbody hdb hda hca) fun σ H Q ⟨gh, s, m, em, sr, q1⟩ => ?_
  unfold eTold at q1
  split at q1
  · rename_i P' q' hm0
    split at q1
    · rename_i hh
      obtain ⟨rfl, rfl⟩ := hh
      have hT : gh.T = [(P', ⟨q'.toArray⟩)] := em.obj 0 _ hm0
      refine ⟨by rw [← hT]; exact em.tab, fun H1 eN T1 => ?_⟩
      obtain ⟨xx, ee⟩ := em.extN eN (by rw [hT]; exact T1)
      refine ⟨gh, s, m, ee, sr.ext em xx, ?_⟩
      cases hB : B s m with
      | ok pr =>
        obtain ⟨v, m'⟩ := pr
        rw [hB] at q1
        intro g2 H2 V x2 e2 r2
        exact q1 g2 H2 _ (xx.trans x2) e2 (.str els)
      | ex e m' =>
        rw [hB] at q1
        obtain ⟨cc, fs⟩ := e
        cases fs with
        | cons _ _ => exact q1.elim
        | nil =>
          by_cases hc : cs.contains cc = true
          · have q2 : QE X.kw Ξ gh H Q (.ok (.str (t.ev cc), m')) := by
              have q3 := q1
              simp only at q3
              rw [if_pos hc] at q3
              exact q3
            intro g2 H2 x2 e2 C d hmC hF
            refine ⟨cc, C, by simpa using hc, rfl, ?_, hmC, q2 g2 H2 _ (xx.trans x2) e2 (.str _)⟩
            cases hF; rfl
          · have q3 := q1
            simp only at q3
            rw [if_neg hc] at q3
            exact q3.elim
      | no => rw [hB] at q1; exact q1.elim
    · exact q1.elim
  · exact q1.elim
end
section
variable {X : Cx} {Ξ : XC} {k : Nat} {x : Str} {p pos : Pos} {e : Expr} {es : List Expr} {fs : SA}
theorem cP_cX {K : KW} {mg : Str → Option Value} {E : XK} {g : Gh} {H : Hp} {Q : VK} {F : PF} {as : List PV} {m : Mm} (q : QE K Ξ g H Q (cP F as m)) : QE K (XofE K mg E) g H Q (cX F as m) := by
  unfold cP at q
  unfold cX
  split at q
  · rename_i hp
    rw [if_pos hp]
    cases h : F as with
    | ok p => rw [h] at q; exact q
    | ex e m => rw [h] at q; exact q.elim
    | no => rw [h] at q; exact q.elim
  · exact q.elim
/-- the call of a def that may raise, where it does not -/
theorem sh_callXP {n : Nat} {F : PF} (h : HasX X.prog X.w X.kw X.mg X.base x k (spX X.kw X.mg n F)) (hr : Room k X.A) (ha : PA X (e :: es) (rdA X.kw Ξ fs)) (hl : ∀ s m xs m', fs s m = .ok (xs, m') → xs.length = (e :: es).length)
    (hn : (e :: es).length = n := by rfl) (hg : Gl X x := by rfl) (hdb : (x == ("__debug__" : Str)) = false := by decide) (he : starEach (e :: es) X.env = (false, eval e X.env) :: starEach es X.env := by rfl) (hpl : (backTo pos (starEach es X.env)).any (·.1) = false := by rfl) :
    PE X (.Call (.Name x p) (e :: es) [] pos) (rdE X.kw Ξ (eN (cP F) fs)) := by
  obtain ⟨f, fd, ps, G, hm, hk, hb⟩ := h
  refine PE_imp (pe_call G hr hg hm hk hb .nil passL ha hdb he hpl) fun σ H Q ⟨g, s, m, em, sr, q⟩ => ?_
  refine ⟨g, s, m, em, sr, QR.bind q fun p hp q1 g1 H1 V x1 e1 r1 => ?_⟩
  exact ⟨g1, p.2, p.1, by rw [hl s m p.1 p.2 hp, hn], e1, by rw [List.append_nil]; exact r1, cP_cX (QE.later x1 q1)⟩
end

/-! ### the law's own promise, with a table -/
def spLawT (K : KW) (Pt : Addr) : Sp := fun vs H Q _ => ∃ (a : Addr) (ns : List Int), vs = [.ref a] ∧ SqL K H a (ns.map V.int) ∧ ns.length ≤ 63 ∧ H Pt = some (.tbl #[]) ∧ ∀ H', Q (.bl true) H'
theorem spLawT_of {K : KW} {Pt : Addr} {q : List Nat} {F : IF} (h : ∀ ns : List Int, ns.length ≤ 63 → ∃ m, F [.fz (ns.map PV.int)] [.tab Pt q] = .ok (.bl true, m)) {vs : List V} {H : Hp} {Q : VK} {E : XK} (z : spLawT K Pt vs H Q E) : spI K 1 F vs H Q E := by
  obtain ⟨a, ns, rfl, hS, hl, hP, z⟩ := z
  refine ⟨⟨fun _ => none, ntOf H, [(Pt, ⟨q.toArray⟩)]⟩, [.tab Pt q], [.fz (ns.map PV.int)], rfl, ⟨(fun n o h => ?_), (fun n a h => nomatch h), (fun n k a h _ => nomatch h), (fun a u h => ⟨(ntOf_inv h).1, (fun n z => nomatch z)⟩), (fun a u h => (ntOf_inv h).2), (fun p hp => ?_)⟩, .cons (.fz (ntOf_sq hS) (rps_ints ns)) .nil, ?_⟩
  · cases n with
    | zero => simp at h; subst h; rfl
    | succ n => simp at h
  · cases List.mem_singleton.mp hp
    exact LamX.TabS.nil hP
  · obtain ⟨m, hm⟩ := h ns hl
    unfold cI
    rw [hm]
    intro g' H' V x e r
    cases r.bl_inv
    exact z H'
theorem law_fnT {P : Program} {w : World} {K : KW} {mg : Str → Option Value} {base : Heap} {x : Str} {st : Stmt} {f c Pt : Addr} {N : List Str} {p : Str} {k : Nat} {b : SS} {q : List Nat} {oc kV doc pm ct : Value} {od an : Option Addr} {osl : Array (Option Value)}
    (lk : K.K.lookup f = some ⟨oc, od, .func (PySem.W.fnOf x x (defArgs st) (defBody st) (defScope st) .none kV doc pm an (.ref c) ct), osl⟩) (hcd : PySem.W.codeIn K (.ref c) x = true) (S : FnScope N [p] (defScope st)) (hN : 1 ≤ N.length)
    (hbody : ∀ (A : Around) (outer : List Env) (s : Shared) (H : Hp) (E : XK), Room k (A.deeper (envOfC x (defScope st) s.heap.objs.size f (.ref c))) →
      PSs (cxOf CX0 P w K mg base N x (defScope st) f (.ref c) A outer s H E).nox (defBody st) (rdS K X0 b))
    (h : ∀ ns : List Int, ns.length ≤ 63 → ∃ m, bodyI N.length 1 b [.fz (ns.map PV.int)] [.tab Pt q] = .ok (.bl true, m)) : FnOk P w K mg base CX0 (k + 1) f (PySem.W.fnOf x x (defArgs st) (defBody st) (defScope st) .none kV doc pm an (.ref c) ct) [p] (spLawT K Pt) := by
  refine fn_of lk hcd S (fun vs H Q E z => ?_) fun A outer s H vs Q E hr z => ?_
  · obtain ⟨a, ns, rfl, _⟩ := z; rfl
  · obtain ⟨g, m, as, hl, em, r, q⟩ := spLawT_of h z
    exact ⟨_, (hbody A outer s H E hr).nox, body_rd em r (by rw [hl]; exact hN) (by rw [hl]; exact q)⟩
end TT
end

section
set_option Elab.async false
set_option linter.all false
set_option autoImplicit false
set_option maxRecDepth 100000
/-! TT: defs as values, called by a name that holds one -/
namespace TT
open PySem PySem.Spec PyProof.Rows L2
/-- v(..), v one of these defs -/
def eCallV (tbl : List (Nat × ON)) (f : SE) (args : SA) : SE := fun s m => (f s m).bind fun (v, m1) => match v with
  | .fn a => (match tbl.lookup a with
    | some G => (args s m1).bind fun (xs, m2) => G xs m2
    | none => .no)
  | _ => .no
/-- a def that may raise stands at a, with the values of what is left out -/
def CalV (P : Program) (w : World) (K : KW) (mg : Str → Option Value) (base : Heap) (x : Str) (a : Addr) (k : Nat) (ds : List PV) (sp : Sp) : Prop :=
  ∃ fd ps us zs, FnOk P w K mg base (L2.CX P w) k a fd ps sp ∧ mg x = some (.ref a) ∧ PySem.W.keepIn K (.ref a) = true ∧ Binds K fd ps us ∧ Vals zs us ∧ ∀ g H, Rps K g H ds zs
section
variable {P : Program} {w : World} {K : KW} {mg : Str → Option Value} {base : Heap}
theorem CalV.toX {x : Str} {a : Addr} {k n N : Nat} {ds : List PV} {b : SS} (h : CalV P w K mg base x a k ds (spXI K mg n (bodyI N n b))) : CalV P w K mg base x a k ds (spX K mg n (bodyP N n b)) :=
  let ⟨fd, ps, us, zs, c, r⟩ := h; ⟨fd, ps, us, zs, c.imp fun _ _ _ _ => spX_of, r⟩
theorem cal_def {x : Str} {st : Stmt} {a : Addr} {fd : FuncData} {ps : List Str} {k : Nat} {sp : Sp} (c : FnOk P w K mg base (L2.CX P w) k a fd ps sp) (F : Fun K x x st a fd) (hm : mg x = some (.ref a))
    (h : ∀ (kV doc pm : Value) (an : Option Addr) (cdv ct : Value) (us : List Value), us.length = ps.length → bindArgs (PySem.W.fnOf x x (defArgs st) (defBody st) (defScope st) .none kV doc pm an cdv ct) ⟨us, []⟩ = pure (ps.zip us)) : CalV P w K mg base x a k [] sp :=
  ⟨fd, ps, [], [], c, hm, F.kp, F.binds h, .nil, fun _ _ => .nil⟩
theorem CalV.hasX {x : Str} {a : Addr} {k : Nat} {sp : Sp} (h : CalV P w K mg base x a k [] sp) : HasX P w K mg base x k sp := by
  obtain ⟨fd, ps, us, zs, c, hm, kp, hb, hv, hz⟩ := h
  have h0 : zs = [] := by
    have := (hz ⟨fun _ => none, fun _ => none, []⟩ fun _ => none).length
    cases zs with
    | nil => rfl
    | cons _ _ => cases this
  subst h0
  cases hv
  exact ⟨a, fd, ps, c, hm, kp, hb⟩
theorem cal_defD {x : Str} {st : Stmt} {f : Addr} {fd : FuncData} {ps : List Str} {k : Nat} {sp : Sp} {kws : List (Str × V)} {ds : List PV} (n : Nat) (a : FnOk P w K mg base (L2.CX P w) k f fd ps sp) (hm : mg x = some (.ref f)) (F : FunD K x x (defArgs st) (defBody st) (defScope st) [] kws f fd) (hk : kws ≠ []) (hn : n + kws.length = ps.length)
    (hc : ∀ (D : Addr) (doc pm : Value) (an : Option Addr) (cdv ct : Value) (us ks : List Value), us.length = n → ks.length = kws.length →
      KwChain D ((kws.map (·.1)).zip ks) (bindArgs (PySem.W.fnOf x x (defArgs st) (defBody st) (defScope st) .none (.ref D) doc pm an cdv ct) ⟨us, []⟩) (ps.zip (us ++ ks))) (hd : ∀ g H, Rps K g H ds (kws.map (·.2))) : CalV P w K mg base x f k ds sp := by
  obtain ⟨us, hv, hb⟩ := F.binds0 n hk hn hc
  exact ⟨fd, ps, us, _, a, hm, F.kp, hb, hv, hd⟩
end
section
variable {X : Cx} {Ξ : XC} {j : Nat} {x : Str} {p pos : Pos} {e : Expr} {es : List Expr} {fs : SA}
theorem se_fnv {a : Addr} {k : Nat} {ds : List PV} {sp : Sp} (h : CalV X.prog X.w X.kw X.mg X.base x a k ds sp) (hg : Gl X x := by rfl) (hd : (x == ("__debug__" : Str)) = false := by decide) : PE X (.Name x pos) (rdE X.kw Ξ (eC (.fn a))) := by
  obtain ⟨fd, ps, us, zs, c, hm, _⟩ := h
  exact PE_imp (pe_glob (v := .ref a) hg hm rfl hd) fun σ H Q ⟨g, s, m, em, sr, q⟩ => q g H _ (Ext.refl _ _) em (.fn a)
/-- each def of the table -/
def TblOk (X : Cx) (j n : Nat) (tbl : List (Nat × ON)) : Prop := ∀ a G, (a, G) ∈ tbl → ∃ (k : Nat) (x : Str) (ds : List PV) (N : Nat) (F : PF), k ≤ j ∧ n + ds.length = N ∧ CalV X.prog X.w X.kw X.mg X.base x a k ds (spX X.kw X.mg N F) ∧ G = fun xs m => cX F (xs ++ ds) m
theorem tbl_nil {n : Nat} : TblOk X j n [] := fun _ _ h => nomatch h
theorem tbl_cons {n : Nat} {tbl : List (Nat × ON)} {a : Addr} {k N : Nat} {y : Str} {ds : List PV} {F : PF} (h : CalV X.prog X.w X.kw X.mg X.base y a k ds (spX X.kw X.mg N F)) (hk : k ≤ j) (hn : n + ds.length = N) (ht : TblOk X j n tbl) : TblOk X j n ((a, fun xs m => cX F (xs ++ ds) m) :: tbl) := fun b G hm => by
  rcases List.mem_cons.mp hm with z | z
  · cases z
    exact ⟨k, y, ds, N, F, hk, hn, h, rfl⟩
  · exact ht b G z
theorem lookup_mem {α : Type} : ∀ {l : List (Nat × α)} {a : Nat} {v : α}, l.lookup a = some v → (a, v) ∈ l
  | (b, w) :: l, a, v, h => by
    rw [List.lookup_cons] at h
    split at h
    · rename_i hb
      cases h
      rw [beq_iff_eq.mp hb]; exact List.mem_cons_self
    · exact List.mem_cons_of_mem _ (lookup_mem h)
theorem se_callV {tbl : List (Nat × ON)} {n : Nat} {E : XK} (i : Nat) (ok : TblOk X j n tbl) (hr : Room j X.A) (tk : Takes X (fun cls d _ H => E cls d H)) (ha : PA X (e :: es) (rdA X.kw (XofE X.kw X.mg E) fs)) (hl : ∀ s m xs m', fs s m = .ok (xs, m') → xs.length = (e :: es).length)
    (hn : (e :: es).length = n := by rfl) (hN : X.N[i]? = some x := by rfl) (hv : Vis X.env.scope x := by first | exact Or.inl rfl | exact Or.inr (Or.inl rfl) | exact Or.inr (Or.inr rfl)) (hd : (x == ("__debug__" : Str)) = false := by decide) (hcd : (x == ("__classdict__" : Str)) = false := by decide)
    (he : starEach (e :: es) X.env = (false, eval e X.env) :: starEach es X.env := by rfl) (hpl : (backTo pos (starEach es X.env)).any (·.1) = false := by rfl) :
    PE X (.Call (.Name x p) (e :: es) [] pos) (rdE X.kw (XofE X.kw X.mg E) (eCallV tbl (eVar i) fs)) := by
  refine ⟨fun pins s σ H Q I ⟨g, sl, m, em, sr, q⟩ => ?_⟩
  unfold eCallV eVar at q
  cases hsl : sl[i]? with
  | none => rw [hsl] at q; exact q.elim
  | some o =>
    cases o with
    | none => rw [hsl] at q; exact q.elim
    | some v =>
      rw [hsl] at q
      simp only [Rs.bind_ok] at q
      obtain ⟨wv, hσ, rv⟩ := sr.at_ i v hsl
      cases v with
      | fn a =>
        cases rv
        cases htb : tbl.lookup a with
        | none => simp only [htb] at q; exact q.elim
        | some G =>
          obtain ⟨k, y, ds, N, F, hk, hN2, ⟨fd, ps, us, zs, c, hm, kp, hb, hvz, hz⟩, hG⟩ := ok a G (lookup_mem htb)
          have name := (pe_var (X := X) (pos := p) hN hv hd hcd).run pins s σ H (fun v H1 => v = .ref a ∧ H1 = H) I ⟨.ref a, hσ, rfl, rfl⟩
          simp only [htb, hG] at q
          have args : rdA X.kw (XofE X.kw X.mg E) fs σ H fun vs H1 => spX X.kw X.mg N F (vs ++ zs) H1 Q E := by
            refine ⟨g, sl, m, em, sr, QR.bind q fun pr hp q1 g1 H1 V x1 e1 r1 => ?_⟩
            exact ⟨g1, pr.2, pr.1 ++ ds, by rw [List.length_append, hl _ _ _ _ hp, hn, hN2], e1, r1.append (hz _ _), QE.later x1 q1⟩
          refine wpAny_Call_Name_kw (thn name fun u s1 ⟨v, H1, I1, r1, q1⟩ => ?_)
          obtain ⟨rfl, rfl⟩ := q1
          cases r1
          have step := fun (I1 : Inv X pins σ H1 s1) => ha.run pos pins s1 σ H1 _ I1 args
          refine PySem.W.callWith_K (h₀ := X.base) I1.ok.mod.kin kp (thn (step I1) fun vs2 s2 ⟨ws, H2, I2, r2, q2⟩ => ⟨I2.kIn, ?_⟩) he hpl
          exact run_fn (X := X) c (hr.mono hk) hb hvz (passes_call tk fun _ _ _ _ h => h) I2 r2 q2
      | _ => exact q.elim
end
theorem ss_nevers {X : Cx} {Ξ : XC} {sts : List Stmt} : PSs X sts (rdS X.kw Ξ sNever) := ⟨fun pins s σ H D I ⟨g, sl, m, em, sr, q⟩ => q.elim⟩
end TT
end

section
set_option linter.all false
set_option autoImplicit false
/-! TT: equations for simp -/
namespace TT
section
variable {s : Sl} {m : Mm} {a b c : SE} {v w : PV} {i : Nat} {t u : ST} {f h : SS} {r : SA}
@[simp] theorem eVar_ap : eVar i s m = (match s[i]? with | some (some v) => .ok (v, m) | _ => .no) := rfl
@[simp] theorem eC_ap : eC v s m = .ok (v, m) := rfl
@[simp] theorem e1_ap {f : O1} : e1 f a s m = (a s m).bind fun p => f p.1 p.2 := rfl
@[simp] theorem e2_ap {f : O2} : e2 f a b s m = (a s m).bind fun p => (b s p.2).bind fun q => f p.1 q.1 q.2 := rfl
@[simp] theorem aNil_ap : aNil s m = .ok ([], m) := rfl
@[simp] theorem aCons_ap : aCons a r s m = (a s m).bind fun p => (r s p.2).bind fun q => .ok (p.1 :: q.1, q.2) := rfl
@[simp] theorem eN_ap {f : ON} : eN f r s m = (r s m).bind fun p => f p.1 p.2 := rfl
@[simp] theorem eTup_ap : eTup r s m = (r s m).bind fun p => .ok (.tup p.1, p.2) := rfl
@[simp] theorem eLst_ap : eLst r s m = (r s m).bind fun p => .ok (.vl p.1, p.2) := rfl
@[simp] theorem eLstM_ap : eLstM r s m = (r s m).bind fun p => .ok (.ref p.2.length, p.2 ++ [.lst p.1]) := rfl
@[simp] theorem eIf_ap : eIf t a b s m = (t s m).bind fun p => if p.1 = true then a s p.2 else b s p.2 := rfl
@[simp] theorem eM_ap {g : Tag} {f : PV → List PV → Mm → Rs (PV × Mm)} : eM g f a r s m = (a s m).bind fun p => if tyOk p.2 g p.1 = true then (r s p.2).bind fun q => f p.1 q.1 q.2 else .no := rfl
@[simp] theorem eSlL_ap : eSlL a b s m = (b s m).bind fun p => (a s p.2).bind fun q => match q.1 with
  | .int i => oSlice (some i) none p.1 q.2
  | _ => .no := rfl
@[simp] theorem eSlH_ap : eSlH a b s m = (b s m).bind fun p => (a s p.2).bind fun q => match q.1 with
  | .int i => oSlice none (some i) p.1 q.2
  | _ => .no := rfl
@[simp] theorem eSlLH_ap : eSlLH a b c s m = (c s m).bind fun p => (a s p.2).bind fun q => match q.1 with
  | .int i => (b s q.2).bind fun z => match z.1 with
    | .int j => oSlice (some i) (some j) p.1 z.2
    | _ => .no
  | _ => .no := rfl
@[simp] theorem asB_bl {k : Bool} : asB (.bl k) m = .ok (k, m) := rfl
@[simp] theorem eAnd_ap : eAnd a b s m = (a s m).bind fun p => match p.1 with
  | .bl true => b s p.2
  | .bl false => .ok (.bl false, p.2)
  | _ => .no := rfl
@[simp] theorem eOr_ap : eOr a b s m = (a s m).bind fun p => match p.1 with
  | .bl false => b s p.2
  | .bl true => .ok (.bl true, p.2)
  | _ => .no := rfl
@[simp] theorem eNot_ap : eNot a s m = (a s m).bind fun p => match p.1 with
  | .bl b => .ok (.bl (!b), p.2)
  | _ => .no := rfl
@[simp] theorem tV_ap : tV a s m = (a s m).bind fun p => asB p.1 p.2 := rfl
@[simp] theorem tAnd_ap : tAnd t u s m = (t s m).bind fun p => if p.1 = true then u s p.2 else .ok (false, p.2) := rfl
@[simp] theorem tOr_ap : tOr t u s m = (t s m).bind fun p => if p.1 = true then .ok (true, p.2) else u s p.2 := rfl
@[simp] theorem tNot_ap : tNot t s m = (t s m).bind fun p => .ok (!p.1, p.2) := rfl
@[simp] theorem tT_ap : tT a s m = (a s m).bind fun p => match tru p.2 p.1 with
  | some b => .ok (b, p.2)
  | none => .no := rfl
@[simp] theorem tYes_ap : tYes s m = .ok (true, m) := rfl
@[simp] theorem tru_bl {k : Bool} : tru m (.bl k) = some k := rfl
@[simp] theorem tru_non : tru m .non = some false := rfl
@[simp] theorem tru_int {i : Int} : tru m (.int i) = some (i != 0) := rfl
@[simp] theorem gName_ap : gName i v s m = .ok (s.set i (some v), m) := rfl
@[simp] theorem gNames_nil : gNames [] [] s = some s := rfl
@[simp] theorem gNames_cons {is : List Nat} {vs : List PV} : gNames (i :: is) (v :: vs) s = gNames is vs (s.set i (some v)) := rfl
@[simp] theorem gTup_ap {is : List Nat} {vs : List PV} : gTup is (.tup vs) s m = (match gNames is vs s with | some s' => .ok (s', m) | none => .no) := rfl
@[simp] theorem gSub_ap : gSub a b v s m = (a s m).bind fun p => (b s p.2).bind fun q => (oSet p.1 q.1 v q.2).bind fun m3 => .ok (s, m3) := rfl
@[simp] theorem sSkip_ap : sSkip s m = .ok (.nx, s, m) := rfl
@[simp] theorem sSeq_ap : sSeq f h s m = (f s m).bind fun p => match p.1 with
  | .nx => h p.2.1 p.2.2
  | g => .ok (g, p.2.1, p.2.2) := rfl
@[simp] theorem sExpr_ap : sExpr a s m = (a s m).bind fun p => .ok (.nx, s, p.2) := rfl
@[simp] theorem sAsg_ap {g : SG} : sAsg a g s m = (a s m).bind fun p => (g p.1 s p.2).bind fun q => .ok (.nx, q.1, q.2) := rfl
@[simp] theorem sRet_ap : sRet a s m = (a s m).bind fun p => .ok (.rt p.1, s, p.2) := rfl
@[simp] theorem sRetN_ap : sRetN s m = .ok (.rt .non, s, m) := rfl
@[simp] theorem sIf_ap : sIf t f h s m = (t s m).bind fun p => if p.1 = true then f s p.2 else h s p.2 := rfl
@[simp] theorem sBreak_ap : sBreak s m = .ok (.bk, s, m) := rfl
@[simp] theorem sCont_ap : sCont s m = .ok (.ct, s, m) := rfl
@[simp] theorem sPar2_ap {i j : Nat} : sPar2 i j r s m = (r s m).bind fun p => match p.1 with
  | [x, y] => .ok (.nx, (s.set i (some x)).set j (some y), p.2)
  | _ => .no := rfl
@[simp] theorem sPar3_ap {i j l : Nat} : sPar3 i j l r s m = (r s m).bind fun p => match p.1 with
  | [x, y, z] => .ok (.nx, ((s.set i (some x)).set j (some y)).set l (some z), p.2)
  | _ => .no := rfl
theorem sFor_ap {it : SI} {g : SG} : sFor it g f s m = (it s m).bind fun p => forL g f p.1 s p.2 := rfl
@[simp] theorem forL_nil {g : SG} : forL g f [] s m = .ok (.nx, s, m) := rfl
theorem forL_cons {g : SG} {xs : List PV} : forL g f (v :: xs) s m = (g v s m).bind fun p => (f p.1 p.2).bind fun q => match q.1 with
  | .nx => forL g f xs q.2.1 q.2.2
  | .ct => forL g f xs q.2.1 q.2.2
  | .bk => .ok (.nx, q.2.1, q.2.2)
  | .rt v => .ok (.rt v, q.2.1, q.2.2) := rfl
@[simp] theorem iL_ap : iL a s m = (a s m).bind fun p => match p.1 with
  | .vl xs => .ok (xs, p.2)
  | _ => .no := rfl
@[simp] theorem iT_ap : iT a s m = (a s m).bind fun p => match p.1 with
  | .tup xs => .ok (xs, p.2)
  | _ => .no := rfl
@[simp] theorem iZip_ap : iZip a b s m = (a s m).bind fun p => (b s p.2).bind fun q => match p.1, q.1 with
  | .tup xs, .tup ys => .ok (zipP xs ys, q.2)
  | .vl xs, .vl ys => .ok (zipP xs ys, q.2)
  | _, _ => .no := rfl
@[simp] theorem iRng1_ap : iRng1 a s m = (a s m).bind fun p => match p.1 with
  | .int j => if (decide (-P62 ≤ j) && decide (j < P62)) = true then .ok (rngL 0 j.toNat, p.2) else .no
  | _ => .no := rfl
theorem eLc_ap {own : List Nat} {it : SI} {g : SG} : eLc own it g t a s m = (it s m).bind fun p => (lcL g t a (wipe s own) p.1 p.2 []).bind fun q => .ok (.vl q.1, q.2) := rfl
@[simp] theorem look_non : look1 m .non = .non := rfl
@[simp] theorem look_bl {k : Bool} : look1 m (.bl k) = .bl k := rfl
@[simp] theorem look_int {k : Int} : look1 m (.int k) = .int k := rfl
@[simp] theorem look_str {k : List Nat} : look1 m (.str k) = .str k := rfl
@[simp] theorem look_tup {k : List PV} : look1 m (.tup k) = .tup k := rfl
@[simp] theorem look_vl {k : List PV} : look1 m (.vl k) = .vl k := rfl
@[simp] theorem look_fz {k : List PV} : look1 m (.fz k) = .fz k := rfl
theorem look_ref {n : Nat} {k : List PV} (h : m[n]? = some (.lst k)) : look1 m (.ref n) = .vl k := by simp [look1, h]
/-! operators -/
@[simp] theorem oAdd_int {i j : Int} : oAdd (.int i) (.int j) m = .ok (.int (i + j), m) := rfl
@[simp] theorem oSub_int {i j : Int} : oSub (.int i) (.int j) m = .ok (.int (i - j), m) := rfl
theorem oAdd_tup {x y : List PV} : oAdd (.tup x) (.tup y) m = if x.length + y.length ≤ LINE then .ok (.tup (x ++ y), m) else .no := rfl
theorem oAdd_vl {x y : List PV} : oAdd (.vl x) (.vl y) m = if x.length + y.length ≤ LINE then .ok (.vl (x ++ y), m) else .no := rfl
theorem oAdd_str {x y : List Nat} : oAdd (.str x) (.str y) m = if x.length + y.length ≤ LINE then .ok (.str (x ++ y), m) else .no := rfl
theorem oMul_int {i j : Int} : oMul (.int i) (.int j) m = if (within64 i || within64 j) = true then .ok (.int (i * j), m) else .no := rfl
theorem oFDiv_int {i j : Int} : oFDiv (.int i) (.int j) m = if (decide (0 < j) && decide (j < 1073741824)) = true then .ok (.int (i / j), m) else .no := rfl
theorem oMod_int {i j : Int} : oMod (.int i) (.int j) m = if decide (0 < j) = true then .ok (.int (i % j), m) else .no := rfl
@[simp] theorem oNeg_int {i : Int} : oNeg (.int i) m = .ok (.int (-i), m) := rfl
@[simp] theorem oLt_int {i j : Int} : oLt (.int i) (.int j) m = .ok (.bl (decide (i < j)), m) := rfl
@[simp] theorem oLe_int {i j : Int} : oLe (.int i) (.int j) m = .ok (.bl (decide (i ≤ j)), m) := rfl
@[simp] theorem oGt_int {i j : Int} : oGt (.int i) (.int j) m = .ok (.bl (decide (j < i)), m) := rfl
@[simp] theorem oGe_int {i j : Int} : oGe (.int i) (.int j) m = .ok (.bl (decide (j ≤ i)), m) := rfl
@[simp] theorem oIs_non {neg : Bool} : oIs neg .non .non m = .ok (.bl (!neg), m) := rfl
@[simp] theorem oIs_bl {neg : Bool} {k : Bool} : oIs neg .non (.bl k) m = .ok (.bl neg, m) := rfl
@[simp] theorem oIs_int {neg : Bool} {k : Int} : oIs neg .non (.int k) m = .ok (.bl neg, m) := rfl
@[simp] theorem oIs_str {neg : Bool} {k : List Nat} : oIs neg .non (.str k) m = .ok (.bl neg, m) := rfl
@[simp] theorem oIs_tup {neg : Bool} {k : List PV} : oIs neg .non (.tup k) m = .ok (.bl neg, m) := rfl
@[simp] theorem oIs_vl {neg : Bool} {k : List PV} : oIs neg .non (.vl k) m = .ok (.bl neg, m) := rfl
@[simp] theorem fInt_int {i : Int} : fInt [.int i] m = .ok (.int i, m) := rfl
@[simp] theorem fInt_bl {k : Bool} : fInt [.bl k] m = .ok (.int (b2i k), m) := rfl
@[simp] theorem fLen_vl {xs : List PV} : fLen [.vl xs] m = .ok (.int xs.length, m) := rfl
@[simp] theorem fLen_fz {xs : List PV} : fLen [.fz xs] m = .ok (.int xs.length, m) := rfl
@[simp] theorem fLen_tup {xs : List PV} : fLen [.tup xs] m = .ok (.int xs.length, m) := rfl
@[simp] theorem fMin_int {i j : Int} : fMin [.int i, .int j] m = .ok (.int (if j < i then j else i), m) := rfl
@[simp] theorem fMax_int {i j : Int} : fMax [.int i, .int j] m = .ok (.int (if j > i then j else i), m) := rfl
@[simp] theorem fList_tup {xs : List PV} : fList [.tup xs] m = .ok (.vl xs, m) := rfl
@[simp] theorem fList_vl {xs : List PV} : fList [.vl xs] m = .ok (.vl xs, m) := rfl
@[simp] theorem fTuple_tup {xs : List PV} : fTuple [.tup xs] m = .ok (.tup xs, m) := rfl
@[simp] theorem fTuple_vl {xs : List PV} : fTuple [.vl xs] m = .ok (.tup xs, m) := rfl
/-! eq -/
@[simp] theorem sh_non {n : Nat} : PV.sh n .non = true := by cases n <;> rfl
@[simp] theorem sh_bl {n : Nat} {k : Bool} : PV.sh n (.bl k) = true := by cases n <;> rfl
@[simp] theorem sh_int {n : Nat} {k : Int} : PV.sh n (.int k) = true := by cases n <;> rfl
@[simp] theorem sh_str {n : Nat} {k : List Nat} : PV.sh n (.str k) = true := by cases n <;> rfl
@[simp] theorem sh_tup {n : Nat} {k : List PV} : PV.sh (n + 1) (.tup k) = k.all (PV.sh n) := rfl
@[simp] theorem sh_vl {n : Nat} {k : List PV} : PV.sh (n + 1) (.vl k) = k.all (PV.sh n) := rfl
theorem oEq_of (h1 : (look1 m v).sh DEP = true) (h2 : (look1 m w).sh DEP = true) : oEq v w m = .ok (.bl (PV.eqv (look1 m v) (look1 m w)), m) := by simp [oEq, h1, h2]
theorem oNe_of (h1 : (look1 m v).sh DEP = true) (h2 : (look1 m w).sh DEP = true) : oNe v w m = .ok (.bl (!PV.eqv (look1 m v) (look1 m w)), m) := by simp [oNe, h1, h2]
end
end TT
namespace TT
section
variable {m : Mm} {a b : PV} {i j : Int} {p q : Bool} {x y : List Nat} {xs ys : List PV}
@[simp] theorem eqv_int : PV.eqv (.int i) (.int j) = (i == j) := rfl
@[simp] theorem eqv_bl : PV.eqv (.bl p) (.bl q) = (p == q) := rfl
@[simp] theorem eqv_str : PV.eqv (.str x) (.str y) = (x == y) := rfl
@[simp] theorem eqv_blint : PV.eqv (.bl p) (.int j) = (b2i p == j) := rfl
@[simp] theorem eqv_intbl : PV.eqv (.int i) (.bl q) = (i == b2i q) := rfl
@[simp] theorem eqv_tup : PV.eqv (.tup xs) (.tup ys) = PV.eqvs xs ys := rfl
@[simp] theorem eqv_vl : PV.eqv (.vl xs) (.vl ys) = PV.eqvs xs ys := rfl
@[simp] theorem eqvs_nil : PV.eqvs [] [] = true := rfl
@[simp] theorem eqvs_cons : PV.eqvs (a :: xs) (b :: ys) = (PV.eqv a b && PV.eqvs xs ys) := rfl
@[simp] theorem eqvs_nc : PV.eqvs [] (b :: ys) = false := rfl
@[simp] theorem eqvs_cn : PV.eqvs (a :: xs) [] = false := rfl
@[simp] theorem eqv_nn : PV.eqv .non .non = true := rfl
@[simp] theorem eqv_ni : PV.eqv .non (.int j) = false := rfl
@[simp] theorem eqv_in : PV.eqv (.int j) .non = false := rfl
@[simp] theorem eqv_ns : PV.eqv .non (.str x) = false := rfl
@[simp] theorem eqv_sn : PV.eqv (.str x) .non = false := rfl
@[simp] theorem eqv_nb : PV.eqv .non (.bl q) = false := rfl
@[simp] theorem eqv_bn : PV.eqv (.bl q) .non = false := rfl
@[simp] theorem eqv_nt : PV.eqv .non (.tup xs) = false := rfl
@[simp] theorem eqv_tn : PV.eqv (.tup xs) .non = false := rfl
@[simp] theorem eqv_nv : PV.eqv .non (.vl xs) = false := rfl
@[simp] theorem eqv_vn : PV.eqv (.vl xs) .non = false := rfl
@[simp] theorem eqv_is : PV.eqv (.int i) (.str x) = false := rfl
@[simp] theorem eqv_si : PV.eqv (.str x) (.int i) = false := rfl
@[simp] theorem eqv_it : PV.eqv (.int i) (.tup xs) = false := rfl
@[simp] theorem eqv_ti : PV.eqv (.tup xs) (.int i) = false := rfl
@[simp] theorem eqv_iv : PV.eqv (.int i) (.vl xs) = false := rfl
@[simp] theorem eqv_vi : PV.eqv (.vl xs) (.int i) = false := rfl
@[simp] theorem eqv_bs : PV.eqv (.bl p) (.str x) = false := rfl
@[simp] theorem eqv_sb : PV.eqv (.str x) (.bl p) = false := rfl
@[simp] theorem eqv_bt : PV.eqv (.bl p) (.tup xs) = false := rfl
@[simp] theorem eqv_tb : PV.eqv (.tup xs) (.bl p) = false := rfl
@[simp] theorem eqv_bv : PV.eqv (.bl p) (.vl xs) = false := rfl
@[simp] theorem eqv_vb : PV.eqv (.vl xs) (.bl p) = false := rfl
@[simp] theorem eqv_st : PV.eqv (.str x) (.tup xs) = false := rfl
@[simp] theorem eqv_ts : PV.eqv (.tup xs) (.str x) = false := rfl
@[simp] theorem eqv_sv : PV.eqv (.str x) (.vl xs) = false := rfl
@[simp] theorem eqv_vs : PV.eqv (.vl xs) (.str x) = false := rfl
@[simp] theorem eqv_tv : PV.eqv (.tup xs) (.vl ys) = false := rfl
@[simp] theorem eqv_vt : PV.eqv (.vl xs) (.tup ys) = false := rfl
theorem oEq_pl (h1 : a.sh DEP = true) (h2 : b.sh DEP = true) : oEq a b m = .ok (.bl (PV.eqv a b), m) := by
  have l1 : look1 m a = a := by cases a with
    | ref n => cases h1
    | _ => rfl
  have l2 : look1 m b = b := by cases b with
    | ref n => cases h2
    | _ => rfl
  have := oEq_of (m := m) (v := a) (w := b) (by rw [l1]; exact h1) (by rw [l2]; exact h2)
  rw [l1, l2] at this
  exact this
theorem oNe_pl (h1 : a.sh DEP = true) (h2 : b.sh DEP = true) : oNe a b m = .ok (.bl (!PV.eqv a b), m) := by
  have l1 : look1 m a = a := by cases a with
    | ref n => cases h1
    | _ => rfl
  have l2 : look1 m b = b := by cases b with
    | ref n => cases h2
    | _ => rfl
  have := oNe_of (m := m) (v := a) (w := b) (by rw [l1]; exact h1) (by rw [l2]; exact h2)
  rw [l1, l2] at this
  exact this
@[simp] theorem oEq_int : oEq (.int i) (.int j) m = .ok (.bl (i == j), m) := oEq_pl (by simp) (by simp)
@[simp] theorem oNe_int : oNe (.int i) (.int j) m = .ok (.bl (!(i == j)), m) := oNe_pl (by simp) (by simp)
@[simp] theorem oEq_bl : oEq (.bl p) (.bl q) m = .ok (.bl (p == q), m) := oEq_pl (by simp) (by simp)
@[simp] theorem oEq_str : oEq (.str x) (.str y) m = .ok (.bl (x == y), m) := oEq_pl (by simp) (by simp)
@[simp] theorem oNe_str : oNe (.str x) (.str y) m = .ok (.bl (!(x == y)), m) := oNe_pl (by simp) (by simp)
end
end TT
namespace TT
section
variable {m : Mm} {b n : Nat} {xs : List PV} {k : Int} {v : PV} {o o' : Ob}
theorem getset1 (h : m[b]? = some o) : (m.set b o')[b]? = some o' := List.getElem?_set_self (List.getElem?_eq_some_iff.mp h).1
theorem oIx_ref (h : m[b]? = some (.lst xs)) (hk : atI xs k = some v) : oIx (.ref b) (.int k) m = .ok (v, m) := by
  unfold oIx; rw [look_ref h]; simp only [hk]
theorem oIx_vl (hk : atI xs k = some v) : oIx (.vl xs) (.int k) m = .ok (v, m) := by
  unfold oIx; simp only [look_vl, hk]
theorem oIx_fz (hk : atI xs k = some v) : oIx (.fz xs) (.int k) m = .ok (v, m) := by
  unfold oIx; simp only [look_fz, hk]
theorem oIx_tup (hk : atI xs k = some v) : oIx (.tup xs) (.int k) m = .ok (v, m) := by
  unfold oIx; simp only [look_tup, hk]
theorem oSet_ref {j : Nat} (h : m[b]? = some (.lst xs)) (hk : ixN xs.length k = some j) : oSet (.ref b) (.int k) v m = .ok (m.set b (.lst (xs.set j v))) := by
  unfold oSet; simp only [h, hk]
theorem atI_nat {α : Type} {xs : List α} {j : Nat} {x : α} (h : xs[j]? = some x) : atI xs (j : Int) = some x := by
  have hl : j < xs.length := (List.getElem?_eq_some_iff.mp h).1
  unfold atI ixN
  rw [if_pos (by omega), if_pos (by omega)]
  simpa using h
theorem atI_lt {α : Type} {xs : List α} {k : Int} (h0 : 0 ≤ k) (h1 : k < xs.length) : ∃ x ∈ xs, atI xs k = some x := by
  have hlt : k.toNat < xs.length := by omega
  refine ⟨xs[k.toNat], List.getElem_mem _, ?_⟩
  have e := atI_nat (List.getElem?_eq_getElem hlt)
  have : ((k.toNat : Nat) : Int) = k := by omega
  rw [this] at e
  exact e
theorem mAppend_ref (h : m[b]? = some (.lst xs)) (hl : xs.length < LINE) : mAppend (.ref b) [v] m = .ok (.non, m.set b (.lst (xs ++ [v]))) := by
  unfold mAppend; simp only [h]; rw [if_pos hl]
theorem tyOk_ref (h : m[b]? = some (.lst xs)) : tyOk m .list (.ref b) = true := by simp [tyOk, h]
/-- a comprehension that only picks: [x for x in xs if p] -/
theorem lc_pick {i : Nat} {t : ST} {s : Sl} (p : PV → Bool) (hi : i < s.length) : ∀ (ys acc : List PV), (∀ x ∈ ys, t (s.set i (some x)) m = .ok (p x, m)) → acc.length + ys.length ≤ LINE → lcL (gName i) t (eVar i) s ys m acc = .ok (acc ++ ys.filter p, m)
  | [], acc, _, _ => by simp [lcL]
  | x :: ys, acc, h, hl => by
    have hx := h x List.mem_cons_self
    have hr := fun acc' hl' => lc_pick p hi ys acc' (fun y hy => h y (List.mem_cons_of_mem _ hy)) hl'
    simp only [List.length_cons] at hl
    simp only [lcL, gName, Rs.nx_ok, Rs.bind_ok, hx]
    cases hp : p x with
    | true =>
      have e : eVar i (s.set i (some x)) m = .ok (x, m) := by simp [eVar, List.getElem?_set_self hi]
      simp only [if_true, e, Rs.nx_ok, Rs.bind_ok]
      rw [if_pos (by omega), hr _ (by rw [List.length_append, List.length_singleton]; omega)]
      simp [hp]
    | false =>
      simp only [Bool.false_eq_true, if_false]
      rw [hr _ (by omega)]
      simp [hp]
/-- [f x for x in xs] where all stays as it is -/
theorem lc_map {g : SG} {e : SE} {s : Sl} (f : PV → PV) : ∀ (ys acc : List PV), (∀ x ∈ ys, ∃ s1, g x s m = .ok (s1, m) ∧ e s1 m = .ok (f x, m)) → acc.length + ys.length ≤ LINE → lcL g tYes e s ys m acc = .ok (acc ++ ys.map f, m)
  | [], acc, _, _ => by simp [lcL]
  | x :: ys, acc, h, hl => by
    obtain ⟨s1, h1, h2⟩ := h x List.mem_cons_self
    have hr := fun acc' hl' => lc_map f ys acc' (fun y hy => h y (List.mem_cons_of_mem _ hy)) hl'
    simp only [List.length_cons] at hl
    simp only [lcL, tYes, Rs.nx_ok, Rs.bind_ok, h1, h2, if_true]
    rw [if_pos (by omega), hr _ (by rw [List.length_append, List.length_singleton]; omega)]
    simp
end
end TT
namespace TT
section
variable {m : Mm} {k : Nat} {v : PV} {b : Bool} {i : Int} {l : List Nat} {xs : List PV}
@[simp] theorem pu_non : PV.pu .non = true := rfl
@[simp] theorem pu_bl : PV.pu (.bl b) = true := rfl
@[simp] theorem pu_int : PV.pu (.int i) = true := rfl
@[simp] theorem pu_str : PV.pu (.str l) = true := rfl
@[simp] theorem pu_tup : PV.pu (.tup xs) = pus xs := rfl
@[simp] theorem pu_vl : PV.pu (.vl xs) = pus xs := rfl
@[simp] theorem pus_nil : pus [] = true := rfl
@[simp] theorem pus_cons : pus (v :: xs) = (PV.pu v && pus xs) := rfl
theorem frz_pu (h : v.pu = true) : frz k m v = some v := by cases k <;> simp [frz, h]
@[simp] theorem frz_non : frz k m .non = some .non := frz_pu rfl
@[simp] theorem frz_bl : frz k m (.bl b) = some (.bl b) := frz_pu rfl
@[simp] theorem frz_int : frz k m (.int i) = some (.int i) := frz_pu rfl
@[simp] theorem frz_str : frz k m (.str l) = some (.str l) := frz_pu rfl
end
end TT
namespace TT
section
variable {m : Mm} {k : Int} {xs : List PV}
theorem oIx_vl_e : oIx (.vl xs) (.int k) m = (atI xs k).elim .no fun v => .ok (v, m) := by
  unfold oIx; simp only [look_vl]; cases atI xs k <;> rfl
theorem oIx_tup_e : oIx (.tup xs) (.int k) m = (atI xs k).elim .no fun v => .ok (v, m) := by
  unfold oIx; simp only [look_tup]; cases atI xs k <;> rfl
end
end TT
end

section
set_option Elab.async false
set_option linter.all false
set_option autoImplicit false
set_option maxRecDepth 100000
/-! TT: dicts whose keys are tuples (nested, of whole numbers, texts, truth values, None) -/
namespace TT
open PySem PySem.Spec PyProof.Rows L2
section
variable {K : KW} {g g' : Gh} {m m' : Mm} {H H' : Hp}
/-- a new one -/
theorem Emb.new_kd (e : Emb K g m H) {p : Addr} (hp : H p = none) :
    Ext g H (g.addP m.length p) (upd H p (KDo K.w p [])) ∧ Emb K (g.addP m.length p) (m ++ [.kd []]) (upd H p (KDo K.w p [])) ∧ Rp K (g.addP m.length p) (upd H p (KDo K.w p [])) (.ref m.length) (.ref p) := by
  have x : Ext g H (g.addP m.length p) (upd H p (KDo K.w p [])) :=
    ⟨fun n a h => by
      have : n ≠ m.length := fun z => by subst z; rw [e.fresh_id] at h; cases h
      show (if n = m.length then some p else g.φ n) = some a
      rw [if_neg this]; exact h, fun a u h => h, fun a u h _ _ => by rw [upd_ne (ne_of_none h hp)]; exact h, fun a u h hn _ n => by
      show (if n = m.length then some p else g.φ n) ≠ some a
      split
      · intro z; cases z; rw [hp] at h; cases h
      · exact hn n, fun _ _ _ _ _ h => h, rfl⟩
  refine ⟨x, ⟨fun n o h => ?_, fun n a h => ?_, fun n k a h1 h2 => ?_, fun a u h => ?_, e.nt, tabs_new e.tab hp⟩, .ref (by show (if m.length = m.length then some p else _) = _; rw [if_pos rfl])⟩
  · by_cases hn : n < m.length
    · rw [List.getElem?_append_left hn] at h
      have q := e.obj n o h
      cases o with
      | lst ys =>
        obtain ⟨a, ws, h1, h2, h3⟩ := q
        exact ⟨a, ws, x.phi _ _ h1, by rw [upd_ne (ne_of_none h2 hp)]; exact h2, h3.ext e x⟩
      | dict ys =>
        obtain ⟨a, ws, h1, h2, h3⟩ := q
        exact ⟨a, ws, x.phi _ _ h1, by rw [upd_ne (ne_of_none h2 hp)]; exact h2, h3.ext e x⟩
      | kd ys =>
        obtain ⟨a, ws, h1, h2, h3⟩ := q
        exact ⟨a, ws, x.phi _ _ h1, by rw [upd_ne (ne_of_none h2 hp)]; exact h2, h3.ext e x⟩
      | kl zs =>
        obtain ⟨a, ob, ws, h1, h2, h3⟩ := q
        exact ⟨a, ob, ws, x.phi _ _ h1, x.ro _ _ h2, h3.ext e x⟩
      | dead => trivial
      | tab P l => exact q
    · have hle : m.length ≤ n := Nat.le_of_not_lt hn
      rw [List.getElem?_append_right hle] at h
      have h0 : n - m.length = 0 := by
        cases hk : n - m.length with
        | zero => rfl
        | succ j => rw [hk] at h; simp at h
      rw [h0] at h
      have hnm : n = m.length := by omega
      simp at h
      subst h
      subst hnm
      exact ⟨p, [], by show (if m.length = m.length then some p else _) = _; rw [if_pos rfl], upd_same, .nil⟩
  · have h' : (if n = m.length then some p else g.φ n) = some a := h
    rw [List.length_append, List.length_singleton]
    split at h'
    · cases h'
      exact ⟨by omega, _, upd_same, trivial⟩
    · obtain ⟨h1, u, h2, h3⟩ := e.dom n a h'
      exact ⟨by omega, u, by rw [upd_ne (ne_of_none h2 hp)]; exact h2, h3⟩
  · have h1' : (if n = m.length then some p else g.φ n) = some a := h1
    have h2' : (if k = m.length then some p else g.φ k) = some a := h2
    split at h1' <;> split at h2'
    · omega
    · cases h1'; exact (e.free hp _ h2').elim
    · cases h2'; exact (e.free hp _ h1').elim
    · exact e.inj n k a h1' h2'
  · obtain ⟨h1, h2⟩ := e.ro a u h
    refine ⟨by rw [upd_ne (ne_of_none h1 hp)]; exact h1, fun n hn => ?_⟩
    have hn' : (if n = m.length then some p else g.φ n) = some a := hn
    split at hn'
    · cases hn'; rw [hp] at h1; cases h1
    · have q := h2 n hn'
      have : n < m.length := (e.dom n a hn').1
      rw [List.getElem?_append_left this]; exact q
/-- one is written -/
theorem Emb.wr_kd (e : Emb K g m H) {n : Nat} {a : Addr} {xs ys : List (PV × PV)} {ws : List (NestedKey × Addr × V)} (hm : m[n]? = some (.kd xs)) (ha : g.φ n = some a) (r : RND K g H ys ws) :
    Ext g H g (upd H a (KDo K.w a ws)) ∧ Emb K g (m.set n (.kd ys)) (upd H a (KDo K.w a ws)) := by
  have x : Ext g H g (upd H a (KDo K.w a ws)) := ⟨fun _ _ h => h, fun _ _ h => h, fun b u h hb _ => by
    rw [upd_ne (fun z => hb n (by rw [z]; exact ha))]; exact h, fun _ _ _ h _ => h, fun _ _ _ _ _ h => h, rfl⟩
  have hlt : n < m.length := (List.getElem?_eq_some_iff.mp hm).1
  obtain ⟨a0, vs0, p1, p2, _⟩ := e.obj n _ hm
  rw [ha] at p1; cases p1
  refine ⟨x, fun k o h => ?_, fun k b h => ?_, e.inj, fun b u h => ?_, e.nt, tabs_wr2 e.tab p2 kd_nt kd_code⟩
  · by_cases hk : n = k
    · subst hk
      rw [List.getElem?_set_self hlt] at h
      cases h
      exact ⟨a, ws, ha, upd_same, r.ext e x⟩
    · rw [List.getElem?_set_ne hk] at h
      have q := e.obj k o h
      cases o with
      | lst zs =>
        obtain ⟨b, us, h1, h2, h3⟩ := q
        refine ⟨b, us, h1, ?_, h3.ext e x⟩
        rw [upd_ne (fun z => hk (e.inj n k a ha (by rw [← z]; exact h1)))]
        exact h2
      | dict zs =>
        obtain ⟨b, us, h1, h2, h3⟩ := q
        refine ⟨b, us, h1, ?_, h3.ext e x⟩
        rw [upd_ne (fun z => hk (e.inj n k a ha (by rw [← z]; exact h1)))]
        exact h2
      | kd zs =>
        obtain ⟨b, us, h1, h2, h3⟩ := q
        refine ⟨b, us, h1, ?_, h3.ext e x⟩
        rw [upd_ne (fun z => hk (e.inj n k a ha (by rw [← z]; exact h1)))]
        exact h2
      | kl zs =>
        obtain ⟨b, ob, us, h1, h2, h3⟩ := q
        exact ⟨b, ob, us, h1, x.ro _ _ h2, h3.ext e x⟩
      | dead => trivial
      | tab P l => exact q
  · obtain ⟨h1, u, h2, h3⟩ := e.dom k b h
    rw [List.length_set]
    by_cases hb : b = a
    · subst hb; exact ⟨h1, _, upd_same, trivial⟩
    · exact ⟨h1, u, by rw [upd_ne hb]; exact h2, h3⟩
  · obtain ⟨h1, h2⟩ := e.ro b u h
    have hb : b ≠ a := fun z => by
      subst z
      have := h2 n ha
      rw [hm] at this; cases this
    refine ⟨by rw [upd_ne hb]; exact h1, fun k hk => ?_⟩
    have q := h2 k hk
    have hkn : n ≠ k := fun z => by subst z; rw [hm] at q; cases q
    rw [List.getElem?_set_ne hkn]; exact q
end
/-! ### keys -/
theorem str_inj {x y : List Nat} : ((⟨x.toArray⟩ : Str) = ⟨y.toArray⟩) ↔ x = y := by
  constructor
  · intro h
    have : x.toArray = y.toArray := by injection h
    simpa using this
  · rintro rfl; rfl
mutual
theorem eqv_nk : ∀ (a b : PV) (n k : Nat), a.ky n = true → b.ky k = true → (PV.eqv a b = true ↔ nkOf a = nkOf b)
  | .non, b, n, k, _, hb => by cases b <;> simp [PV.eqv, nkOf] <;> (cases k <;> cases hb)
  | .bl x, b, n, k, _, hb => by
    cases b with
    | bl y => cases x <;> cases y <;> simp [PV.eqv, nkOf]
    | int j => simp [PV.eqv, nkOf, b2i]
    | non => simp [PV.eqv, nkOf]
    | str l => simp [PV.eqv, nkOf]
    | tup l => simp [PV.eqv, nkOf]
    | _ => cases k <;> cases hb
  | .int i, b, n, k, _, hb => by
    cases b with
    | bl y => simp [PV.eqv, nkOf, b2i]
    | int j => simp [PV.eqv, nkOf]
    | non => simp [PV.eqv, nkOf]
    | str l => simp [PV.eqv, nkOf]
    | tup l => simp [PV.eqv, nkOf]
    | _ => cases k <;> cases hb
  | .str x, b, n, k, _, hb => by
    cases b with
    | str y => simp only [PV.eqv, nkOf, beq_iff_eq, NestedKey.text.injEq]; exact str_inj.symm
    | bl y => simp [PV.eqv, nkOf]
    | int j => simp [PV.eqv, nkOf]
    | non => simp [PV.eqv, nkOf]
    | tup l => simp [PV.eqv, nkOf]
    | _ => cases k <;> cases hb
  | .tup xs, b, n, k, ha, hb => by
    cases n with
    | zero => cases ha
    | succ n =>
    cases b with
    | tup ys =>
      cases k with
      | zero => cases hb
      | succ k =>
        simp only [PV.eqv, nkOf, NestedKey.tup.injEq]
        exact eqvs_nk xs ys n k (by simpa only [PV.ky] using ha) (by simpa only [PV.ky] using hb)
    | str y => simp [PV.eqv, nkOf]
    | bl y => simp [PV.eqv, nkOf]
    | int j => simp [PV.eqv, nkOf]
    | non => simp [PV.eqv, nkOf]
    | _ => cases k <;> cases hb
  | .vl _, _, n, _, ha, _ => by cases n <;> cases ha
  | .fz _, _, n, _, ha, _ => by cases n <;> cases ha
  | .vd _, _, n, _, ha, _ => by cases n <;> cases ha
  | .ref _, _, n, _, ha, _ => by cases n <;> cases ha
  | .fn _, _, n, _, ha, _ => by cases n <;> cases ha
theorem eqvs_nk : ∀ (xs ys : List PV) (n k : Nat), xs.all (PV.ky n) = true → ys.all (PV.ky k) = true → (PV.eqvs xs ys = true ↔ nkOfs xs = nkOfs ys)
  | [], [], _, _, _, _ => by simp [PV.eqvs, nkOfs]
  | [], _ :: _, _, _, _, _ => by simp [PV.eqvs, nkOfs]
  | _ :: _, [], _, _, _, _ => by simp [PV.eqvs, nkOfs]
  | x :: xs, y :: ys, n, k, ha, hb => by
    simp only [List.all_cons, Bool.and_eq_true] at ha hb
    simp only [PV.eqvs, nkOfs, Bool.and_eq_true, List.cons.injEq]
    exact and_congr (eqv_nk x y n k ha.1 hb.1) (eqvs_nk xs ys n k ha.2 hb.2)
end
theorem eqv_dec {a b : PV} {n k : Nat} (ha : a.ky n = true) (hb : b.ky k = true) : PV.eqv a b = decide (nkOf a = nkOf b) := by
  rw [Bool.eq_iff_iff, decide_eq_true_eq]; exact eqv_nk a b n k ha hb
section
variable {X : Cx} {pins : List (Addr × Obj)} {σ : L2.St} {H : Hp} {s : Shared} {g : Gh} {m : Mm}
mutual
theorem nk_is (I : Inv X pins σ H s) : ∀ {v : PV} {w : V} {u : Value} (n : Nat), v.ky n = true → Rp X.kw g H v w → RelV w u → NestedIs s.heap (nkOf v) u
  | _, _, u, _, _, .non, r => by cases r; exact .none
  | _, _, u, _, _, .bl b, r => by cases r; exact .bool rfl
  | _, _, u, _, _, .int i, r => by obtain ⟨t, rfl⟩ := (show ∃ t, u = Value.int i t from r); exact .int i t
  | _, _, u, _, _, .str l, r => by obtain ⟨t, rfl⟩ := (show ∃ t, u = Value.str ⟨l.toArray⟩ t from r); exact .text _ t
  | _, _, _, 0, h, .tup _ _, _ => by cases h
  | _, _, u, n + 1, h, .tup (a := a) hs hr, r => by
    obtain rfl : u = Value.ref a := r
    obtain ⟨its, rv, ⟨o, e1, e2, k, e3⟩, _⟩ := I.tuple hs
    exact .tup e1 e2 e3 (by simpa using nks_is I n (by simpa only [PV.ky] using h) hr rv)
  | _, _, _, 0, h, .vl _ _, _ => by cases h
  | _, _, _, _ + 1, h, .vl _ _, _ => by cases h
  | _, _, _, 0, h, .fz _ _, _ => by cases h
  | _, _, _, _ + 1, h, .fz _ _, _ => by cases h
  | _, _, _, 0, h, .ref _, _ => by cases h
  | _, _, _, _ + 1, h, .ref _, _ => by cases h
  | _, _, _, 0, h, .fn _, _ => by cases h
  | _, _, _, _ + 1, h, .fn _, _ => by cases h
theorem nks_is (I : Inv X pins σ H s) : ∀ {v : List PV} {w : List V} {u : List Value} (n : Nat), v.all (PV.ky n) = true → Rps X.kw g H v w → Vals w u → NestedAll s.heap (nkOfs v) u
  | _, _, _, _, _, .nil, .nil => .nil
  | _, _, _, n, h, .cons a b, .cons r t => by
    simp only [List.all_cons, Bool.and_eq_true] at h
    exact .cons (nk_is I n h.1 a r) (nks_is I n h.2 b t)
end
end
mutual
theorem nk_depth : ∀ (v : PV) (n : Nat), v.ky n = true → (nkOf v).depth ≤ n
  | .non, _, _ => Nat.zero_le _
  | .bl _, _, _ => Nat.zero_le _
  | .int _, _, _ => Nat.zero_le _
  | .str _, _, _ => Nat.zero_le _
  | .tup xs, n, h => by
    cases n with
    | zero => cases h
    | succ n =>
      simp only [nkOf, NestedKey.depth]
      have := nks_depth xs n (by simpa only [PV.ky] using h)
      omega
  | .vl _, n, h => by cases n <;> cases h
  | .fz _, n, h => by cases n <;> cases h
  | .vd _, n, h => by cases n <;> cases h
  | .ref _, n, h => by cases n <;> cases h
  | .fn _, n, h => by cases n <;> cases h
theorem nks_depth : ∀ (v : List PV) (n : Nat), v.all (PV.ky n) = true → NestedKey.depthAll (nkOfs v) ≤ n
  | [], _, _ => Nat.zero_le _
  | x :: xs, n, h => by
    simp only [List.all_cons, Bool.and_eq_true] at h
    simp only [nkOfs, NestedKey.depthAll]
    have h1 := nk_depth x n h.1
    have h2 := nks_depth xs n h.2
    omega
end
theorem isTup_inv {k : PV} (h : isTup k = true) : ∃ xs, k = .tup xs := by
  cases k with
  | tup xs => exact ⟨xs, rfl⟩
  | _ => cases h
/-- what is found -/
theorem find_rel {K : KW} {g : Gh} {H : Hp} {k : PV} (hk : k.ky 8 = true) : ∀ {kvs : List (PV × PV)} {xs : List (NestedKey × Addr × V)} {ys : List (NestedKey × Addr × Value)}, RND K g H kvs xs → KA xs ys →
    kHas kvs k = (atKey ys (nkOf k)).isSome ∧ ∀ v, kFind kvs k = some v → ∃ q w u, atKey ys (nkOf k) = some (q, u) ∧ Rp K g H v w ∧ RelV w u
  | _, _, _, .nil, .nil => ⟨rfl, fun v h => nomatch h⟩
  | _, _, _, .cons (k := k') (x := x) y a b r, .cons (b := q) c t => by
    obtain ⟨ih1, ih2⟩ := find_rel hk r t
    obtain ⟨n', q', u'⟩ := q
    obtain ⟨c1, c2, c3⟩ := c
    simp only at c1 c2 c3
    subst c1 c2
    have e := eqv_dec y hk
    unfold kHas atKey kFind at *
    simp only [List.any_cons, List.find?_cons]
    by_cases hh : nkOf k' = nkOf k
    · rw [e, decide_eq_true hh]
      refine ⟨rfl, fun v hv => ?_⟩
      simp only [Option.map_some, Option.some.injEq] at hv
      subst hv
      exact ⟨_, _, _, rfl, b, c3⟩
    · rw [e, decide_eq_false hh]
      simp only [Bool.false_or]
      exact ⟨ih1, ih2⟩
/-- what is stored -/
theorem put_rel {K : KW} {g : Gh} {H : Hp} {k v : PV} {q : Addr} {w : V} {u : Value} (hk : k.ky 8 = true) (rk : Rp K g H k (.ref q)) (rv : Rp K g H v w) (ru : RelV w u) : ∀ {kvs : List (PV × PV)} {xs : List (NestedKey × Addr × V)} {ys : List (NestedKey × Addr × Value)}, RND K g H kvs xs → KA xs ys →
    ∃ xs', RND K g H (kvs.map fun p => if PV.eqv p.1 k = true then (p.1, v) else p) xs' ∧ KA xs' (ys.map (putAt (nkOf k) u))
  | _, _, _, .nil, .nil => ⟨[], .nil, .nil⟩
  | _, _, _, .cons (k := k') (x := x) (q := q0) (v := v0) y a b r, .cons (b := q1) c t => by
    obtain ⟨xs', i1, i2⟩ := put_rel hk rk rv ru r t
    obtain ⟨n', q', u'⟩ := q1
    obtain ⟨c1, c2, c3⟩ := c
    simp only at c1 c2 c3
    subst c1 c2
    have e := eqv_dec y hk
    simp only [List.map_cons, e, decide_eq_true_eq, putAt]
    by_cases hh : nkOf k' = nkOf k
    · rw [if_pos hh, if_pos hh]
      exact ⟨_, .cons y a rv i1, .cons ⟨rfl, rfl, ru⟩ i2⟩
    · rw [if_neg hh, if_neg hh]
      exact ⟨_, .cons y a b i1, .cons ⟨rfl, rfl, c3⟩ i2⟩
theorem add_rel {K : KW} {g : Gh} {H : Hp} {k v : PV} {q : Addr} {w : V} {u : Value} (hk : k.ky 8 = true) (rk : Rp K g H k (.ref q)) (rv : Rp K g H v w) (ru : RelV w u) : ∀ {kvs : List (PV × PV)} {xs : List (NestedKey × Addr × V)} {ys : List (NestedKey × Addr × Value)}, RND K g H kvs xs → KA xs ys →
    RND K g H (kvs ++ [(k, v)]) (xs ++ [(nkOf k, q, w)]) ∧ KA (xs ++ [(nkOf k, q, w)]) (ys ++ [(nkOf k, q, u)])
  | _, _, _, .nil, .nil => ⟨.cons hk rk rv .nil, .cons ⟨rfl, rfl, ru⟩ .nil⟩
  | _, _, _, .cons y a b r, .cons c t => ⟨.cons y a b (add_rel hk rk rv ru r t).1, .cons c (add_rel hk rk rv ru r t).2⟩
theorem stored_rel {K : KW} {g : Gh} {H : Hp} {k v : PV} {q : Addr} {w : V} {u : Value} (hk : k.ky 8 = true) (rk : Rp K g H k (.ref q)) (rv : Rp K g H v w) (ru : RelV w u) {kvs : List (PV × PV)} {xs : List (NestedKey × Addr × V)} {ys : List (NestedKey × Addr × Value)} (r : RND K g H kvs xs) (t : KA xs ys) :
    ∃ xs', RND K g H (kPut kvs k v) xs' ∧ KA xs' (storedH ys (nkOf k) q u) := by
  have f := (find_rel hk r t).1
  unfold kPut storedH
  by_cases h : kHas kvs k = true
  · rw [if_pos h, if_pos (by rw [← f]; exact h)]
    exact put_rel hk rk rv ru r t
  · rw [if_neg h, if_neg (by rw [← f]; exact h)]
    exact ⟨_, add_rel hk rk rv ru r t⟩
theorem RND.length {K : KW} {g : Gh} {H : Hp} : ∀ {kvs : List (PV × PV)} {xs : List (NestedKey × Addr × V)}, RND K g H kvs xs → kvs.length = xs.length
  | _, _, .nil => rfl
  | _, _, .cons _ _ _ r => by simp [RND.length r]
theorem kPut_len (kvs : List (PV × PV)) (k v : PV) : (kPut kvs k v).length ≤ kvs.length + 1 := by
  unfold kPut
  split
  · rw [List.length_map]; omega
  · simp
section
variable {X : Cx} {pins : List (Addr × Obj)} {σ : L2.St} {H : Hp} {s : Shared} {g : Gh} {m : Mm}
theorem keys_at {K : KW} : ∀ {kvs : List (PV × PV)} {xs : List (NestedKey × Addr × V)} {ys : List (NestedKey × Addr × Value)}, RND K g H kvs xs → KA xs ys → ∀ y ∈ ys, ∃ k : PV, y.1 = nkOf k ∧ k.ky 8 = true ∧ Rp K g H k (.ref y.2.1)
  | _, _, _, .nil, .nil, _, h => nomatch h
  | _, _, _, .cons y a b r, .cons c t, z, h => by
    rcases List.mem_cons.mp h with e | h
    · subst e
      obtain ⟨c1, c2, _⟩ := c
      exact ⟨_, c1.symm, y, by rw [← c2]; exact a⟩
    · exact keys_at r t z h
theorem kd_at {a : Addr} {kvs : List (PV × PV)} {xs : List (NestedKey × Addr × V)} (I : Inv X pins σ H s) (h : H a = some (KDo X.w a xs)) (r : RND X.kw g H kvs xs) :
    (a == sysModules) = false ∧ xs.length ≤ sizeLine ∧ ∃ ys, KA xs ys ∧ s.heap.DictOfH (nestedKind X.prog X.w) a ys := by
  obtain ⟨⟨h1, h2, ys, ka, o, es, ep, e1, e2, e3, e4, nd⟩, _⟩ := I.hok a _ h
  refine ⟨h1, h2, ys, ka, o, es, ep, e1, e2, e3, e4, fun y hy => ?_, nd⟩
  obtain ⟨k, k1, k2, k3⟩ := keys_at r ka y hy
  rw [k1]
  exact ⟨nk_is I 8 k2 k3 rfl, nk_depth k 8 k2⟩
theorem kd_new {P : Program} {w : World} {H' : Hp} {h' : Heap} {a : Addr} {xs : List (NestedKey × Addr × V)} {ys : List (NestedKey × Addr × Value)} (z : xs.length ≤ sizeLine) (hd : (a == sysModules) = false) (ka : KA xs ys) (dd : h'.DictOfH (nestedKind P w) a ys) : ObjOk P w H' h' a (KDo w a xs) := by
  obtain ⟨o, es, ep, e1, e2, e3, e4, _, nd⟩ := dd
  exact ⟨⟨hd, z, ys, ka, o, es, ep, e1, e2, e3, e4, nd⟩, ⟨o, e1⟩, fun h1 h2 ⟨q1, q2, y2, q3, o2, s2, p2, q4, q5⟩ st => ⟨q1, q2, y2, q3, o2, s2, p2, st _ q4, q5⟩⟩
end
section
variable {X : Cx} {Ξ : XC} {pos : Pos} {o e : Expr} {fa fb : SE}
theorem kd_room {A : Around} (hu : A.units + 64 < cLine) : A.in1.units + 8 < cLine := by show A.units + 1 + 8 < cLine; omega
/-- {} -/
theorem se_knew : PE X (.Dict [] [] pos) (rdE X.kw Ξ eKNew) := ⟨fun pins s σ H Q I ⟨g, sl, m, em, sr, q⟩ => by
  have hp : H s.heap.objs.size = none := I.hok.fresh (Nat.le_refl _)
  have dd : (s.heap.push { cls := .type "dict", data := .dict #[] }).DictOfH (nestedKind X.prog X.w) s.heap.objs.size [] := Heap.DictOfH.new s.heap
  have ok : ObjOk X.prog X.w (upd H s.heap.objs.size (KDo X.w s.heap.objs.size [])) (s.heap.push { cls := .type "dict", data := .dict #[] }) s.heap.objs.size (KDo X.w s.heap.objs.size []) := kd_new (Nat.zero_le _) (beq_eq_false_iff_ne.mpr (Ne.symm (Nat.ne_of_lt I.big))) .nil dd
  obtain ⟨x1, e1, r1⟩ := em.new_kd hp
  have keep : ∀ b u, s.heap.get? b = some u → (s.heap.push { cls := .type "dict", data := .dict #[] }).get? b = some u := fun b u z => Heap.get?_push_of_some _ z
  exact wpAny_Dict_empty ⟨.ref s.heap.objs.size, _, I.laid (t' := s.toks) keep (Nat.le_refl _) ok, rfl, q _ _ _ x1 e1 r1⟩⟩
theorem op_tKIn (hu : X.A.units + 64 < cLine) : OpR X (compareOp .In) (rd2 X.kw Ξ (oKIn false)) := by
  intro pins s σ H x y v u Q I rx ry ⟨g, m, a, b, em, ra, rb, q⟩
  unfold oKIn at q
  split at q
  · rename_i n
    split at q
    · rename_i kvs hm
      split at q
      · rename_i hc
        simp only [Bool.and_eq_true] at hc
        obtain ⟨zs, rfl⟩ := isTup_inv hc.1
        obtain ⟨d, rfl, hd⟩ := rb.ref_inv
        obtain ⟨d', xs, h1, h2, h3⟩ := em.obj _ _ hm
        rw [hd] at h1; cases h1
        obtain ⟨ka, _, rfl, _⟩ := ra.tup_inv
        cases rx; cases ry
        obtain ⟨s1, s2, ys, t1, dd⟩ := kd_at I h2 h3
        have fr := (find_rel hc.2 h3 t1).1
        refine wpAny_in_heap (knd := nestedKind X.prog X.w) (kd_room hu) ⟨nk_is I 8 hc.2 ra rfl, nk_depth _ 8 hc.2⟩ s1 dd ?_
        rw [← fr]
        exact ⟨.bl _, H, I.tok _, rfl, QE.ret em (.bl _) q⟩
      · exact q.elim
    · exact q.elim
  · exact q.elim
theorem op_tKNotIn (hu : X.A.units + 64 < cLine) : OpR X (compareOp .NotIn) (rd2 X.kw Ξ (oKIn true)) := by
  intro pins s σ H x y v u Q I rx ry ⟨g, m, a, b, em, ra, rb, q⟩
  unfold oKIn at q
  split at q
  · rename_i n
    split at q
    · rename_i kvs hm
      split at q
      · rename_i hc
        simp only [Bool.and_eq_true] at hc
        obtain ⟨zs, rfl⟩ := isTup_inv hc.1
        obtain ⟨d, rfl, hd⟩ := rb.ref_inv
        obtain ⟨d', xs, h1, h2, h3⟩ := em.obj _ _ hm
        rw [hd] at h1; cases h1
        obtain ⟨ka, _, rfl, _⟩ := ra.tup_inv
        cases rx; cases ry
        obtain ⟨s1, s2, ys, t1, dd⟩ := kd_at I h2 h3
        have fr := (find_rel hc.2 h3 t1).1
        refine notIn_keyed (knd := nestedKind X.prog X.w) (kd_room hu) ⟨nk_is I 8 hc.2 ra rfl, nk_depth _ 8 hc.2⟩ s1 ⟨ys, dd, rfl⟩ ?_
        rw [valueAt_pairsH, Option.isSome_map, ← fr]
        exact ⟨.bl _, H, I.tok _, rfl, QE.ret em (.bl _) q⟩
      · exact q.elim
    · exact q.elim
  · exact q.elim
theorem set_k (hu : X.A.units + 64 < cLine) : PSet X (fun o i v H Q => ∃ g m a b c, Emb X.kw g m H ∧ Rp X.kw g H a o ∧ Rp X.kw g H b i ∧ Rp X.kw g H c v ∧ QR X.kw Ξ g H (fun m' => ∀ g' H', Ext g H g' H' → Emb X.kw g' m' H' → Q H') (oKSet a b c m)) := by
  intro pins s σ H o i v ov iv u Q I ro ri rv ⟨g, m, a, b, c, em, ra, rb, rc, q⟩
  unfold oKSet at q
  split at q
  · rename_i n
    split at q
    · rename_i kvs hm
      split at q
      · rename_i hc
        simp only [Bool.and_eq_true, decide_eq_true_eq] at hc
        obtain ⟨⟨hc1, hc2⟩, hc3⟩ := hc
        obtain ⟨zs, rfl⟩ := isTup_inv hc1
        obtain ⟨d, rfl, hd⟩ := ra.ref_inv
        obtain ⟨d', xs, h1, h2, h3⟩ := em.obj _ _ hm
        rw [hd] at h1; cases h1
        obtain ⟨ka, _, rfl, _⟩ := rb.tup_inv
        cases ro; cases ri
        obtain ⟨s1, s2, ys, t1, dd⟩ := kd_at I h2 h3
        obtain ⟨xs', r', t'⟩ := stored_rel hc2 rb rc rv h3 t1
        have hz : ys.length ≤ sizeLine := by rw [← Paired.length t1]; exact s2
        have hl : xs'.length ≤ sizeLine := by
          have e1 := kPut_len kvs (.tup zs) c
          rw [r'.length] at e1
          exact Nat.le_trans e1 (line_lt hc3)
        refine wpAny_setItem_heap (knd := nestedKind X.prog X.w) (hsz := hz) (kd_room hu) ⟨nk_is I 8 hc2 rb rfl, nk_depth _ 8 hc2⟩ dd fun h' dd' hs => ?_
        obtain ⟨x', e'⟩ := em.wr_kd hm hd r'
        have old : ∃ z, h'.get? d = some z := let ⟨z, _, _, hz, _⟩ := dd'; ⟨z, hz⟩
        have J := I.write (x := d) (e := d) (o := KDo X.w d xs') (t' := s.toks + (nestedKind X.prog X.w).draws (nkOf (.tup zs))) (by rw [h2]; trivial) (.inl rfl) (fun b u hb z => (hs.2 b hb).trans z) old (kd_new hl s1 t' dd')
        exact ⟨_, J, q _ _ x' e'⟩
      · exact q.elim
    · exact q.elim
  · exact q.elim
/-- d[k] = .. -/
theorem sg_ksub (hu : X.A.units + 64 < cLine) (ho : PE X o (rdE X.kw Ξ fa)) (hi : PE X e (rdE X.kw Ξ fb)) (ha : ∀ v, assign (.Subscript o e pos) X.env v = (do
      let ov ← holding [v] (eval o X.env)
      let iv ← holding [v, ov] (eval e X.env)
      standAt pos
      holding [v, ov, iv] (setItem ov iv v)
      release [v, ov, iv] []) := by intro _; rfl) : PG X (.Subscript o e pos) (rdG X.kw Ξ (gKSub fa fb)) :=
  PG_imp (pg_sub ho hi (set_k (Ξ := Ξ) hu) ha) fun v σ H Q ⟨g, s, m, pv, em, sr, rv, q⟩ => by
    refine ⟨g, s, m, em, sr, QR.bind q fun p hp q1 g1 H1 V x1 e1 r1 => ?_⟩
    refine ⟨g1, s, p.2, e1, sr.ext em x1, QR.bind (QG.later x1 q1) fun p2 hp2 q2 g2 H2 W x2 e2 r2 => ?_⟩
    refine ⟨g2, p2.2, p.1, p2.1, pv, e2, r1.ext e1 x2, r2, (rv.ext em x1).ext e1 x2, QR.bind (QG.later x2 q2) fun m3 hm3 q3 g3 H3 x3 e3 => ?_⟩
    exact q3 g3 H3 σ x3 e3 ((((sr.ext em x1).ext e1 x2)).ext e2 x3)
end
section
variable {X : Cx} {Ξ : XC} {a : Expr} {pos : Pos} {fa : SE}
/-- is not True, is not False of a truth value -/
theorem se_isNB {k : Bool} {j pos'} (ha : PE X a (rdE X.kw Ξ fa)) : PE X (.Compare a [.IsNot] [.Constant (.bool k) j pos'] pos) (rdE X.kw Ξ (e1 (oIs true (.bl k)) fa)) :=
  PE_imp (pe_cmpR op_notBl ha pe_bl (nomark _)) fun σ H Q q => by
    obtain ⟨g, s, m, em, sr, q⟩ := q
    refine ⟨g, s, m, em, sr, QR.bind q fun p hp q1 g1 H1 V x1 e1 r1 => ?_⟩
    have e := QE.later x1 q1
    obtain ⟨v, m1⟩ := p
    cases v with
    | bl c =>
      cases r1.bl_inv
      refine ⟨c, k, rfl, rfl, ?_⟩
      have : (if c == k then (!true : Bool) else true) = !decide (c = k) := by cases c <;> cases k <;> rfl
      simp only [oIs, this] at e
      exact QE.ret e1 (.bl _) e
    | _ => exact e.elim
theorem st_isNB {k : Bool} {j pos'} (ha : PE X a (rdE X.kw Ξ fa)) : PT X (.Compare a [.IsNot] [.Constant (.bool k) j pos'] pos) (rdT X.kw Ξ (tV (e1 (oIs true (.bl k)) fa))) :=
  PT_imp (pt_cmpR op_notBl ha pe_bl (nomark _)) fun σ H Q q => st_of (e := a) (fun _ q => by
    obtain ⟨g, s, m, em, sr, q⟩ := q
    refine ⟨g, s, m, em, sr, QR.bind q fun p hp q1 g1 H1 V x1 e1 r1 => ?_⟩
    have e := QE.later x1 q1
    obtain ⟨v, m1⟩ := p
    cases v with
    | bl c =>
      cases r1.bl_inv
      refine ⟨c, k, rfl, rfl, ?_⟩
      have : (if c == k then (!true : Bool) else true) = !decide (c = k) := by cases c <;> cases k <;> rfl
      simp only [oIs, this] at e
      exact QE.ret e1 (.bl _) e
    | _ => exact e.elim) q
end
end TT
end

section
set_option Elab.async false
set_option linter.all false
set_option autoImplicit false
set_option maxRecDepth 100000
namespace TT
open PySem PySem.Spec PyProof.Rows L2
section
variable {X : Cx} {Ξ : XC} {pos : Pos} {k v : Expr} {fk fv : SE}
/-- {k: v} -/
theorem se_kdisp1 (hu : X.A.units + 64 < cLine) (hk : PE X k (rdE X.kw Ξ fk)) (hv : PE X v (rdE X.kw Ξ fv)) : PE X (.Dict [some k] [v] pos) (rdE X.kw Ξ (eKDisp1 fk fv)) := ⟨fun pins s σ H Q I ⟨g, sl, m, em, sr, q⟩ => by
  have hp : H s.heap.objs.size = none := I.hok.fresh (Nat.le_refl _)
  have dd : (s.heap.push { cls := .type "dict", data := .dict #[] }).DictOfH (nestedKind X.prog X.w) s.heap.objs.size [] := Heap.DictOfH.new s.heap
  have ok : ObjOk X.prog X.w (upd H s.heap.objs.size (KDo X.w s.heap.objs.size [])) (s.heap.push { cls := .type "dict", data := .dict #[] }) s.heap.objs.size (KDo X.w s.heap.objs.size []) := kd_new (Nat.zero_le _) (beq_eq_false_iff_ne.mpr (Ne.symm (Nat.ne_of_lt I.big))) .nil dd
  obtain ⟨x1, e1, r1⟩ := em.new_kd hp
  have keep : ∀ b u, s.heap.get? b = some u → (s.heap.push { cls := .type "dict", data := .dict #[] }).get? b = some u := fun b u z => Heap.get?_push_of_some _ z
  have I1 := I.laid (t' := s.toks) keep (Nat.le_refl _) ok
  have q' := QE.later x1 q
  have hr : (nestedKind X.prog X.w).room X.A := by show X.A.units + 8 < cLine; omega
  have P := pps_cons (pos := pos) hk hv (pps_nil (X := X) (pos := pos))
  have hn := pairTrees_length [some k] [v] X.env pos rfl rfl
  have h0 : pairTrees [some k] [v] X.env pos ≠ [] := fun z => by rw [z] at hn; cases hn
  rw [arm_eval_Dict, zip_pairTrees [some k] [v] X.env pos rfl rfl, dictDisplay_pairs _ h0 (by rw [hn]; exact (by decide : 1 < 17))]
  refine wpAny_bind (wpAny_standAt (wpAny_bind (wpAny_subDictH (knd := nestedKind X.prog X.w) (Q := fun d s' => wpAny (model X.prog X.w) X.A (pure (Value.ref d)) _ X.xe s') hr (by rw [hn]; exact (by decide : 1 ≤ 15)) (thn (P.run pins _ σ _ (fun ps H' => ∃ g' m' a b x y, Emb X.kw g' m' H' ∧ ps = [(x, y)] ∧ Rp X.kw g' H' a x ∧ Rp X.kw g' H' b y ∧ g'.φ m.length = some s.heap.objs.size ∧
      QE X.kw Ξ g' H' Q (match m'[m.length]? with
        | some (.kd []) => if isTup a && a.ky 8 then Rs.ok (PV.ref m.length, m'.set m.length (.kd [(a, b)])) else .no
        | _ => .no)) I1 ⟨_, sl, _, e1, sr.ext em x1, QR.bind q' fun p hp q1 g1 H1 V x2 e2 r2 => ?_⟩) fun ws s2 ⟨ps, H2, I2, rel, g', m', a, b, x, y, em', ep, ra, rb, hphi, q3⟩ => ?_))))
  · have s1 := (sr.ext em x1).ext e1 x2
    obtain ⟨pk, m1⟩ := p
    refine ⟨g1, sl, m1, e2, s1, QR.bind (QE.later x2 q1) fun p2 hp2 q2 g2 H2 W x3 e3 r3 => ?_⟩
    obtain ⟨pv, m2⟩ := p2
    refine ⟨g2, m2, pk, pv, V, W, e3, rfl, r2.ext e2 x3, r3, x3.phi _ _ (x2.phi _ _ ?_), QE.later x3 q2⟩
    show (if m.length = m.length then some s.heap.objs.size else _) = _
    rw [if_pos rfl]
  · subst ep
    cases rel with
    | @cons _ q0 _ qs rel1 rel2 =>
    cases rel2
    obtain ⟨u1, u2⟩ := q0
    obtain ⟨rel1, relv⟩ := rel1
    split at q3
    · rename_i hm
      split at q3
      · rename_i hc
        simp only [Bool.and_eq_true] at hc
        obtain ⟨zs, rfl⟩ := isTup_inv hc.1
        obtain ⟨d', xs, h1, h2, h3⟩ := em'.obj _ _ hm
        rw [hphi] at h1; cases h1
        cases h3
        obtain ⟨ka, _, rfl, _⟩ := ra.tup_inv
        cases rel1
        obtain ⟨s1, s2', ys, t1, dd2⟩ := kd_at (g := g') I2 h2 .nil
        cases t1
        refine ⟨[(nkOf (.tup zs), ka, u2)], ⟨rfl, rfl, ⟨nk_is I2 8 hc.2 ra rfl, nk_depth _ 8 hc.2⟩, trivial⟩, dd2, fun h' tk dd' hs => wpAny_pure ?_⟩
        have old : ∃ z, h'.get? s.heap.objs.size = some z := let ⟨z, _, _, hz, _⟩ := dd'; ⟨z, hz⟩
        obtain ⟨x', e'⟩ := em'.wr_kd hm hphi (.cons hc.2 ra rb .nil)
        have J := I2.write (x := s.heap.objs.size) (e := s.heap.objs.size) (o := KDo X.w s.heap.objs.size [(nkOf (.tup zs), ka, y)]) (t' := tk) (by rw [h2]; trivial) (.inl rfl) (fun b u hb z => (hs.2 b hb).trans z) old (kd_new (Nat.le_trans (show 1 ≤ 1 from Nat.le_refl 1) (by rw [sizeLine_eq]; decide)) s1 (.cons ⟨rfl, rfl, relv⟩ .nil) dd')
        exact ⟨.ref s.heap.objs.size, _, J, rfl, q3 _ _ _ x' e' (.ref (x'.phi _ _ hphi))⟩
      · exact q3.elim
    · exact q3.elim⟩
end
end TT
end

section
set_option Elab.async false
set_option linter.all false
set_option autoImplicit false
set_option maxRecDepth 100000
/-! TT: dicts with tuple keys: read, locked, walked -/
namespace TT
open PySem PySem.Spec PyProof.Rows L2
section
variable {K : KW} {g g' : Gh} {m m' : Mm} {H H' : Hp}
/-- a dict is locked: its object is told from now on -/
theorem Emb.lock_kd (e : Emb K g m H) {n : Nat} {a : Addr} {kvs : List (PV × PV)} {vs : List (NestedKey × Addr × V)} (o : Obj) (hm : m[n]? = some (.kd kvs)) (ha : g.φ n = some a) (r : RND K g H kvs vs) :
    ∃ g', Ext g H g' (upd H a (KDl K.w a o vs)) ∧ Emb K g' (m.set n (.kl kvs)) (upd H a (KDl K.w a o vs)) ∧ g'.φ = g.φ := by
  have hlt : n < m.length := (List.getElem?_eq_some_iff.mp hm).1
  obtain ⟨a0, vs0, p1, p2, _⟩ := e.obj n _ hm
  rw [ha] at p1; cases p1
  have hro : g.ro a = none := by
    cases q : g.ro a with
    | none => rfl
    | some u =>
      have := (e.ro a u q).2 n ha
      rw [hm] at this; exact this.elim
  have x : Ext g H (g.addR a (KDl K.w a o vs)) (upd H a (KDl K.w a o vs)) := by
    refine ⟨fun _ _ h => h, fun b u h => ?_, fun b u h hb _ => ?_, fun _ _ _ h _ => h, fun b u h hb _ hr => ?_, rfl⟩
    · have nb : b ≠ a := fun z => by subst z; rw [hro] at h; cases h
      show upd g.ro a _ b = some u
      rw [upd_ne nb]; exact h
    · rw [upd_ne (fun z => hb n (by rw [z]; exact ha))]; exact h
    · show upd g.ro a _ b = none
      rw [upd_ne (fun z => hb n (by rw [z]; exact ha))]; exact hr
  refine ⟨g.addR a (KDl K.w a o vs), x, ⟨fun k ob h => ?_, fun k b h => ?_, e.inj, fun b u h => ?_, fun b u h => ?_, tabs_wr2 e.tab p2 kd_nt kd_code⟩, rfl⟩
  · by_cases hk : n = k
    · subst hk
      rw [List.getElem?_set_self hlt] at h
      cases h
      exact ⟨a, o, vs, ha, upd_same, r.ext e x⟩
    · rw [List.getElem?_set_ne hk] at h
      have q := e.obj k ob h
      have ne : ∀ b, g.φ k = some b → b ≠ a := fun b hb z => hk (e.inj n k a ha (by rw [← z]; exact hb))
      cases ob with
      | lst zs =>
        obtain ⟨b, us, h1, h2, h3⟩ := q
        exact ⟨b, us, h1, by rw [upd_ne (ne b h1)]; exact h2, h3.ext e x⟩
      | dict zs =>
        obtain ⟨b, us, h1, h2, h3⟩ := q
        exact ⟨b, us, h1, by rw [upd_ne (ne b h1)]; exact h2, h3.ext e x⟩
      | kd zs =>
        obtain ⟨b, us, h1, h2, h3⟩ := q
        exact ⟨b, us, h1, by rw [upd_ne (ne b h1)]; exact h2, h3.ext e x⟩
      | kl zs =>
        obtain ⟨b, ob, us, h1, h2, h3⟩ := q
        exact ⟨b, ob, us, h1, x.ro _ _ h2, h3.ext e x⟩
      | dead => trivial
      | tab P l => exact q
  · obtain ⟨h1, u, h2, h3⟩ := e.dom k b h
    rw [List.length_set]
    by_cases hb : b = a
    · subst hb; exact ⟨h1, _, upd_same, trivial⟩
    · exact ⟨h1, u, by rw [upd_ne hb]; exact h2, h3⟩
  · have h' : upd g.ro a (KDl K.w a o vs) b = some u := h
    by_cases hb : b = a
    · subst hb
      rw [upd_same] at h'
      cases h'
      refine ⟨upd_same, fun k hk => ?_⟩
      have : n = k := e.inj n k _ ha hk
      subst this
      rw [List.getElem?_set_self hlt]; trivial
    · rw [upd_ne hb] at h'
      obtain ⟨h1, h2⟩ := e.ro b u h'
      refine ⟨by rw [upd_ne hb]; exact h1, fun k hk => ?_⟩
      have q := h2 k hk
      have hkn : n ≠ k := fun z => by subst z; rw [hm] at q; exact q.elim
      rw [List.getElem?_set_ne hkn]; exact q
  · have h' : upd g.ro a (KDl K.w a o vs) b = some u := h
    by_cases hb : b = a
    · subst hb
      rw [upd_same] at h'
      cases h'
      exact kdl_nt
    · rw [upd_ne hb] at h'
      exact e.nt b u h'
end
section
variable {X : Cx} {pins : List (Addr × Obj)} {σ : L2.St} {H : Hp} {s : Shared} {g : Gh} {m : Mm}
/-- what such a dict is in the heap -/
theorem kdl_at {a : Addr} {o : Obj} {kvs : List (PV × PV)} {xs : List (NestedKey × Addr × V)} (I : Inv X pins σ H s) (h : H a = some (KDl X.w a o xs)) (r : RND X.kw g H kvs xs) :
    (a == sysModules) = false ∧ xs.length ≤ sizeLine ∧ s.heap.get? a = some o ∧ o.ExactDict ∧ ∃ ys, KA xs ys ∧ s.heap.DictOfH (nestedKind X.prog X.w) a ys ∧ ∃ es ep, o.data = .dict es ep ∧ es.toList = ys.map (fun y => (⟨y.1.hash X.w, .ref y.2.1, y.2.2⟩ : DictEntry)) := by
  obtain ⟨⟨h1, h2, h3, h4, ys, ka, es, ep, e3, e4, nd⟩, _⟩ := I.hok a _ h
  refine ⟨h2, h3, h1, h4, ys, ka, ⟨o, es, ep, h1, h4, e3, e4, fun y hy => ?_, nd⟩, es, ep, e3, e4⟩
  obtain ⟨k, k1, k2, k3⟩ := keys_at r ka y hy
  rw [k1]
  exact ⟨nk_is I 8 k2 k3 rfl, nk_depth k 8 k2⟩
theorem kx_at {n : Nat} {a : Addr} {kvs : List (PV × PV)} (I : Inv X pins σ H s) (em : Emb X.kw g m H) (h : kdOf m n = some kvs) (ha : g.φ n = some a) :
    (a == sysModules) = false ∧ ∃ xs ys, RND X.kw g H kvs xs ∧ xs.length ≤ sizeLine ∧ KA xs ys ∧ s.heap.DictOfH (nestedKind X.prog X.w) a ys := by
  unfold kdOf at h
  split at h
  · rename_i xs hm
    cases h
    obtain ⟨a', vs, h1, h2, h3⟩ := em.obj _ _ hm
    rw [ha] at h1; cases h1
    obtain ⟨s1, s2, ys, t1, dd⟩ := kd_at I h2 h3
    exact ⟨s1, vs, ys, h3, s2, t1, dd⟩
  · rename_i xs hm
    cases h
    obtain ⟨a', o, vs, h1, h2, h3⟩ := em.obj _ _ hm
    rw [ha] at h1; cases h1
    obtain ⟨s1, s2, _, _, ys, t1, dd, _⟩ := kdl_at I (em.ro _ _ h2).1 h3
    exact ⟨s1, vs, ys, h3, s2, t1, dd⟩
  · cases h
theorem raw_of {P : Program} {w : World} {h : Heap} {a : Addr} {ys : List (NestedKey × Addr × Value)} (dd : h.DictOfH (nestedKind P w) a ys) : ∃ es ep, h.DictRaw a es ep ∧ es.toList = ys.map (fun y => (⟨y.1.hash w, .ref y.2.1, y.2.2⟩ : DictEntry)) := by
  obtain ⟨o, es, ep, e1, e2, e3, e4, _, _⟩ := dd
  exact ⟨es, ep, ⟨o, e1, e2, e3⟩, e4⟩
theorem vals_rel : ∀ {kvs : List (PV × PV)} {xs : List (NestedKey × Addr × V)} {ys : List (NestedKey × Addr × Value)} {K : KW}, RND K g H kvs xs → KA xs ys → Rps K g H (kvs.map (·.2)) (xs.map (·.2.2)) ∧ Vals (xs.map (·.2.2)) (ys.map (·.2.2))
  | _, _, _, _, .nil, .nil => ⟨.nil, .nil⟩
  | _, _, _, _, .cons y a b r, .cons c t => by
    obtain ⟨h1, h2⟩ := vals_rel r t
    exact ⟨.cons b h1, .cons c.2.2 h2⟩
theorem keys_rel : ∀ {kvs : List (PV × PV)} {xs : List (NestedKey × Addr × V)} {ys : List (NestedKey × Addr × Value)} {K : KW}, RND K g H kvs xs → KA xs ys → Rps K g H (kvs.map (·.1)) (xs.map fun x => V.ref x.2.1) ∧ Vals (xs.map fun x => V.ref x.2.1) (ys.map fun y => Value.ref y.2.1)
  | _, _, _, _, .nil, .nil => ⟨.nil, .nil⟩
  | _, _, _, _, .cons y a b r, .cons c t => by
    obtain ⟨h1, h2⟩ := keys_rel r t
    refine ⟨.cons a h1, .cons ?_ h2⟩
    show _ = _
    rw [c.2.1]
end
section
variable {X : Cx} {Ξ : XC} {pos : Pos} {o e i : Expr} {fa fb fc : SE}
theorem op_tKIn2 (neg : Bool) (op : CmpOp) (hop : op = if neg then .NotIn else .In) (hu : X.A.units + 64 < cLine) : OpR X (compareOp op) (rd2 X.kw Ξ (oKIn2 neg)) := by
  intro pins s σ H x y v u Q I rx ry ⟨g, m, a, b, em, ra, rb, q⟩
  unfold oKIn2 at q
  split at q
  · rename_i n
    split at q
    · rename_i kvs hm
      split at q
      · rename_i hc
        simp only [Bool.and_eq_true] at hc
        obtain ⟨zs, rfl⟩ := isTup_inv hc.1
        obtain ⟨d, rfl, hd⟩ := rb.ref_inv
        obtain ⟨ka, _, rfl, _⟩ := ra.tup_inv
        cases rx; cases ry
        obtain ⟨s1, xs, ys, h3, s2, t1, dd⟩ := kx_at I em hm hd
        have fr := (find_rel hc.2 h3 t1).1
        cases neg with
        | false =>
          subst hop
          refine wpAny_in_heap (knd := nestedKind X.prog X.w) (kd_room hu) ⟨nk_is I 8 hc.2 ra rfl, nk_depth _ 8 hc.2⟩ s1 dd ?_
          rw [← fr]
          exact ⟨.bl _, H, I.tok _, rfl, QE.ret em (.bl _) q⟩
        | true =>
          subst hop
          refine notIn_keyed (knd := nestedKind X.prog X.w) (kd_room hu) ⟨nk_is I 8 hc.2 ra rfl, nk_depth _ 8 hc.2⟩ s1 ⟨ys, dd, rfl⟩ ?_
          rw [valueAt_pairsH, Option.isSome_map, ← fr]
          exact ⟨.bl _, H, I.tok _, rfl, QE.ret em (.bl _) q⟩
      · exact q.elim
    · exact q.elim
  · exact q.elim
theorem op_kin (hu : X.A.units + 64 < cLine) : OpR X (compareOp .In) (rd2 X.kw Ξ (oKIn2 false)) := op_tKIn2 false .In rfl hu
theorem op_knotin (hu : X.A.units + 64 < cLine) : OpR X (compareOp .NotIn) (rd2 X.kw Ξ (oKIn2 true)) := op_tKIn2 true .NotIn rfl hu
/-- d[k] -/
theorem se_kix (hu : X.A.units + 64 < cLine) (ho : PE X o (rdE X.kw Ξ fa)) (hi : PE X i (rdE X.kw Ξ fb)) (hs : NoSl i := by exact fun _ _ => rfl) : PE X (.Subscript o i pos) (rdE X.kw Ξ (e2 oKIx fa fb)) := by
  refine ⟨fun pins s σ H Q I h => ?_⟩
  obtain ⟨g, sl, m, em, sr, q⟩ := h
  refine subD_of PySem.F.slot_dict_getitem.lookup hs (thn (ho.run pins s σ H (fun x H1 => ∃ g1 m1 a, Emb X.kw g1 m1 H1 ∧ Sr X.kw g1 H1 sl σ ∧ Rp X.kw g1 H1 a x ∧ QE X.kw Ξ g1 H1 Q ((fb sl m1).bind fun (y, m2) => oKIx a y m2)) I ⟨g, sl, m, em, sr, QR.bind q fun p hp q1 g1 H1 V x1 e1 r1 => ⟨g1, p.2, p.1, e1, sr.ext em x1, r1, QE.later x1 q1⟩⟩) fun u s1 ⟨x, H1, I1, rx, g1, m1, a, e1, sr1, ra, q1⟩ => ?_)
  refine thn (hi.run pins s1 σ H1 (fun y H2 => ∃ g2 m2 b, Emb X.kw g2 m2 H2 ∧ Rp X.kw g2 H2 a x ∧ Rp X.kw g2 H2 b y ∧ QE X.kw Ξ g2 H2 Q (oKIx a b m2)) I1 ⟨g1, sl, m1, e1, sr1, QR.bind q1 fun p hp q2 g2 H2 V x2 e2 r2 => ⟨g2, p.2, p.1, e2, ra.ext e1 x2, r2, QE.later x2 q2⟩⟩) fun iv s2 ⟨y, H2, I2, ry, g2, m2, b, e2, ra2, rb, q2⟩ => ?_
  unfold oKIx at q2
  split at q2
  · rename_i n
    split at q2
    · rename_i kvs hm
      split at q2
      · rename_i hc
        simp only [Bool.and_eq_true] at hc
        split at q2
        · rename_i v hv
          obtain ⟨zs, rfl⟩ := isTup_inv hc.1
          obtain ⟨d, rfl, hd⟩ := ra2.ref_inv
          obtain ⟨ka, _, rfl, _⟩ := rb.tup_inv
          cases rx; cases ry
          obtain ⟨z1, xs, ys, h3, z2, t1, dd⟩ := kx_at I2 e2 hm hd
          obtain ⟨q0, w0, u0, f1, f2, f3⟩ := (find_rel hc.2 h3 t1).2 v hv
          refine ⟨dd.typeIs, getItem_keyed (knd := nestedKind X.prog X.w) (kd_room hu) ⟨nk_is I2 8 hc.2 rb rfl, nk_depth _ 8 hc.2⟩ ⟨ys, dd, rfl⟩ (v := u0) (by rw [valueAt_pairsH, f1]; rfl) ?_⟩
          exact ⟨w0, H2, I2.tok _, f3, QE.ret e2 f2 q2⟩
        · exact q2.elim
      · exact q2.elim
    · exact q2.elim
  · exact q2.elim
theorem dictOfH_none {P : Program} {w : World} {h : Heap} {a : Addr} {ys : List (NestedKey × Addr × Value)} (dd : h.DictOfH (nestedKind P w) a ys) : ∀ b, Value.ref a = .ref b → ∃ ob, h.get? b = some ob ∧ ob.dict = none := fun b q => by
  cases q
  obtain ⟨ob, _, _, h1, h2, _⟩ := dd
  exact ⟨ob, h1, h2.2.1⟩
/-- d.get(k, x) -/
theorem se_kget {apos cpos : Pos} (hu : X.A.units + 64 < cLine) (ho : PE X o (rdE X.kw Ξ fa)) (hi : PE X i (rdE X.kw Ξ fb)) (hx : PE X e (rdE X.kw Ξ fc)) (mm : M2 X o "get" apos i e cpos := by exact ⟨rfl, rfl, rfl, rfl⟩) : PE X (.Call (.Attribute o "get" apos) [i, e] [] cpos) (rdE X.kw Ξ (eKGetD fa fb fc)) := by
  refine ⟨fun pins s σ H Q I h => ?_⟩
  obtain ⟨g, sl, m, em, sr, q⟩ := h
  refine wpAny_Call_method mm.base mm.few mm.line PySem.F.plainAttrs_dict PySem.F.slot_dict_get PySem.F.type_dict_get (thn (ho.run pins s σ H (fun x H1 => ∃ g1 m1 n d kvs, Emb X.kw g1 m1 H1 ∧ Sr X.kw g1 H1 sl σ ∧ g1.φ n = some d ∧ x = .ref d ∧ kdOf m1 n = some kvs ∧ QE X.kw Ξ g1 H1 Q ((fb sl m1).bind fun (y, m2) => (fc sl m2).bind fun (z, m3) => (match kdOf m3 n with
      | some kvs => if isTup y && y.ky 8 then .ok ((kFind kvs y).getD z, m3) else .no
      | none => .no))) I ⟨g, sl, m, em, sr, QR.bind q fun p hp q1 g1 H1 V x1 e1 r1 => ?_⟩) fun u s1 ⟨x, H1, I1, rx, g1, m1, n, d, kvs1, e1, sr1, hd, ex, hk1, q1⟩ => ?_)
  · have q2 := QE.later x1 q1
    obtain ⟨v, m1⟩ := p
    cases v with
    | ref n =>
      obtain ⟨d, rfl, hd⟩ := r1.ref_inv
      simp only at q2
      split at q2
      · rename_i kvs hk
        exact ⟨g1, m1, n, d, kvs, e1, sr.ext em x1, hd, rfl, hk, q2⟩
      · exact q2.elim
    | _ => exact q2.elim
  subst ex
  obtain rfl : u = Value.ref d := rx
  obtain ⟨_, _, _, _, _, _, dd1⟩ := kx_at I1 e1 hk1 hd
  refine ⟨dd1.typeIs, dictOfH_none dd1, ?_⟩
  rw [mm.trees]
  refine Calls.callWith_builtin rfl (Calls.evalArgs_plain (Calls.spliced_cons (thn (hi.run pins s1 σ H1 (fun y H2 => ∃ g2 m2 b, Emb X.kw g2 m2 H2 ∧ Sr X.kw g2 H2 sl σ ∧ g2.φ n = some d ∧ Rp X.kw g2 H2 b y ∧ QE X.kw Ξ g2 H2 Q ((fc sl m2).bind fun (z, m3) => (match kdOf m3 n with
      | some kvs => if isTup b && b.ky 8 then .ok ((kFind kvs b).getD z, m3) else .no
      | none => .no))) I1 ⟨g1, sl, m1, e1, sr1, QR.bind q1 fun p hp q2 g2 H2 V x2 e2 r2 => ⟨g2, p.2, p.1, e2, sr1.ext e1 x2, x2.phi _ _ hd, r2, QE.later x2 q2⟩⟩) fun iv s2 ⟨y, H2, I2, ry, g2, m2, b, e2, sr2, hd2, rb, q2⟩ =>
    Calls.spliced_cons (thn (hx.run pins s2 σ H2 (fun z H3 => ∃ g3 m3 c, Emb X.kw g3 m3 H3 ∧ g3.φ n = some d ∧ Rp X.kw g3 H3 b y ∧ Rp X.kw g3 H3 c z ∧ QE X.kw Ξ g3 H3 Q (match kdOf m3 n with
      | some kvs => if isTup b && b.ky 8 then .ok ((kFind kvs b).getD c, m3) else .no
      | none => .no)) I2 ⟨g2, sl, m2, e2, sr2, QR.bind q2 fun p hp q3 g3 H3 V x3 e3 r3 => ⟨g3, p.2, p.1, e3, x3.phi _ _ hd2, rb.ext e2 x3, r3, QE.later x3 q3⟩⟩) fun fv s3 ⟨z, H3, I3, rz, g3, m3, c, e3, hd3, rb3, rc, q3⟩ => Calls.spliced_nil ?_))))
  split at q3
  · rename_i kvs hk3
    split at q3
    · rename_i hc
      simp only [Bool.and_eq_true] at hc
      obtain ⟨zs, rfl⟩ := isTup_inv hc.1
      obtain ⟨ka, _, rfl, _⟩ := rb3.tup_inv
      cases ry
      obtain ⟨z1, xs, ys, h3, z2, t1, dd⟩ := kx_at I3 e3 hk3 hd3
      refine getOr_keyed (knd := nestedKind X.prog X.w) (kd_room hu) ⟨nk_is I3 8 hc.2 rb3 rfl, nk_depth _ 8 hc.2⟩ z1 ⟨ys, dd, rfl⟩ ?_
      obtain ⟨fr, fi⟩ := find_rel hc.2 h3 t1
      rw [valueAt_pairsH]
      cases hf : kFind kvs (.tup zs) with
      | none =>
        have hh : kHas kvs (.tup zs) = false := by
          unfold kFind at hf
          unfold kHas
          simpa using hf
        rw [hh] at fr
        have : (atKey ys (nkOf (.tup zs))) = none := by
          cases ha : atKey ys (nkOf (.tup zs)) with
          | none => rfl
          | some v => rw [ha] at fr; cases fr
        rw [this]
        rw [hf] at q3
        exact ⟨z, H3, I3.tok _, rz, QE.ret e3 rc q3⟩
      | some v =>
        obtain ⟨q0, w0, u0, f1, f2, f3⟩ := fi v hf
        rw [f1]
        rw [hf] at q3
        exact ⟨w0, H3, I3.tok _, f3, QE.ret e3 f2 q3⟩
    · exact q3.elim
  · exact q3.elim
end
section
variable {X : Cx} {Ξ : XC} {f : SS} {sts : List Stmt}
/-- a dict is locked -/
theorem ss_lock (i : Nat) (h1 : PSs X sts (rdS X.kw Ξ f)) : PSs X sts (rdS X.kw Ξ (sSeq (sLock i) f)) := by
  refine ⟨fun pins s σ H D I h => ?_⟩
  obtain ⟨g, sl, m, em, sr, q⟩ := h
  simp only [sSeq, sLock] at q
  split at q
  · rename_i n hn
    split at q
    · rename_i kvs hm
      obtain ⟨w, hw, rw'⟩ := sr.at_ i _ hn
      obtain ⟨a, rfl, ha⟩ := rw'.ref_inv
      obtain ⟨a', vs, p1, p2, p3⟩ := em.obj _ _ hm
      rw [ha] at p1; cases p1
      obtain ⟨⟨z1, z2, ys, ka, o, es, ep, e1, e2, e3, e4, nd⟩, _⟩ := I.hok a _ p2
      obtain ⟨g', x, e', _⟩ := em.lock_kd o hm ha p3
      have ok : ObjOk X.prog X.w (upd H a (KDl X.w a o vs)) s.heap a (KDl X.w a o vs) :=
        ⟨⟨e1, z1, z2, e2, ys, ka, es, ep, e3, e4, nd⟩, ⟨o, e1⟩, fun t1 t2 ⟨y1, y2, y3, y4, y5⟩ st => ⟨st _ y1, y2, y3, y4, y5⟩⟩
      have J := I.write (x := a) (e := a) (h' := s.heap) (o := KDl X.w a o vs) (t' := s.toks) (by rw [p2]; trivial) (.inl rfl) (fun b u hb z => z) ⟨o, e1⟩ ok
      exact h1.run pins s σ _ D J ⟨g', sl, _, e', sr.ext em x, QS.later x q⟩
    · exact q.elim
  · exact q.elim
end
/-! ### over the keys -/
/-- the keys of a locked dict, one after another -/
def ItKl (w : World) (d : Addr) (o : Obj) (xs : List (NestedKey × Addr × V)) : It :=
  ⟨fun i H => H d = some (KDl w d o xs) ∧ i < xs.length, fun i H x H' => H' = H ∧ ∃ y, xs[i]? = some y ∧ x = .ref y.2.1, fun i H => H d = some (KDl w d o xs) ∧ xs.length ≤ i⟩
theorem ka_get : ∀ {xs : List (NestedKey × Addr × V)} {ys : List (NestedKey × Addr × Value)}, KA xs ys → ∀ {i : Nat} {x : NestedKey × Addr × V}, xs[i]? = some x → ∃ y, ys[i]? = some y ∧ y.2.1 = x.2.1
  | _, _, .nil, _, _, h => by simp at h
  | _, _, .cons c t, 0, x, h => by simp at h; subst h; exact ⟨_, rfl, c.2.1.symm⟩
  | _, _, .cons c t, i + 1, x, h => by
    obtain ⟨y, h1, h2⟩ := ka_get t (i := i) (x := x) (by simpa using h)
    exact ⟨y, by simpa using h1, h2⟩
section
variable {P : Program} {w : World} {K : PySem.W.Frag} {tg : Expr}
theorem kdl_raw {X : Cx} {pins : List (Addr × Obj)} {σ : L2.St} {H : Hp} {s : Shared} {d : Addr} {o : Obj} {xs : List (NestedKey × Addr × V)} {es : Array DictEntry} {ep : Nat} (I : Inv X pins σ H s) (h : H d = some (KDl X.w d o xs)) (hod : o.data = .dict es ep) :
    s.heap.get? d = some o ∧ es.size = xs.length ∧ ∀ (i : Nat) (x : NestedKey × Addr × V), xs[i]? = some x → ∃ en : DictEntry, es[i]? = some en ∧ en.key = Value.ref x.2.1 := by
  obtain ⟨⟨h1, h2, h3, h4, ys, ka, es', ep', e3, e4, nd⟩, _⟩ := I.hok d _ h
  obtain ⟨rfl, rfl⟩ := L2.dict_ep hod e3
  have hl : es'.size = ys.length := by
    rw [← Array.length_toList, e4, List.length_map]
  refine ⟨h1, by rw [hl, Paired.length ka], fun i x hx => ?_⟩
  obtain ⟨y, hy, hq⟩ := ka_get ka hx
  refine ⟨⟨y.1.hash X.w, .ref y.2.1, y.2.2⟩, ?_, ?_⟩
  · rw [← Array.getElem?_toList, e4, List.getElem?_map, hy]; rfl
  · show Value.ref y.2.1 = _
    rw [hq]
theorem turn_kl {o : Obj} {es : Array DictEntry} {ep : Nat} {d : Addr} {xs : List (NestedKey × Addr × V)} (t : Addr) (hod : o.data = .dict es ep) : Turn P w K tg (ItKl w d o xs) [t] t (fun i h => h.IsKeyIter t d i xs.length ep) where
  mem := List.mem_singleton.mpr rfl
  obj := fun i h st b hb => by
    cases List.mem_singleton.mp hb
    obtain ⟨oi, y1, y2, y3⟩ := st
    exact ⟨oi, y1, fun v z => by rw [y3] at z; cases z⟩
  keep := fun i h h' st k => st.at fun oi y => k t (List.mem_singleton.mpr rfl) oi y
  item := by
    intro X hP hw hK hcalm i pins s σ H E I hfp st hgo
    subst hP hw hK
    obtain ⟨f0, f1, f2, f3, f4, f5⟩ := hfp t (List.mem_singleton.mpr rfl)
    obtain ⟨r1, r2, r3⟩ := kdl_raw I hgo.1 hod
    obtain ⟨en, hen, hkey⟩ := r3 i _ (List.getElem?_eq_getElem hgo.2)
    refine L2.next_key_item st r1 hod r2 hen fun h' st' sb => ?_
    have J : Inv X pins σ H { s with heap := h' } := I.turned (t' := s.toks) (fun b ob hb y => (sb.2 b hb).trans y) f0 f1 f3 f4 f5
    obtain ⟨oi, y1, y2, y3⟩ := id st'
    exact ⟨en.key, rfl, go_of (s := { s with heap := h' }) y1 y2 y3 (by decide) ⟨.ref (xs[i]'hgo.2).2.1, H, J, hkey, ⟨rfl, _, List.getElem?_eq_getElem hgo.2, rfl⟩, st', fun b hb => (hfp b hb).1⟩⟩
  done := by
    intro X hP hw hK hcalm i pins s σ H E I hfp st hgo
    subst hP hw hK
    obtain ⟨f0, f1, f2, f3, f4, f5⟩ := hfp t (List.mem_singleton.mpr rfl)
    obtain ⟨r1, r2, r3⟩ := kdl_raw I hgo.1 hod
    exact L2.next_key_end (I.ok.hd hcalm) st r1 hod r2 hgo.2 fun h' eb => ⟨rfl, I.turned (t' := s.toks) (fun b ob hb y => eb b ob hb y) f0 f1 f3 f4 f5⟩
  self := fun A i s Q E st h => wpAny_pyIter_keyiter st h
end
section
variable {X : Cx} {Ξ : XC} {tg e : Expr} {fa : SE}
theorem rnd_get {K : KW} {g : Gh} {H : Hp} : ∀ {kvs : List (PV × PV)} {xs : List (NestedKey × Addr × V)}, RND K g H kvs xs → ∀ {i : Nat} {y : NestedKey × Addr × V}, xs[i]? = some y → ∃ k, (kvs.map (·.1))[i]? = some k ∧ Rp K g H k (.ref y.2.1)
  | _, _, .nil, _, _, h => by simp at h
  | _, _, .cons a b c r, 0, y, h => by simp at h; subst h; exact ⟨_, rfl, b⟩
  | _, _, .cons a b c r, i + 1, y, h => by
    obtain ⟨k, h1, h2⟩ := rnd_get r (i := i) (y := y) (by simpa using h)
    exact ⟨k, by simpa using h1, h2⟩
theorem wk_kl {K : KW} {g : Gh} {H : Hp} {kvs : List (PV × PV)} {xs : List (NestedKey × Addr × V)} {d : Addr} {o : Obj} {m : Mm} (em : Emb K g m H) (hd : g.ro d = some (KDl K.w d o xs)) (r : RND K g H kvs xs) : Wk K g H (kvs.map (·.1)) (ItKl K.w d o xs) := by
  refine ⟨fun g' m' H' i x' e' hi => ?_, fun g' m' H' i x' e' hi => ?_⟩
  · rw [List.length_map, r.length] at hi
    refine ⟨⟨(e'.ro _ _ (x'.ro _ _ hd)).1, hi⟩, fun x H2 ⟨e2, y, hy, hx⟩ => ?_⟩
    subst e2 hx
    obtain ⟨k, hk, rk⟩ := rnd_get (r.ext em x') hy
    exact ⟨g', k, Ext.refl _ _, e', hk, rk⟩
  · rw [List.length_map, r.length] at hi
    exact ⟨(e'.ro _ _ (x'.ro _ _ hd)).1, hi⟩
/-- for k in d, locked -/
theorem si_kl (h : PE X e (rdE X.kw Ξ fa)) : PI X tg e (rdI X.kw Ξ (iKl fa)) := by
  refine ⟨fun pins s σ H R I ⟨g, sl, m, em, sr, q⟩ => ?_⟩
  refine thn (h.run pins s σ H (fun x H1 => ∃ g1 m1 n d kvs, Emb X.kw g1 m1 H1 ∧ x = .ref d ∧ g1.φ n = some d ∧ m1[n]? = some (.kl kvs) ∧ QR X.kw Ξ g1 H1 (fun (p : List PV × Mm) => ∀ g' H' J, Ext g1 H1 g' H' → Emb X.kw g' p.2 H' → Wk X.kw g' H' p.1 J → R J H') (.ok (kvs.map (·.1), m1))) I ⟨g, sl, m, em, sr, QR.bind q fun p hp q1 g1 H1 V x1 e1 r1 => ?_⟩) fun v s1 ⟨x, H1, I1, rx, g1, m1, n, d, kvs, e1, ex, hd, hm, q1⟩ => ?_
  · have q2 : QR X.kw Ξ g1 H1 (fun (p : List PV × Mm) => ∀ g' H' J, Ext g1 H1 g' H' → Emb X.kw g' p.2 H' → Wk X.kw g' H' p.1 J → R J H') _ := QR.later x1 q1 fun _ z g' H' J x => z g' H' J (x1.trans x)
    obtain ⟨v, m1⟩ := p
    cases v with
    | ref n =>
      obtain ⟨d, rfl, hd⟩ := r1.ref_inv
      simp only at q2
      split at q2
      · rename_i kvs hk
        exact ⟨g1, m1, n, d, kvs, e1, rfl, hd, hk, q2⟩
      · exact q2.elim
    | _ => exact q2.elim
  subst ex
  obtain rfl : v = Value.ref d := rx
  obtain ⟨a', o, xs, p1, p2, p3⟩ := e1.obj _ _ hm
  rw [hd] at p1; cases p1
  obtain ⟨z1, z2, z3, z4, ys, ka, dd, es, ep, hod, hes⟩ := kdl_at I1 (e1.ro _ _ p2).1 p3
  have hsz : es.size = xs.length := by
    rw [← Array.length_toList, hes, List.length_map]; exact (Paired.length ka).symm
  refine L2.iter_keys z1 z3 z4 hod (L2.pi_one (tk := s1.toks) I1 _ (turn_kl _ hod) ⟨_, Heap.get?_push_size _ rfl, rfl, ?_⟩ (q1 g1 H1 _ (Ext.refl _ _) e1 (wk_kl e1 p2 p3)))
  rw [hsz] <;> rfl
end
end TT
end

section
set_option Elab.async false
set_option linter.all false
set_option autoImplicit false
set_option maxRecDepth 100000
/-! TT: list(d.values()), list(d), sum; lists made by + and list() as objects; get and in of dicts of whole numbers -/
namespace TT
open PySem PySem.Spec PyProof.Rows L2
def viewO (p d : Addr) : HO := .ext fun h => h.IsValuesView p d
theorem viewO_ok {P : Program} {w : World} {H : Hp} {h : Heap} {p d : Addr} (e : h.get? p = some { cls := .type "dict_values", data := .fields #[.ref d] }) : ObjOk P w H h p (viewO p d) :=
  ⟨⟨_, e, rfl, rfl⟩, ⟨_, e⟩, fun t1 t2 ⟨ov, y1, y2⟩ st => ⟨ov, st _ y1, y2⟩⟩
theorem acc_list {α : Type} {F : DictEntry → Value} {G : α → Value} {mk : α → DictEntry} (hFG : ∀ y, F (mk y) = G y) {es : Array DictEntry} {ys : List α} (hes : es.toList = ys.map mk) {acc : Array Value} (h : ItemsOf (fun i v => ∃ hi : i < es.size, v = F es[i]) acc es.size) : acc.toList = ys.map G := by
  obtain ⟨h1, h2⟩ := h
  have hl : es.size = ys.length := by rw [← Array.length_toList, hes, List.length_map]
  refine List.ext_getElem (by rw [Array.length_toList, h1, hl, List.length_map]) fun i p1 p2 => ?_
  have p3 : i < acc.size := by simpa using p1
  obtain ⟨hi, hv⟩ := h2 i acc[i] (Array.getElem?_eq_getElem p3)
  have p4 : i < ys.length := by rw [← hl]; exact hi
  have e1 : es[i] = mk ys[i] := by
    have : es.toList[i]? = some (mk ys[i]) := by rw [hes, List.getElem?_map, List.getElem?_eq_getElem p4]; rfl
    rw [Array.getElem?_toList, Array.getElem?_eq_getElem hi] at this
    exact Option.some.inj this
  rw [Array.getElem_toList, hv, e1, hFG, List.getElem_map]
section
variable {X : Cx} {Ξ : XC} {pos : Pos} {o e i a b : Expr} {fa fb fc : SE}
def rVals (K : KW) (f : PV × PV → PV) (hd : Hp → Addr → Addr → Prop) : List V → Hp → VK → Prop := fun xs H Q => ∃ v d g m n kvs, xs = [.ref v] ∧ hd H v d ∧ Emb K g m H ∧ g.φ n = some d ∧ kdOf m n = some kvs ∧ kvs.length ≤ LINE ∧ ∀ p vs, H p = none → Rps K g H (kvs.map f) vs → Q (.ref p) (upd H p (.lst vs))
theorem cr_kvals (hc : X.calm = true) : CallR X (.type "list") (rVals X.kw (·.2) fun H v d => H v = some (viewO v d)) := by
  intro pins s σ H xs us Q I r ⟨v, d, g, m, n, kvs, ex, hv, em, hd, hk, hl, q⟩
  subst ex
  cases r with
  | cons r rr =>
    cases rr
    cases r
    obtain ⟨z1, xs, ys, h3, z2, t1, dd⟩ := kx_at I em hk hd
    obtain ⟨es, ep, raw, hes⟩ := raw_of dd
    have hw : s.heap.IsValuesView v d := (I.hok v _ hv).1
    have hsz : es.size = kvs.length := by rw [← Array.length_toList, hes, List.length_map, h3.length]; exact (Paired.length t1).symm
    refine PySem.W.kdl_call (KdlSrc.rawValues (ep := ep)) (I.ok.hd hc) ⟨hw, raw⟩ (by rw [hsz]; exact line_le hl) fun h' tk acc' c' kp e acc => ?_
    obtain ⟨r1, r2⟩ := vals_rel h3 t1
    have hacc := acc_list (F := fun e => e.val) (G := fun y : NestedKey × Addr × Value => y.2.2) (fun _ => rfl) hes acc
    refine ⟨.ref s.heap.objs.size, _, I.laid (t' := tk) kp (Nat.le_refl _) (show ObjOk X.prog X.w _ h' _ (.lst (xs.map (·.2.2))) from ⟨?_, acc'.toList, c', by rw [hacc]; exact r2, by simpa using e⟩), rfl, q _ _ (I.hok.fresh (Nat.le_refl _)) r1⟩
    rw [List.length_map]; exact z2
theorem cr_kkeys (hc : X.calm = true) : CallR X (.type "list") (rVals X.kw (·.1) fun H v d => v = d) := by
  intro pins s σ H xs us Q I r ⟨v, d, g, m, n, kvs, ex, hv, em, hd, hk, hl, q⟩
  subst ex
  subst hv
  cases r with
  | cons r rr =>
    cases rr
    cases r
    obtain ⟨z1, xs, ys, h3, z2, t1, dd⟩ := kx_at I em hk hd
    obtain ⟨es, ep, raw, hes⟩ := raw_of dd
    have hsz : es.size = kvs.length := by rw [← Array.length_toList, hes, List.length_map, h3.length]; exact (Paired.length t1).symm
    refine PySem.W.kdl_call (KdlSrc.rawDict (ep := ep) z1) (I.ok.hd hc) raw (by rw [hsz]; exact line_le hl) fun h' tk acc' c' kp e acc => ?_
    obtain ⟨r1, r2⟩ := keys_rel h3 t1
    have hacc := acc_list (F := fun e => e.key) (G := fun y : NestedKey × Addr × Value => Value.ref y.2.1) (fun _ => rfl) hes acc
    refine ⟨.ref s.heap.objs.size, _, I.laid (t' := tk) kp (Nat.le_refl _) (show ObjOk X.prog X.w _ h' _ (.lst (xs.map fun x => V.ref x.2.1)) from ⟨?_, acc'.toList, c', by rw [hacc]; exact r2, by simpa using e⟩), rfl, q _ _ (I.hok.fresh (Nat.le_refl _)) r1⟩
    rw [List.length_map]; exact z2
def tDc (K : KW) (Ξ : XC) (fd : SE) (k : Addr → Gh → Mm → Hp → (V → Hp → Prop) → Nat → List (PV × PV) → Prop) : TE := fun σ H Q => ∃ g s m, Emb K g m H ∧ Sr K g H s σ ∧ QR K Ξ g H (fun (p : PV × Mm) => ∃ n kvs, p.1 = .ref n ∧ kdOf p.2 n = some kvs ∧ ∀ g' H' d, Ext g H g' H' → Emb K g' p.2 H' → g'.φ n = some d → k d g' p.2 H' Q n kvs) (fd s m)
theorem tDc_of {fd : SE} {σ : L2.St} {H : Hp} {Q Q' : VK} {F : PV × PV → PV} {K : KW} {k : Addr → Gh → Mm → Hp → (V → Hp → Prop) → Nat → List (PV × PV) → Prop} (q : rdE K Ξ (fun s m => (fd s m).bind fun (d, m1) => match d with
  | .ref n => (match kdOf m1 n with
    | some kvs => if kvs.length ≤ LINE then .ok (.vl (kvs.map F), m1) else .no
    | none => .no)
  | _ => .no) σ H Q) (hk : ∀ g' m' H' d n kvs, kdOf m' n = some kvs → kvs.length ≤ LINE → Emb K g' m' H' → g'.φ n = some d → QE K Ξ g' H' Q (.ok (.vl (kvs.map F), m')) → k d g' m' H' Q' n kvs) : tDc K Ξ fd k σ H Q' := by
  obtain ⟨g, s, m, em, sr, q⟩ := q
  refine ⟨g, s, m, em, sr, QR.bind q fun p hp q1 => ?_⟩
  obtain ⟨v, m1⟩ := p
  cases v with
  | ref n =>
    simp only at q1
    split at q1
    · rename_i kvs hkd
      split at q1
      · rename_i hl
        exact ⟨n, kvs, rfl, hkd, fun g' H' d x' e' hd => hk _ _ _ _ _ _ hkd hl e' hd (QE.later x' q1)⟩
      · exact q1.elim
    · exact q1.elim
  | _ => exact q1.elim
theorem pe_dc {fd : SE} (h : PE X e (rdE X.kw Ξ fd)) : PE X e (tDc X.kw Ξ fd fun d g m H Q n kvs => Q (.ref d) H) :=
  PE_imp h fun σ H Q ⟨g, s, m, em, sr, q⟩ => ⟨g, s, m, em, sr, QR.imp q fun p hp ⟨n, kvs, hn, hk, q1⟩ g' H' V x' e' r' => by
    rw [hn] at r'
    obtain ⟨d, rfl, hd⟩ := r'.ref_inv
    exact q1 g' H' d x' e' hd⟩
theorem pe_kvalues {fd : SE} {apos cpos : Pos} (h : PE X e (rdE X.kw Ξ fd)) (hbase : attributeBase e "values" X.env (eval e X.env) = eval e X.env := by rfl) (hline : (apos.endLine == cpos.line) = true := by rfl) :
    PE X (.Call (.Attribute e "values" apos) [] [] cpos) (tDc X.kw Ξ fd fun d g m H Q n kvs => ∀ v, H v = none → Q (.ref v) (upd H v (viewO v d))) := by
  refine ⟨fun pins s σ H Q I q => ?_⟩
  refine wpAny_Call_method (T := "dict") (id := "dict.values") hbase rfl hline F.plainAttrs_dict F.slot_dict_values F.type_dict_values (thn (h.run pins s σ H (fun x H1 => ∃ g m n kvs d, x = .ref d ∧ Emb X.kw g m H1 ∧ g.φ n = some d ∧ kdOf m n = some kvs ∧ ∀ v, H1 v = none → Q (.ref v) (upd H1 v (viewO v d))) I ?_) fun u s1 ⟨x, H1, I1, rx, g, m, n, kvs, d, ex, em, hd, hk, q1⟩ => ?_)
  · obtain ⟨g, s, m, em, sr, q⟩ := q
    refine ⟨g, s, m, em, sr, QR.imp q fun p hp ⟨n, kvs, hn, hk, q1⟩ g' H' V x' e' r' => ?_⟩
    rw [hn] at r'
    obtain ⟨d, rfl, hd⟩ := r'.ref_inv
    exact ⟨g', p.2, n, kvs, d, rfl, e', hd, hk, q1 g' H' d x' e' hd⟩
  subst ex
  obtain rfl : u = Value.ref d := rx
  obtain ⟨z1, xs, ys, h3, z2, t1, dd⟩ := kx_at I1 em hk hd
  obtain ⟨es, ep, raw, hes⟩ := raw_of dd
  refine ⟨dd.typeIs, dictOfH_none dd, ?_⟩
  show wpAny _ _ (callWith cpos (.builtin "dict.values") [.ref d] [] []) _ X.xe s1
  have keep : ∀ b u, s1.heap.get? b = some u → (s1.heap.push { cls := .type "dict_values", data := .fields #[.ref d] }).get? b = some u := fun b u z => Heap.get?_push_of_some _ z
  exact method_meetsIn F.slot_dict_values F.entry_dict_values rfl (PySem.evalArgs_none ⟨rfl, dd.typeIs, F.args_dict_values_1 _, _, meets_dict_values_raw d z1, ⟨es, ep, raw⟩, ⟨.ref s1.heap.objs.size, _, I1.laid (t' := s1.toks) keep (Nat.le_refl _) (viewO_ok (Heap.get?_push_size _ rfl)), rfl, q1 _ (I1.hok.fresh (Nat.le_refl _))⟩⟩)
/-- list(d.values()) -/
theorem se_kvals {x : Str} {p apos cpos : Pos} {fd : SE} (hc : X.calm = true) (hg : Gl X x) (hm : X.mg x = none) (hv : bootBuiltins x = some (.type "list")) (h : PE X e (rdE X.kw Ξ fd)) (hbase : attributeBase e "values" X.env (eval e X.env) = eval e X.env := by rfl) (hline : (apos.endLine == cpos.line) = true := by rfl) (hn : x ≠ "__name__" := by decide) (hdb : (x == ("__debug__" : Str)) = false := by decide)
    (he : starEach [.Call (.Attribute e "values" apos) [] [] cpos] X.env = (false, eval (.Call (.Attribute e "values" apos) [] [] cpos) X.env) :: starEach [] X.env := by rfl) (hpl : (backTo pos (starEach [] X.env)).any (·.1) = false := by rfl) : PE X (.Call (.Name x p) [.Call (.Attribute e "values" apos) [] [] cpos] [] pos) (rdE X.kw Ξ (eKVals fd)) :=
  PE_imp (pe_callTy (cr_kvals hc) hg hm hv (pa_cons (pe_kvalues h hbase hline) pa_nil he) hn hdb he hpl) fun σ H Q q => by
    show tDc X.kw Ξ fd (fun d g m H Q n kvs => ∀ v, H v = none → Q (.ref v) (upd H v (viewO v d))) σ H (fun x H1 => rVals X.kw (·.2) (fun H v d => H v = some (viewO v d)) [x] H1 Q)
    refine tDc_of (k := fun d g m H Q n kvs => ∀ v, H v = none → Q (.ref v) (upd H v (viewO v d))) q fun g m H1 d n kvs hk hl em hd q1 v hv => ?_
    obtain ⟨e0, tr⟩ := em.other (D := v) (o := viewO v d) (em.free hv) (em.freeR hv) (fun xs z => by
      rcases z with z | ⟨o, z⟩ <;> rw [hv] at z <;> cases z) (tabs_new em.tab hv)
    refine ⟨v, d, g, m, n, kvs, rfl, upd_same, e0, hd, hk, hl, fun p vs hp r => ?_⟩
    have x0 : Ext g H1 g (upd H1 v (viewO v d)) := Ext.newTup hv fun ⟨n, z⟩ => em.free hv n z
    exact QE.newL e0 r (QE.later x0 q1) hp
/-- list(d) -/
theorem se_kkeys {x : Str} {p : Pos} {fd : SE} (hc : X.calm = true) (hg : Gl X x) (hm : X.mg x = none) (hv : bootBuiltins x = some (.type "list")) (h : PE X e (rdE X.kw Ξ fd)) (hn : x ≠ "__name__" := by decide) (hdb : (x == ("__debug__" : Str)) = false := by decide)
    (he : starEach [e] X.env = (false, eval e X.env) :: starEach [] X.env := by rfl) (hpl : (backTo pos (starEach [] X.env)).any (·.1) = false := by rfl) : PE X (.Call (.Name x p) [e] [] pos) (rdE X.kw Ξ (eKKeys fd)) :=
  PE_imp (pe_callTy (cr_kkeys hc) hg hm hv (pa_cons (pe_dc h) pa_nil he) hn hdb he hpl) fun σ H Q q => by
    show tDc X.kw Ξ fd (fun d g m H Q n kvs => Q (V.ref d) H) σ H (fun x H1 => rVals X.kw (·.1) (fun H v d => v = d) [x] H1 Q)
    refine tDc_of (k := fun d g m H Q n kvs => Q (V.ref d) H) q fun g m H1 d n kvs hk hl em hd q1 => ?_
    exact ⟨d, d, g, m, n, kvs, rfl, rfl, em, hd, hk, hl, fun p vs hp r => QE.newL em r q1 hp⟩
/-- x + y, an object of its own -/
theorem op_tAddM : OpR X (binaryOp .Add) (rd2 X.kw Ξ oAddM) := by
  refine OpR_imp (op_cat (X := X)) fun x y H Q ⟨g, m, a, b, e, ra, rb, q⟩ => ?_
  unfold oAddM at q
  split at q
  · rename_i xs ys h1 h2
    obtain ⟨a1, vs, rfl, ha, r1⟩ := e.look ra h1
    obtain ⟨b1, ws, rfl, hb, r2⟩ := e.look rb h2
    split at q
    · rename_i hl
      exact ⟨a1, b1, vs, ws, rfl, rfl, ha, hb, by rw [← r1.length, ← r2.length]; exact line_le hl, fun p hp => QE.newM e (r1.append r2) q hp⟩
    · exact q.elim
  · exact q.elim
theorem call_tListM : CallR X (.type "list") (rdN X.kw Ξ fListM) := by
  refine CallR_imp call_list_of fun xs H Q ⟨g, m, as, e, ra, q⟩ => ?_
  unfold fListM at q
  split at q
  · rename_i a
    cases ra with
    | cons r1 r2 =>
      cases r2
      split at q
      · rename_i ys h1
        obtain ⟨a1, vs, rfl, ha, r1'⟩ := e.look r1 h1
        exact ⟨a1, vs, rfl, .inl (SqL.of ha), fun p hp => QE.newM e r1' q hp⟩
      · rename_i ys h1
        rw [look1_tup h1] at r1
        obtain ⟨a1, vs, rfl, ha, r1'⟩ := r1.tup_inv
        exact ⟨a1, vs, rfl, .inr ha, fun p hp => QE.newM e r1' q hp⟩
      · exact q.elim
  · exact q.elim
theorem intsOf_rel {K : KW} {g : Gh} {H : Hp} : ∀ {xs : List PV} {vs : List V} {is : List Int}, intsOf xs = some is → Rps K g H xs vs → vs = is.map V.int
  | [], _, is, h, .nil => by simp only [intsOf] at h; cases h; rfl
  | x :: xs, _, is, h, .cons r rr => by
    cases x with
    | int i =>
      simp only [intsOf] at h
      cases hi : intsOf xs with
      | none => rw [hi] at h; cases h
      | some js =>
        rw [hi] at h
        simp only [Option.map_some, Option.some.injEq] at h
        subst h
        cases r.int_inv
        rw [intsOf_rel hi rr]; rfl
    | _ => simp only [intsOf] at h; cases h
theorem call_tSum (hc : X.calm = true) : CallR X (.builtin "sum") (rdN X.kw Ξ fSum) := by
  refine CallR_imp (cr_sum hc) fun xs H Q ⟨g, m, as, e, ra, q⟩ => ?_
  unfold fSum at q
  split at q
  · rename_i a
    cases ra with
    | cons r1 r2 =>
      cases r2
      split at q
      · rename_i ys h1
        obtain ⟨a1, vs, rfl, ha, r1'⟩ := e.look r1 h1
        split at q
        · rename_i is hi
          cases intsOf_rel hi r1'
          exact ⟨a1, is, rfl, SqL.of ha, QE.ret e (.int _) q⟩
        · exact q.elim
      · exact q.elim
  · exact q.elim
end
end TT
end

section
set_option Elab.async false
set_option linter.all false
set_option autoImplicit false
set_option maxRecDepth 100000
/-! TT: comprehensions with two fors -/
namespace TT
open PySem PySem.Spec PyProof.Rows L2
section
variable {K : KW} {Ξ : XC}
/-- the list of a comprehension, done: it is a value now -/
theorem lc_done {g1 g2 : Gh} {H1 H2 : Hp} {m2 : Mm} {D : Addr} {Q : VK} {acc : List PV} {ws : List V} (hD : H1 D = none) (x2 : Ext g1 H1 g2 H2) (e2 : Emb K g2 m2 H2) (hD2 : H2 D = some (.lst ws)) (ra : Rps K g2 H2 acc ws) (f1 : ∀ n, g2.φ n ≠ some D) (f2 : g2.ro D = none) (q3 : QE K Ξ g1 H1 Q (.ok (.vl acc, m2))) : Q (.ref D) H2 := by
  have hro : ∀ a u, g2.ro a = some u → (g2.addR D (.lst ws)).ro a = some u := fun a u h => by
    have : a ≠ D := fun z => by subst z; rw [f2] at h; cases h
    show upd g2.ro D _ a = some u
    rw [upd_ne this]; exact h
  have x3 : Ext g1 H1 (g2.addR D (.lst ws)) H2 := ⟨x2.phi, fun a u h => hro a u (x2.ro a u h), x2.fr, x2.old, fun a u h hn ht hr => by
    show upd g2.ro D _ a = none
    rw [upd_ne (ne_of_none h hD)]
    exact x2.oldr a u h hn ht hr, x2.T⟩
  have e3 : Emb K (g2.addR D (.lst ws)) m2 H2 := by
    refine ⟨fun n ob h => ?_, e2.dom, e2.inj, fun a u h => ?_, nt_addR e2.nt, e2.tab⟩
    · have q := e2.obj n ob h
      cases ob with
      | lst ys =>
        obtain ⟨a, us, q1, q2, q3⟩ := q
        exact ⟨a, us, q1, q2, Rps.mono (g := g2) (g' := g2.addR D (.lst ws)) (fun _ _ h => h) hro (fun _ _ h => h) q3⟩
      | dict ys =>
        obtain ⟨a, us, q1, q2, q3⟩ := q
        exact ⟨a, us, q1, q2, RKs.imp (g' := g2.addR D (.lst ws)) (fun r => Rp.mono (g := g2) (g' := g2.addR D (.lst ws)) (fun _ _ h => h) hro (fun _ _ h => h) r) q3⟩
      | kd ys =>
        obtain ⟨a, us, q1, q2, q3⟩ := q
        exact ⟨a, us, q1, q2, RND.imp (g' := g2.addR D (.lst ws)) (fun r => Rp.mono (g := g2) (g' := g2.addR D (.lst ws)) (fun _ _ h => h) hro (fun _ _ h => h) r) q3⟩
      | kl ys =>
        obtain ⟨a, o, us, q1, q2, q3⟩ := q
        exact ⟨a, o, us, q1, hro _ _ q2, RND.imp (g' := g2.addR D (.lst ws)) (fun r => Rp.mono (g := g2) (g' := g2.addR D (.lst ws)) (fun _ _ h => h) hro (fun _ _ h => h) r) q3⟩
      | dead => trivial
      | tab P l => exact q
    · have h' : upd g2.ro D (.lst ws) a = some u := h
      by_cases ha : a = D
      · subst ha
        rw [upd_same] at h'; cases h'
        exact ⟨hD2, fun n hn => (f1 n hn).elim⟩
      · rw [upd_ne ha] at h'
        exact e2.ro a u h'
  exact q3 _ _ _ x3 e3 (.vl upd_same (Rps.mono (g := g2) (g' := g2.addR D (.lst ws)) (fun _ _ h => h) hro (fun _ _ h => h) ra))
theorem reb {α β γ : Type} (r : Rs α) (k : α → Rs β) (l : β → Rs γ) : (r.bind k).bind l = r.bind fun a => (k a).bind l := by cases r <;> rfl
theorem rd_lc2 {own vs1 : List Nat} {it : SI} {fg fg1 : SG} {ft ft1 : ST} {fq fe : SE} {tg tg1 : TG} {σ : L2.St} {H : Hp} {Q : VK}
    (hw : ∀ (v : V) (σ : L2.St) (H : Hp) (Q : L2.St → Hp → Prop), rdG K X0 fg v (L2.wipe σ own) H Q → tg v (L2.wipe σ own) H fun (σ2 : L2.St) H2 => L2.wipe σ2 own = L2.wipe σ own ∧ Q σ2 H2)
    (hw1 : ∀ (v : V) (σ : L2.St) (H : Hp) (Q : L2.St → Hp → Prop), rdG K X0 fg1 v (L2.wipe σ vs1) H Q → tg1 v (L2.wipe σ vs1) H fun (σ2 : L2.St) H2 => L2.wipe σ2 vs1 = L2.wipe σ vs1 ∧ Q σ2 H2)
    (h : rdE K Ξ (eLc2 own vs1 it fg ft (iT fq) fg1 ft1 fe) σ H Q) : tLc2 (rdI K Ξ it) tg (rdT K X0 ft) (L2.iTup K (rdE K X0 fq)) tg1 (rdT K X0 ft1) (rdE K X0 fe) own vs1 σ H Q := by
  obtain ⟨g, s, m, em, sr, q⟩ := h
  refine ⟨g, s, m, em, sr, QR.bind q fun p hp q1 g1 H1 J x1 e1 wk => ?_⟩
  obtain ⟨xs, m1⟩ := p
  intro D hD
  have q1' : QE K Ξ g1 H1 Q ((lc2L fg ft (iT fq) vs1 fg1 ft1 fe (TT.wipe s own) xs m1 []).bind fun p => Rs.ok (PV.vl p.1, p.2)) := QE.later x1 q1
  have e0 := e1.other (o := .lst []) (fun n => e1.free hD n) (e1.freeR hD) (fun xs h => by rcases h with h | ⟨ob, h⟩ <;> rw [hD] at h <;> cases h) (tabs_new e1.tab hD)
  have nL : ∀ {zs : List V}, NT (.lst zs) := fun ps z => nomatch z
  refine ⟨fun i n H => ∃ g m acc ws, Ext g1 H1 g H ∧ Emb K g m H ∧ Sr K g H (TT.wipe s own) (L2.wipe σ own) ∧ H D = some (.lst ws) ∧ Rps K g H acc ws ∧ (∀ n, g.φ n ≠ some D) ∧ g.ro D = none ∧ n = xs.length - i ∧
      QE K Ξ g1 H1 Q ((lc2L fg ft (iT fq) vs1 fg1 ft1 fe (TT.wipe s own) (xs.drop i) m acc).bind fun p => Rs.ok (PV.vl p.1, p.2)), ⟨xs.length, g1, m1, [], [], (Ext.refl _ _).other hD, e0.1, sr_of_rp e0.2 ((sr.ext em x1).wipe own), upd_same, .nil, fun n => e1.free hD n, e1.freeR hD, by simp, by simpa using q1'⟩, ?_⟩
  rintro i n H2 ⟨g2, m2, acc, ws, x2, e2, r2, hD2, ra, f1, f2, rfl, q2⟩
  by_cases hlt : i < xs.length
  · obtain ⟨h1, h2⟩ := wk.go g2 m2 H2 i x2 e2 hlt
    refine .inr ⟨h1, fun H' => ∃ g m acc ws, Ext g1 H1 g H' ∧ Emb K g m H' ∧ Sr K g H' (TT.wipe s own) (L2.wipe σ own) ∧ H' D = some (.lst ws) ∧ Rps K g H' acc ws ∧ (∀ n, g.φ n ≠ some D) ∧ g.ro D = none ∧
      QE K Ξ g1 H1 Q ((lc2L fg ft (iT fq) vs1 fg1 ft1 fe (TT.wipe s own) (xs.drop (i + 1)) m acc).bind fun p => Rs.ok (PV.vl p.1, p.2)), ?_, ?_⟩
    · rintro H' ⟨g', m', acc', ws', hx, he, hr, hd, ha, hf1, hf2, hq⟩
      exact ⟨xs.length - (i + 1), by omega, g', m', acc', ws', hx, he, hr, hd, ha, hf1, hf2, rfl, hq⟩
    · intro x H3 hy
      obtain ⟨g3, v, x3, e3, hv, rv⟩ := h2 x H3 hy
      have hd : xs.drop i = v :: xs.drop (i + 1) := by
        rw [List.drop_eq_getElem_cons hlt]
        rw [List.getElem?_eq_getElem hlt] at hv
        cases hv; rfl
      rw [hd] at q2
      simp only [lc2L] at q2
      rw [reb] at q2
      have r3 := r2.ext e2 x3
      have a3 := ra.ext e2 x3
      have d3 := x3.fr _ _ hD2 f1 nL
      have f13 := x3.old _ _ hD2 f1 nL
      have f23 := x3.oldr _ _ hD2 f1 nL f2
      have xx3 := x2.trans x3
      refine hw x σ H3 _ ⟨g3, _, m2, v, e3, r3, rv, QR.nxAt q2 fun p4 hp4 q4 g4 H4 σ4 x4 e4 r4 => ?_⟩
      obtain ⟨s4, m4⟩ := p4
      simp only at q4
      rw [reb] at q4
      have a4 := a3.ext e3 x4
      have d4 := x4.fr _ _ d3 f13 nL
      have f14 := x4.old _ _ d3 f13 nL
      have f24 := x4.oldr _ _ d3 f13 nL f23
      have w4 := r3.ext e3 x4
      have xx4 := xx3.trans x4
      refine ⟨g4, s4, m4, e4, r4, QR.nxAt q4 fun p5 hp5 q5 g5 H5 x5 e5 => ?_⟩
      obtain ⟨k, m5⟩ := p5
      have a5 := a4.ext e4 x5
      have d5 := x5.fr _ _ d4 f14 nL
      have f15 := x5.old _ _ d4 f14 nL
      have f25 := x5.oldr _ _ d4 f14 nL f24
      have w5 := w4.ext e4 x5
      have r5 := r4.ext e4 x5
      have xx5 := xx4.trans x5
      cases k with
      | false =>
        refine iteF ⟨g5, m5, acc, ws, xx5, e5, w5, d5, a5, f15, f25, ?_⟩
        simpa using q5
      | true =>
        simp only [if_true] at q5
        rw [reb] at q5
        have q5' : QE K Ξ g1 H1 Q ((fq s4 m5).nx.bind fun p => (match p.1 with
          | .tup ys => ((lcL fg1 ft1 fe (TT.wipe s4 vs1) ys p.2 acc).bind fun a => lc2L fg ft (iT fq) vs1 fg1 ft1 fe (TT.wipe s own) (xs.drop (i + 1)) a.2 a.1).bind fun p => Rs.ok (PV.vl p.1, p.2)
          | _ => .no)) := by
          have e : (iT fq s4 m5).nx = (fq s4 m5).nx.bind fun p => (match p.1 with
            | .tup ys => Rs.ok (ys, p.2)
            | _ => .no) := by
            unfold iT
            cases fq s4 m5 with
            | ok p =>
              obtain ⟨v, m⟩ := p
              cases v <;> rfl
            | ex e m => rfl
            | no => rfl
          rw [e, reb] at q5
          have e2 : ∀ (r : Rs (PV × Mm)) (k : List PV × Mm → Rs (PV × Mm)), (r.nx.bind fun a => (match a.1 with | .tup ys => Rs.ok (ys, a.2) | _ => .no).bind k) = r.nx.bind fun p => (match p.1 with | .tup ys => k (ys, p.2) | _ => .no) := fun r k => by
            congr 1
            funext p
            obtain ⟨v, m⟩ := p
            cases v <;> rfl
          rw [e2] at q5
          exact q5
        refine iteT ⟨g5, s4, m5, e5, r5, QR.nxAt q5' fun p6 hp6 q6 g6 H6 V6 x6 e6 rv6 => ?_⟩
        obtain ⟨v6, m6⟩ := p6
        obtain ⟨ys, rfl⟩ : ∃ ys, v6 = .tup ys := by
          cases v6 with
          | tup ys => exact ⟨ys, rfl⟩
          | _ => exact q6.elim
        simp only at q6
        obtain ⟨ta, tvs, rfl, hta, hrs⟩ := rv6.tup_inv
        refine ⟨ta, rfl, ⟨tvs, hta⟩, ?_⟩
        rw [reb] at q6
        have a6 := a5.ext e5 x6
        have d6 := x6.fr _ _ d5 f15 nL
        have f16 := x6.old _ _ d5 f15 nL
        have f26 := x6.oldr _ _ d5 f15 nL f25
        have w6 := w5.ext e5 x6
        have r6 := (r5.ext e5 x6).wipe vs1
        have xx6 := xx5.trans x6
        refine ⟨fun j n H => ∃ g m acc ws, Rp K g H (.tup ys) (.ref ta) ∧ Ext g1 H1 g H ∧ Emb K g m H ∧ Sr K g H (TT.wipe s own) (L2.wipe σ own) ∧ Sr K g H (TT.wipe s4 vs1) (L2.wipe σ4 vs1) ∧ H D = some (.lst ws) ∧ Rps K g H acc ws ∧ (∀ n, g.φ n ≠ some D) ∧ g.ro D = none ∧ n = ys.length - j ∧
            QE K Ξ g1 H1 Q ((lcL fg1 ft1 fe (TT.wipe s4 vs1) (ys.drop j) m acc).bind fun a => (lc2L fg ft (iT fq) vs1 fg1 ft1 fe (TT.wipe s own) (xs.drop (i + 1)) a.2 a.1).bind fun p => Rs.ok (PV.vl p.1, p.2)), ⟨ys.length, g6, m6, acc, ws, rv6, xx6, e6, w6, r6, d6, a6, f16, f26, by simp, by simpa using q6⟩, ?_⟩
        rintro j n H7 ⟨g7, m7, acc7, ws7, y7, xx7, e7, w7, r7, d7, a7, f17, f27, rfl, q7⟩
        by_cases hlt1 : j < ys.length
        · obtain ⟨ta', vs7, hz, ht7, rs7⟩ := y7.tup_inv
          cases hz
          have hlv : j < vs7.length := by rw [← rs7.length]; exact hlt1
          refine .inr ⟨⟨vs7, vs7[j], ht7, List.getElem?_eq_getElem hlv⟩, fun H => ∃ g m acc ws, Rp K g H (.tup ys) (.ref ta) ∧ Ext g1 H1 g H ∧ Emb K g m H ∧ Sr K g H (TT.wipe s own) (L2.wipe σ own) ∧ Sr K g H (TT.wipe s4 vs1) (L2.wipe σ4 vs1) ∧ H D = some (.lst ws) ∧ Rps K g H acc ws ∧ (∀ n, g.φ n ≠ some D) ∧ g.ro D = none ∧
            QE K Ξ g1 H1 Q ((lcL fg1 ft1 fe (TT.wipe s4 vs1) (ys.drop (j + 1)) m acc).bind fun a => (lc2L fg ft (iT fq) vs1 fg1 ft1 fe (TT.wipe s own) (xs.drop (i + 1)) a.2 a.1).bind fun p => Rs.ok (PV.vl p.1, p.2)), ?_, ?_⟩
          · rintro H' ⟨g', m', acc', ws', hy', hx, he, hr, hr1, hd, ha, hf1, hf2, hq⟩
            exact ⟨ys.length - (j + 1), by omega, g', m', acc', ws', hy', hx, he, hr, hr1, hd, ha, hf1, hf2, rfl, hq⟩
          · intro y H8 hy8'
            obtain ⟨hH, hy8⟩ := hy8'
            subst hH
            obtain ⟨v8, hv8, rv8⟩ := rs7.get' (hy8 vs7 ht7)
            have hd8 : ys.drop j = v8 :: ys.drop (j + 1) := by
              rw [List.drop_eq_getElem_cons hlt1]
              rw [List.getElem?_eq_getElem hlt1] at hv8
              cases hv8; rfl
            rw [hd8] at q7
            simp only [lcL] at q7
            rw [reb] at q7
            refine hw1 y σ4 H8 _ ⟨g7, _, m7, v8, e7, r7, rv8, QR.nxAt q7 fun p9 hp9 q9 g9 H9 σ9 x9 e9 r9 => ?_⟩
            obtain ⟨s9, m9⟩ := p9
            simp only at q9
            rw [reb] at q9
            have w9 := w7.ext e7 x9
            have v9 := r7.ext e7 x9
            have a9 := a7.ext e7 x9
            have d9 := x9.fr _ _ d7 f17 nL
            have f19 := x9.old _ _ d7 f17 nL
            have f29 := x9.oldr _ _ d7 f17 nL f27
            have y9 := y7.ext e7 x9
            have xx9 := xx7.trans x9
            refine ⟨g9, s9, m9, e9, r9, QR.nxAt q9 fun p10 hp10 q10 g10 H10 x10 e10 => ?_⟩
            obtain ⟨k10, m10⟩ := p10
            have w10 := w9.ext e9 x10
            have v10 := v9.ext e9 x10
            have a10 := a9.ext e9 x10
            have d10 := x10.fr _ _ d9 f19 nL
            have f110 := x10.old _ _ d9 f19 nL
            have f210 := x10.oldr _ _ d9 f19 nL f29
            have y10 := y9.ext e9 x10
            have xx10 := xx9.trans x10
            cases k10 with
            | false =>
              refine iteF ⟨g10, m10, acc7, ws7, y10, xx10, e10, w10, v10, d10, a10, f110, f210, ?_⟩
              simpa using q10
            | true =>
              simp only [if_true] at q10
              rw [reb] at q10
              refine iteT ⟨g10, s9, m10, e10, r9.ext e9 x10, QR.nxAt q10 fun p11 hp11 q11 g11 H11 z x11 e11 rz => ?_⟩
              obtain ⟨pv, m11⟩ := p11
              simp only at q11
              have w11 := w10.ext e10 x11
              have v11 := v10.ext e10 x11
              have a11 := a10.ext e10 x11
              have d11 := x11.fr _ _ d10 f110 nL
              have f111 := x11.old _ _ d10 f110 nL
              have f211 := x11.oldr _ _ d10 f110 nL f210
              have y11 := y10.ext e10 x11
              have xx11 := xx10.trans x11
              by_cases hl : acc7.length < LINE
              · rw [if_pos hl] at q11
                have hno : ∀ xs, ¬ Rd H11 D (.tup xs) := fun xs h => by rcases h with h | ⟨ob, h⟩ <;> rw [d11] at h <;> cases h
                have e12 := e11.other (o := .lst (ws7 ++ [z])) f111 f211 hno (tabs_wr e11.tab d11 nL (fun _ z => nomatch z))
                exact ⟨ws7, d11, by rw [← a7.length]; exact line_lt hl, g11, m11, acc7 ++ [pv], ws7 ++ [z], e12.2 y11, xx11.other hD, e12.1, sr_of_rp e12.2 w11, sr_of_rp e12.2 v11, upd_same, rps_of_rp e12.2 (a11.append (.cons rz .nil)), f111, f211, q11⟩
              · rw [if_neg hl] at q11
                exact q11.elim
        · have hle1 : ys.length ≤ j := Nat.le_of_not_lt hlt1
          obtain ⟨ta', vs7, hz, ht7, rs7⟩ := y7.tup_inv
          cases hz
          refine .inl ⟨⟨vs7, ht7, by rw [← rs7.length]; exact hle1⟩, ?_⟩
          rw [List.drop_of_length_le hle1] at q7
          exact ⟨g7, m7, acc7, ws7, xx7, e7, w7, d7, a7, f17, f27, q7⟩
  · have hle : xs.length ≤ i := Nat.le_of_not_lt hlt
    refine .inl ⟨wk.stop g2 m2 H2 i x2 e2 hle, ?_⟩
    rw [List.drop_of_length_le hle] at q2
    exact lc_done hD x2 e2 hD2 ra f1 f2 q2
theorem rd_lc2N {own : List Nat} {it : SI} {i i1 : Nat} {ft ft1 : ST} {fq fe : SE} (hi : i ∈ own) {σ : L2.St} {H : Hp} {Q : VK}
    (h : rdE K Ξ (eLc2 own [i1] it (TT.gName i) ft (iT fq) (TT.gName i1) ft1 fe) σ H Q) : tLc2 (rdI K Ξ it) (L2.gName i) (rdT K X0 ft) (L2.iTup K (rdE K X0 fq)) (L2.gName i1) (rdT K X0 ft1) (rdE K X0 fe) own [i1] σ H Q :=
  rd_lc2 (fun v σ H Q ⟨g, s, m, pv, em, sr, rv, q⟩ => ⟨wipe_set hi, q g H _ (Ext.refl _ _) em (sr.set rv i)⟩)
    (fun v σ H Q ⟨g, s, m, pv, em, sr, rv, q⟩ => ⟨wipe_set (List.mem_singleton.mpr rfl), q g H _ (Ext.refl _ _) em (sr.set rv i1)⟩) h
end
section
variable {X : Cx} {Ξ : XC} {ft ft1 : ST}
theorem se_lc2 {elt iter iter1 : Expr} {ifs ifs1 : List Expr} {scope : Scope} {own : List (Str × Nat)} {oi : List Nat} {x x1 : Str} {px px1 pos : Pos} {it : SI} (i i1 : Nat) {fq fe : SE} (hc : X.calm = true) (hN : X.N.Nodup) (hi : PI X (.Name x px) iter (rdI X.kw Ξ it)) (ok : BlkOk X.N X.env.scope scope own)
    (hg : ∀ (s : Shared) (H : Hp) (C : Addr) (cl : List (Str × Addr)) (fp : List Addr), PG (X.blk s H scope (compEnvC scope cl C X.env) fp) (.Name x px) (L2.gName i)) (ht : ∀ (s : Shared) (H : Hp) (C : Addr) (cl : List (Str × Addr)) (fp : List Addr), PTs (X.blk s H scope (compEnvC scope cl C X.env) fp) ifs (rdT X.kw X0 ft))
    (hi1 : ∀ (s : Shared) (H : Hp) (C : Addr) (cl : List (Str × Addr)) (fp : List Addr), PE (X.blk s H scope (compEnvC scope cl C X.env) fp) iter1 (rdE X.kw X0 fq))
    (hg1 : ∀ (s : Shared) (H : Hp) (C : Addr) (cl : List (Str × Addr)) (fp : List Addr), PG (X.blk s H scope (compEnvC scope cl C X.env) fp) (.Name x1 px1) (L2.gName i1)) (ht1 : ∀ (s : Shared) (H : Hp) (C : Addr) (cl : List (Str × Addr)) (fp : List Addr), PTs (X.blk s H scope (compEnvC scope cl C X.env) fp) ifs1 (rdT X.kw X0 ft1))
    (he : ∀ (s : Shared) (H : Hp) (C : Addr) (cl : List (Str × Addr)) (fp : List Addr), PE (X.blk s H scope (compEnvC scope cl C X.env) fp) elt (rdE X.kw X0 fe)) (hs : ∀ x, foldedSetIterable iter X.env x = pure x := by intro _; rfl) (hs1 : ∀ env x, foldedSetIterable iter1 env x = pure x := by intro _ _; rfl) (ho : own.map (·.2) = oi := by rfl) (hm : i ∈ own.map (·.2) := by decide) (hm1 : i1 ∈ own.map (·.2) := by decide) :
    PE X (.ListComp elt [⟨.Name x px, iter, ifs, 0⟩, ⟨.Name x1 px1, iter1, ifs1, 0⟩] scope pos) (rdE X.kw Ξ (eLc2 oi [i1] it (TT.gName i) ft (iT fq) (TT.gName i1) ft1 fe)) := by
  subst ho
  exact PE_imp (pe_lc2 (vs1 := [i1]) hc hN hi ok (fun j hj => by cases List.mem_singleton.mp hj; exact hm1) hg ht (fun s H C cl fp => pi_tup (hi1 s H C cl fp)) hg1 ht1 he hs hs1) fun σ H Q h => rd_lc2N hm h
theorem ss_setLc2 {elt iter iter1 : Expr} {ifs ifs1 : List Expr} {scope : Scope} {own : List (Str × Nat)} {oi : List Nat} {x x1 y : Str} {px px1 py pos spos : Pos} {it : SI} (iy i i1 : Nat) {fq fe : SE} (hc : X.calm = true) (hN : X.N.Nodup) (hi : PI X (.Name x px) iter (rdI X.kw Ξ it)) (ok : BlkOk X.N X.env.scope scope own)
    (hg : ∀ (s : Shared) (H : Hp) (C : Addr) (cl : List (Str × Addr)) (fp : List Addr), PG (X.blk s H scope (compEnvC scope cl C X.env) fp) (.Name x px) (L2.gName i)) (ht : ∀ (s : Shared) (H : Hp) (C : Addr) (cl : List (Str × Addr)) (fp : List Addr), PTs (X.blk s H scope (compEnvC scope cl C X.env) fp) ifs (rdT X.kw X0 ft))
    (hi1 : ∀ (s : Shared) (H : Hp) (C : Addr) (cl : List (Str × Addr)) (fp : List Addr), PE (X.blk s H scope (compEnvC scope cl C X.env) fp) iter1 (rdE X.kw X0 fq))
    (hg1 : ∀ (s : Shared) (H : Hp) (C : Addr) (cl : List (Str × Addr)) (fp : List Addr), PG (X.blk s H scope (compEnvC scope cl C X.env) fp) (.Name x1 px1) (L2.gName i1)) (ht1 : ∀ (s : Shared) (H : Hp) (C : Addr) (cl : List (Str × Addr)) (fp : List Addr), PTs (X.blk s H scope (compEnvC scope cl C X.env) fp) ifs1 (rdT X.kw X0 ft1))
    (he : ∀ (s : Shared) (H : Hp) (C : Addr) (cl : List (Str × Addr)) (fp : List Addr), PE (X.blk s H scope (compEnvC scope cl C X.env) fp) elt (rdE X.kw X0 fe)) (hsw : swapsWith (.ListComp elt [⟨.Name x px, iter, ifs, 0⟩, ⟨.Name x1 px1, iter1, ifs1, 0⟩] scope pos) (some (.Name y py)) spos.line X.env = pure true)
    (hy : X.N[iy]? = some y := by rfl) (hyl : X.env.scope.names.lookup y = some .local := by rfl) (hs : ∀ x, foldedSetIterable iter X.env x = pure x := by intro _; rfl) (hs1 : ∀ env x, foldedSetIterable iter1 env x = pure x := by intro _ _; rfl) (ho : own.map (·.2) = oi := by rfl) (hm : i ∈ own.map (·.2) := by decide) (hm1 : i1 ∈ own.map (·.2) := by decide) :
    PS X (.Assign [.Name y py] (.ListComp elt [⟨.Name x px, iter, ifs, 0⟩, ⟨.Name x1 px1, iter1, ifs1, 0⟩] scope pos) spos) (rdS X.kw Ξ (sAsg (eLc2 oi [i1] it (TT.gName i) ft (iT fq) (TT.gName i1) ft1 fe) (TT.gName iy))) := by
  subst ho
  exact PS_imp (ps_setLc2 (vs1 := [i1]) hc hN hy hyl hsw hi ok (fun j hj => by cases List.mem_singleton.mp hj; exact hm1) hg ht (fun s H C cl fp => pi_tup (hi1 s H C cl fp)) hg1 ht1 he hs hs1) fun D σ H ⟨g, s, m, em, sr, q⟩ => by
    refine rd_lc2N (Ξ := Ξ) hm ⟨g, s, m, em, sr, QR.bind q fun p hp q1 g1 H1 V x1 e1 r1 => ?_⟩
    exact QS_nx e1 ((sr.ext em x1).set r1 iy) (QS.later x1 q1)
end
end TT
end

section
set_option Elab.async false
set_option linter.all false
set_option autoImplicit false
set_option maxRecDepth 100000
namespace TT
def c_PARTS : PV := .tup [.str [107, 101, 101, 112], .str [114, 101, 112, 108, 121], .str [115, 116, 114, 105, 99, 116], .str [108, 101, 101, 119, 97, 121], .str [115, 112, 97, 114, 101], .str [101, 118, 101, 114, 121], .str [111, 108, 100]]
def c_CHOICES : PV := .tup [.tup [.int 0, .int 1, .int 2], .tup [.str [110, 101, 119], .str [115, 97, 109, 101]], .tup [.bl false, .bl true], .tup [.non, .int 0, .int 1, .int 2], .tup [.non, .int 0, .int 1, .int 2], .tup [.int 1, .int 2, .int 3], .tup [.str [101, 110, 100], .str [114, 101, 102, 117, 115, 101]]]
def c_FAULTS : PV := .tup [.str [45], .str [126]]
def c_SAFE : PV := .tup [.str [33], .str [43], .str [46, 46]]
def c_TICK : PV := .str [46, 46]
def c_HOLDERS : PV := .str [97, 98]
def c_MOST_EVENTS : PV := .int 40
def s_is_choice : SS :=
  (sSeq (sIf (tV (e1 (oIs false .non) (eVar 0))) (sRet (e2 (oIn false) (eC .non) (eVar 1))) sSkip)
  (sSeq (sIf (tT (e1 (oIsA .tStr) (eVar 0))) (sRet (e2 (oIn false) (eVar 0) (eLc [2] (iT (eVar 1)) (TT.gName 2) (tT (e1 (oIsA .tStr) (eVar 2))) (eVar 2)))) sSkip)
  (sSeq (sIf (tT (e1 (oIsA .tBool) (eVar 0))) (sRet (e2 (oIn false) (eVar 0) (eLc [2] (iT (eVar 1)) (TT.gName 2) (tT (e1 (oIsA .tBool) (eVar 2))) (eVar 2)))) sSkip)
  (sSeq (sIf (tNot (tT (e1 (oIsA .tInt) (eVar 0)))) (sRet (eC (.bl false))) sSkip)
  (sRet (e2 (oIn false) (eVar 0) (eLc [2] (iT (eVar 1)) (TT.gName 2) (tAnd (tT (e1 (oIsA .tInt) (eVar 2))) (tNot (tT (e1 (oIsA .tBool) (eVar 2))))) (eVar 2))))))))
def f_is_choice : PF := bodyP 3 2 s_is_choice
def s_first_stand : SS :=
  (sSeq (sAsg (eSlH (eC (.int 5)) (eVar 0)) (TT.gTup [1, 2, 3, 4, 5]))
  (sSeq (sAsg (eIf (tV (e1 (oIs false .non) (eVar 4))) (eTup aNil) (e2 oMul (eTup (aCons (e2 oAdd (eVar 4) (eC (.int 1))) aNil)) (eVar 1))) (TT.gName 6))
  (sRet (eTup (aCons (eC (.bl false)) (aCons (eIf (tT (eVar 3)) (eC (.int 1)) (eC (.int 0))) (aCons (eVar 6) (aCons (eIf (tV (e1 (oIs false .non) (eVar 5))) (eC (.int 0)) (eVar 5)) (aCons (eC (.int 0)) aNil)))))))))
def f_first_stand : PF := bodyP 7 1 s_first_stand
def s_is_good : SS :=
  (sSeq (sAsg (eSlH (eC (.int 5)) (eVar 0)) (TT.gTup [3, 4, 5, 6, 7]))
  (sSeq (sIf (tT (e2 oIx (eVar 1) (eC (.int 0)))) (sRet (eC (.bl false))) sSkip)
  (sSeq (sIf (tV (e2 oEq (eVar 2) (eC (.int 0)))) (sRet (eC (.bl true))) sSkip)
  (sSeq (sIf (tOr (tV (e2 oGt (eVar 2) (eVar 3))) (tAnd (tT (eVar 5)) (tV (e2 oGt (eVar 2) (e2 oIx (eVar 1) (eC (.int 1))))))) (sRet (eC (.bl false))) sSkip)
  (sSeq (sIf (tAnd (tV (e1 (oIs true .non) (eVar 6))) (tV (e2 oGt (e2 oIx (e2 oIx (eVar 1) (eC (.int 2))) (e2 oSub (eVar 2) (eC (.int 1)))) (eVar 6)))) (sRet (eC (.bl false))) sSkip)
  (sRet (eOr (e1 (oIs false .non) (eVar 7)) (e2 oGt (e2 oIx (eVar 1) (eC (.int 3))) (eC (.int 0))))))))))
def f_is_good : PF := bodyP 8 3 s_is_good
def s_with_token : SS :=
  (sRet (eTup (aCons (eC (.bl false)) (aCons (eIf (tT (e2 oIx (eVar 0) (eC (.int 2)))) (eN fMin (aCons (eN fInt (aCons (e2 oAdd (eVar 1) (eC (.int 1))) aNil)) (aCons (eN fInt (aCons (e2 oAdd (e2 oIx (eVar 0) (eC (.int 0))) (eC (.int 1))) aNil)) aNil))) (eC (.int 0))) (aCons (eSlH (eN fLen (aCons (eVar 2) aNil)) (e2 oAdd (eTup (aCons (eC (.int 0)) aNil)) (eVar 2))) (aCons (eVar 3) (aCons (eVar 4) aNil)))))))
def f_with_token : PF := bodyP 5 5 s_with_token
def s_ticked : SS :=
  (sSeq (sAsg (e2 oIx (eVar 0) (eC (.int 3))) (TT.gName 2))
  (sSeq (sIf (tOr (tV (e1 (oIs false .non) (eVar 2))) (tT (e2 oIx (eVar 1) (eC (.int 0))))) (sRet (eVar 1)) sSkip)
  (sRet (eTup (aCons (eC (.bl false)) (aCons (e2 oIx (eVar 1) (eC (.int 1))) (aCons (eN fTuple (aCons (eLc [3] (iT (e2 oIx (eVar 1) (eC (.int 2)))) (TT.gName 3) tYes (eN fMin (aCons (eN fInt (aCons (e2 oAdd (eVar 3) (eC (.int 1))) aNil)) (aCons (eN fInt (aCons (e2 oAdd (eVar 2) (eC (.int 1))) aNil)) aNil)))) aNil)) (aCons (e2 oIx (eVar 1) (eC (.int 3))) (aCons (e2 oIx (eVar 1) (eC (.int 4))) aNil)))))))))
def f_ticked : PF := bodyP 4 2 s_ticked
def s_older : SS :=
  (sSeq (sIf (tOr (tV (e1 (oIs false .non) (eVar 1))) (tV (e2 oNe (eVar 2) (eC (.str [109, 97, 100, 101]))))) (sRet (eVar 1)) sSkip)
  (sRet (eN fMin (aCons (eN fInt (aCons (e2 oAdd (eVar 1) (eC (.int 1))) aNil)) (aCons (eN fInt (aCons (e2 oAdd (e2 oIx (eVar 0) (eC (.int 0))) (eC (.int 1))) aNil)) aNil)))))
def f_older : PF := bodyP 3 3 s_older
def s_is_event : SS :=
  (sSeq (sIf (tNot (tT (e1 (oIsA .tStr) (eVar 0)))) (sRet (eC (.bl false))) sSkip)
  (sSeq (sIf (tV (e2 (oIn false) (eVar 0) (eTup (aCons (eC c_TICK) (aCons (eC (.str [97, 98])) (aCons (eC (.str [98, 97])) aNil)))))) (sRet (eC (.bl true))) sSkip)
  (sRet (eAnd (e2 oEq (eN fLen (aCons (eVar 0) aNil)) (eC (.int 2))) (eAnd (e2 (oIn false) (e2 oIx (eVar 0) (eC (.int 0))) (eC c_HOLDERS)) (e2 (oIn false) (e2 oIx (eVar 0) (eC (.int 1))) (eC (.str [33, 45, 126, 43]))))))))
def f_is_event : PF := bodyP 1 1 s_is_event
def s_law_bag : SS :=
  (sSeq (sAsg (eC (.int 0)) (TT.gName 2))
  (sSeq (sIf (tV (e2 oLt (eVar 1) (eN fLen (aCons (eVar 0) aNil)))) (sAsg (e2 oMod (eN fInt (aCons (e2 oIx (eVar 0) (eVar 1)) aNil)) (e2 oPow (eC (.int 10)) (eC (.int 60)))) (TT.gName 2)) sSkip)
  (sSeq (sAsg (e2 oAdd (e2 oMul (e2 oMod (eN fInt (aCons (eVar 2) aNil)) (eC (.int 2147483629))) (eC (.int 16807))) (e2 oMul (e2 oMul (eC (.int 40009)) (eVar 1)) (eVar 1))) (TT.gName 3))
  (sSeq (sAsg (e2 oAdd (eC (.int 1)) (e2 oMod (eN fInt (aCons (e2 oAdd (e2 oAdd (eVar 3) (e2 oMul (eC (.int 7919)) (eVar 1))) (eC (.int 1009))) aNil)) (eC (.int 2147483645)))) (TT.gName 4))
  (sSeq (sIf (tV (e2 oLt (eVar 2) (e2 oPow (eC (.int 10)) (eC (.int 18))))) (sRet (eLstM (aCons (eC (.int 0)) (aCons (eVar 4) aNil)))) sSkip)
  (sRet (eLstM (aCons (eVar 2) (aCons (eVar 4) aNil)))))))))
def i_law_bag : IF := bodyI 5 2 s_law_bag
def s_law_take : SS :=
  (sSeq (sIf (tV (e2 oGt (e2 oIx (eVar 0) (eC (.int 0))) (eC (.int 0)))) (sSeq (sAsg (e2 oMod (eN fInt (aCons (e2 oIx (eVar 0) (eC (.int 0))) aNil)) (eVar 1)) (TT.gName 2))
  (sSeq (sAsg (e2 oFDiv (eN fInt (aCons (e2 oIx (eVar 0) (eC (.int 0))) aNil)) (eVar 1)) (TT.gSub (eVar 0) (eC (.int 0))))
  (sRet (eVar 2)))) sSkip)
  (sSeq (sAsg (e2 oMod (eN fInt (aCons (e2 oMul (e2 oIx (eVar 0) (eC (.int 1))) (eC (.int 48271))) aNil)) (eC (.int 2147483647))) (TT.gSub (eVar 0) (eC (.int 1))))
  (sSeq (sAsg (e2 oMul (e2 oFDiv (eN fInt (aCons (e2 oIx (eVar 0) (eC (.int 1))) aNil)) (eC (.int 13))) (e2 oAdd (e2 oMod (eN fInt (aCons (e2 oIx (eVar 0) (eC (.int 1))) aNil)) (eC (.int 32749))) (eC (.int 17)))) (TT.gName 3))
  (sRet (e2 oMod (eN fInt (aCons (e2 oFDiv (e2 oMod (eN fInt (aCons (eVar 3) aNil)) (eC (.int 2147483629))) (eC (.int 32))) aNil)) (eVar 1))))))
def i_law_take : IF := bodyI 4 2 s_law_take
def s_law_server : SS :=
  (sRet (eLstM (aCons (eC (.int 0)) (aCons (e1 oNeg (eC (.int 1))) (aCons (eLst (aCons (eC (.int 0)) aNil)) (aCons (eC (.int 0)) (aCons (e2 oIx (eVar 0) (eC (.int 4))) (aCons (eC (.int 0)) (aCons (eC (.bl false)) aNil)))))))))
def i_law_server : IF := bodyI 1 1 s_law_server
def s_law_accepts : SS :=
  (sSeq (sIf (tT (e2 oIx (eVar 1) (eC (.int 6)))) (sRet (eC (.bl false))) sSkip)
  (sSeq (sIf (tV (e2 oEq (eVar 2) (e2 oIx (eVar 1) (eC (.int 0))))) (sRet (eC (.bl true))) sSkip)
  (sSeq (sIf (tOr (tV (e2 oGt (e2 oSub (e2 oIx (eVar 1) (eC (.int 0))) (eVar 2)) (e2 oIx (eVar 0) (eC (.int 0))))) (tAnd (tT (e2 oIx (eVar 0) (eC (.int 2)))) (tV (e2 oLt (eVar 2) (e2 oIx (eVar 1) (eC (.int 1))))))) (sRet (eC (.bl false))) sSkip)
  (sSeq (sIf (tAnd (tV (e1 (oIs true .non) (e2 oIx (eVar 0) (eC (.int 3))))) (tV (e2 oGt (e2 oSub (e2 oIx (eVar 1) (eC (.int 3))) (e2 oIx (e2 oIx (eVar 1) (eC (.int 2))) (e2 oAdd (eVar 2) (eC (.int 1))))) (e2 oIx (eVar 0) (eC (.int 3)))))) (sRet (eC (.bl false))) sSkip)
  (sRet (eOr (e1 (oIs false .non) (e2 oIx (eVar 0) (eC (.int 4)))) (e2 oGt (e2 oIx (eVar 1) (eC (.int 4))) (eC (.int 0)))))))))
def i_law_accepts : IF := bodyI 3 3 s_law_accepts
def s_law_key : SS :=
  (sSeq (sIf (tT (e2 oIx (eVar 1) (eC (.int 6)))) (sRet (eTup (aCons (eC (.str [111, 118, 101, 114])) aNil))) sSkip)
  (sSeq (sAsg (eLstM aNil) (TT.gName 2))
  (sSeq (sFor (TT.iRng1 (e2 oIx (eVar 0) (eC (.int 0)))) (TT.gName 3) (sIf (tV (e1 (oIs true .non) (e2 oIx (eVar 0) (eC (.int 3))))) (sSeq (sAsg (eIf (tV (e2 oGt (e2 oIx (eVar 1) (eC (.int 0))) (eVar 3))) (e2 oSub (e2 oIx (eVar 1) (eC (.int 3))) (e2 oIx (e2 oIx (eVar 1) (eC (.int 2))) (e2 oSub (e2 oIx (eVar 1) (eC (.int 0))) (eVar 3)))) (e2 oAdd (e2 oIx (eVar 0) (eC (.int 3))) (eC (.int 1)))) (TT.gName 4))
  (sExpr (eM .list mAppend (eVar 2) (aCons (eN fMin (aCons (eN fInt (aCons (eVar 4) aNil)) (aCons (eN fInt (aCons (e2 oAdd (e2 oIx (eVar 0) (eC (.int 3))) (eC (.int 1))) aNil)) aNil))) aNil)))) sSkip))
  (sSeq (sAsg (eIf (tT (e2 oIx (eVar 0) (eC (.int 2)))) (eN fMin (aCons (eN fInt (aCons (e2 oSub (e2 oIx (eVar 1) (eC (.int 0))) (e2 oIx (eVar 1) (eC (.int 1)))) aNil)) (aCons (eN fInt (aCons (e2 oAdd (e2 oIx (eVar 0) (eC (.int 0))) (eC (.int 1))) aNil)) aNil))) (eC (.int 0))) (TT.gName 5))
  (sRet (eTup (aCons (eVar 5) (aCons (eN fTuple (aCons (eVar 2) aNil)) (aCons (e2 oIx (eVar 1) (eC (.int 4))) (aCons (eIf (tV (e1 (oIs true .non) (e2 oIx (eVar 0) (eC (.int 4))))) (e2 oIx (eVar 1) (eC (.int 5))) (eC (.int 0))) aNil))))))))))
def f_law_key : PF := bodyP 6 2 s_law_key
def s_law_old : SS :=
  (sRet (eIf (tV (e1 (oIs false .non) (eVar 2))) (eC .non) (eN fMin (aCons (eN fInt (aCons (e2 oSub (e2 oIx (eVar 1) (eC (.int 0))) (eVar 2)) aNil)) (aCons (eN fInt (aCons (e2 oAdd (e2 oIx (eVar 0) (eC (.int 0))) (eC (.int 1))) aNil)) aNil)))))
def f_law_old : PF := bodyP 3 3 s_law_old
def s_law_copied : SS :=
  (sSeq (sAsg (eVar 0) (TT.gUnp [1, 2, 3]))
  (sRet (eLstM (aCons (e2 oAddM (e2 oAdd (eSlH (eC (.int 2)) (eVar 1)) (eLst (aCons (eN fList (aCons (e2 oIx (eVar 1) (eC (.int 2))) aNil)) aNil))) (eSlL (eC (.int 3)) (eVar 1))) (aCons (eN fListM (aCons (eVar 2) aNil)) (aCons (eN fListM (aCons (eVar 3) aNil)) aNil))))))
def i_law_copied : IF := bodyI 4 1 s_law_copied
def s_is_rule : SS :=
  (sSeq (sIf (tOr (tNot (tT (e1 (oIsA .tTup) (eVar 0)))) (tV (e2 oNe (eN fLen (aCons (eVar 0) aNil)) (eN fLen (aCons (eC c_PARTS) aNil))))) (sRet (eC (.bl false))) sSkip)
  (sRet (eN fAll (aCons (eLc [1, 2] (iZip (eVar 0) (eC c_CHOICES)) (TT.gTup [1, 2]) tYes (eN (cP f_is_choice) (aCons (eVar 1) (aCons (eVar 2) aNil)))) aNil))))
def f_is_rule : PF := bodyP 3 1 s_is_rule
def s_requested : SS :=
  (sSeq (sIf (tNot (tT (eN (cP f_is_good) (aCons (eVar 0) (aCons (eVar 1) (aCons (eVar 2) aNil)))))) (sRet (eTup (aCons (e2 oAdd (eTup (aCons (eOr (e2 oIx (eVar 1) (eC (.int 0))) (e2 oEq (e2 oIx (eVar 0) (eC (.int 6))) (eC (.str [101, 110, 100])))) aNil)) (eSlL (eC (.int 1)) (eVar 1))) (aCons (eC (.str [114, 101, 102, 117, 115, 101, 100])) aNil)))) sSkip)
  (sSeq (sAsg (eVar 1) (TT.gTup [3, 4, 5, 6, 7]))
  (sSeq (sPar2 8 9 (aCons (e2 oIx (eVar 0) (eC (.int 4))) (aCons (e2 oIx (eVar 0) (eC (.int 5))) aNil)))
  (sSeq (sIf (tV (e2 oEq (eVar 2) (eC (.int 0)))) (sSeq (sIf (tV (e1 (oIs true .non) (eVar 8))) (sSeq (sAsg (e2 oMod (e2 oAdd (eVar 7) (eC (.int 1))) (eVar 9)) (TT.gName 7))
  (sAsg (eN fMin (aCons (eN fInt (aCons (eVar 8) aNil)) (aCons (eN fInt (aCons (e2 oAdd (eVar 6) (eN fInt (aCons (e2 oEq (eVar 7) (eC (.int 0))) aNil))) aNil)) aNil))) (TT.gName 6))) sSkip)
  (sRet (eTup (aCons (eN (cP f_with_token) (aCons (eVar 0) (aCons (eC (.int 0)) (aCons (eVar 5) (aCons (eVar 6) (aCons (eVar 7) aNil)))))) (aCons (eC (.str [109, 97, 100, 101])) aNil))))) sSkip)
  (sSeq (sAsg (eN fMin (aCons (eN fInt (aCons (eVar 4) aNil)) (aCons (eN fInt (aCons (eVar 2) aNil)) aNil))) (TT.gName 4))
  (sSeq (sAsg (eIf (tV (e1 (oIs false .non) (eVar 8))) (eC (.int 0)) (e2 oSub (eVar 6) (eC (.int 1)))) (TT.gName 6))
  (sSeq (sIf (tV (e2 oEq (e2 oIx (eVar 0) (eC (.int 1))) (eC (.str [115, 97, 109, 101])))) (sRet (eTup (aCons (eTup (aCons (eC (.bl false)) (aCons (eVar 4) (aCons (eVar 5) (aCons (eVar 6) (aCons (eVar 7) aNil)))))) (aCons (eC (.str [110, 101, 119, 101, 115, 116])) aNil)))) sSkip)
  (sRet (eTup (aCons (eN (cP f_with_token) (aCons (eVar 0) (aCons (eVar 4) (aCons (eVar 5) (aCons (eVar 6) (aCons (eVar 7) aNil)))))) (aCons (eC (.str [109, 97, 100, 101])) aNil)))))))))))
def f_requested : PF := bodyP 10 3 s_requested
def s_first_node : SS :=
  (sRet (eTup (aCons (eN (cP f_first_stand) (aCons (eVar 0) aNil)) (aCons (eC (.int 0)) (aCons (eC .non) aNil)))))
def f_first_node : PF := bodyP 1 1 s_first_node
def s_is_history : SS :=
  (sSeq (sIf (tOr (tNot (tT (e1 (oIsA .tTup) (eVar 0)))) (tV (e2 oGt (eN fLen (aCons (eVar 0) aNil)) (eC c_MOST_EVENTS)))) (sRet (eC (.bl false))) sSkip)
  (sSeq (sAsg (eLstM (aCons (eC (.bl true)) (aCons (eC (.bl false)) aNil))) (TT.gName 1))
  (sSeq (sAsg (eLstM (aCons (eC (.bl false)) (aCons (eC (.bl false)) aNil))) (TT.gName 2))
  (sSeq (sFor (iT (eVar 0)) (TT.gName 3) (sSeq (sIf (tNot (tT (eN (cP f_is_event) (aCons (eVar 3) aNil)))) (sRet (eC (.bl false))) sSkip)
  (sSeq (sIf (tV (e2 oEq (eVar 3) (eC c_TICK))) sCont sSkip)
  (sSeq (sAsg (eM .str mIndexS (eC c_HOLDERS) (aCons (e2 oIx (eVar 3) (eC (.int 0))) aNil)) (TT.gName 4))
  (sSeq (sIf (tOr (tNot (tT (e2 oIx (eVar 1) (eVar 4)))) (tAnd (tV (e2 oEq (e2 oIx (eVar 3) (eC (.int 1))) (eC (.str [43])))) (tNot (tT (e2 oIx (eVar 2) (eVar 4)))))) (sRet (eC (.bl false))) sSkip)
  (sIf (tV (e2 (oIn false) (e2 oIx (eVar 3) (eC (.int 1))) (eC c_HOLDERS))) (sSeq (sAsg (eC (.bl true)) (TT.gSub (eVar 1) (e2 oSub (eC (.int 1)) (eVar 4))))
  (sAsg (eC (.bl false)) (TT.gSub (eVar 2) (e2 oSub (eC (.int 1)) (eVar 4))))) (sIf (tV (e2 (oIn false) (e2 oIx (eVar 3) (eC (.int 1))) (eC (.str [126, 43])))) (sAsg (e2 oEq (e2 oIx (eVar 3) (eC (.int 1))) (eC (.str [126]))) (TT.gSub (eVar 2) (eVar 4))) sSkip)))))))
  (sRet (eC (.bl true)))))))
def f_is_history : PF := bodyP 5 1 s_is_history
def s_law_of : SS :=
  (sRet (e2 oIx (eVar 1) (eN (cI i_law_take) (aCons (eVar 0) (aCons (eN fLen (aCons (eVar 1) aNil)) aNil)))))
def i_law_of : IF := bodyI 2 2 s_law_of
def s_law_asked : SS :=
  (sSeq (sIf (tNot (tT (eN (cI i_law_accepts) (aCons (eVar 0) (aCons (eVar 1) (aCons (eVar 2) aNil)))))) (sSeq (sAsg (eOr (e2 oIx (eVar 1) (eC (.int 6))) (e2 oEq (e2 oIx (eVar 0) (eC (.int 6))) (eC (.str [101, 110, 100])))) (TT.gSub (eVar 1) (eC (.int 6))))
  (sRet (eC .non))) sSkip)
  (sSeq (sAsg (e2 oEq (eVar 2) (e2 oIx (eVar 1) (eC (.int 0)))) (TT.gName 3))
  (sSeq (sIf (tOr (tT (eVar 3)) (tV (e2 oEq (e2 oIx (eVar 0) (eC (.int 1))) (eC (.str [110, 101, 119]))))) (sSeq (sAsg (e2 oAdd (e2 oIx (eVar 1) (eC (.int 0))) (eC (.int 1))) (TT.gSub (eVar 1) (eC (.int 0))))
  (sAsg (e2 oAdd (e2 oIx (eVar 1) (eC (.int 2))) (eLst (aCons (e2 oIx (eVar 1) (eC (.int 3))) aNil))) (TT.gSub (eVar 1) (eC (.int 2))))) sSkip)
  (sSeq (sAsg (eN fMax (aCons (eN fInt (aCons (e2 oIx (eVar 1) (eC (.int 1))) aNil)) (aCons (eN fInt (aCons (eVar 2) aNil)) aNil))) (TT.gSub (eVar 1) (eC (.int 1))))
  (sSeq (sIf (tNot (tT (eVar 3))) (sSeq (sAsg (eIf (tV (e1 (oIs false .non) (e2 oIx (eVar 0) (eC (.int 4))))) (eC .non) (e2 oSub (e2 oIx (eVar 1) (eC (.int 4))) (eC (.int 1)))) (TT.gSub (eVar 1) (eC (.int 4))))
  (sRet (e2 oIx (eVar 1) (eC (.int 0))))) sSkip)
  (sSeq (sAsg (e2 oAdd (e2 oIx (eVar 1) (eC (.int 5))) (eC (.int 1))) (TT.gSub (eVar 1) (eC (.int 5))))
  (sSeq (sIf (tV (e2 oEq (e2 oIx (eVar 1) (eC (.int 5))) (e2 oIx (eVar 0) (eC (.int 5))))) (sSeq (sAsg (eC (.int 0)) (TT.gSub (eVar 1) (eC (.int 5))))
  (sAsg (eIf (tV (e1 (oIs false .non) (e2 oIx (eVar 0) (eC (.int 4))))) (eC .non) (eN fMin (aCons (eN fInt (aCons (e2 oIx (eVar 0) (eC (.int 4))) aNil)) (aCons (eN fInt (aCons (e2 oAdd (e2 oIx (eVar 1) (eC (.int 4))) (eC (.int 1))) aNil)) aNil)))) (TT.gSub (eVar 1) (eC (.int 4))))) sSkip)
  (sRet (e2 oIx (eVar 1) (eC (.int 0)))))))))))
def i_law_asked : IF := bodyI 4 3 s_law_asked
def s_law_world : SS :=
  (sRet (eLstM (aCons (eN (cI i_law_server) (aCons (eVar 0) aNil)) (aCons (eLstM (aCons (eC (.int 0)) (aCons (eC .non) aNil))) (aCons (eLstM (aCons (eC .non) (aCons (eC .non) aNil))) aNil)))))
def i_law_world : IF := bodyI 1 1 s_law_world
def f_law_world : PF := bodyP 1 1 s_law_world
def s_law_node : SS :=
  (sSeq (sAsg (eVar 1) (TT.gUnp [2, 3, 4]))
  (sSeq (sAsg (eLstM (aCons (eN (cP f_law_key) (aCons (eVar 0) (aCons (eVar 2) aNil))) aNil)) (TT.gName 5))
  (sSeq (sFor (TT.iRng1 (eC (.int 2))) (TT.gName 6) (sSeq (sExpr (eM .list mAppend (eVar 5) (aCons (eN (cP f_law_old) (aCons (eVar 0) (aCons (eVar 2) (aCons (e2 oIx (eVar 3) (eVar 6)) aNil)))) aNil)))
  (sIf (tOr (tV (e1 (oIs false .non) (e2 oIx (eVar 4) (eVar 6)))) (tV (e1 (oIs false .non) (e2 oIx (e2 oIx (eVar 4) (eVar 6)) (eC (.int 1)))))) (sExpr (eM .list mAppend (eVar 5) (aCons (eC .non) aNil))) (sExpr (eM .list mAppend (eVar 5) (aCons (eTup (aCons (eN (cP f_law_old) (aCons (eVar 0) (aCons (eVar 2) (aCons (e2 oIx (e2 oIx (eVar 4) (eVar 6)) (eC (.int 1))) aNil)))) (aCons (e2 oEq (e2 oIx (e2 oIx (eVar 4) (eVar 6)) (eC (.int 0))) (e2 oIx (eVar 3) (eVar 6))) aNil))) aNil))))))
  (sRet (eN fTuple (aCons (eVar 5) aNil))))))
def f_law_node : PF := bodyP 7 2 s_law_node
def s_need_rule : SS :=
  (sIf (tNot (tT (eN (cP f_is_rule) (aCons (eVar 0) aNil)))) sNever sSkip)
def f_need_rule : PF := bodyP 1 1 s_need_rule
def s_alone : SS :=
  (sSeq (sAsg (eVar 1) (TT.gTup [3, 4, 5]))
  (sSeq (sIf (tV (e2 oEq (eVar 2) (eC (.str [46, 46])))) (sRet (eTup (aCons (eC (.bl false)) (aCons (eTup (aCons (eN (cP f_ticked) (aCons (eVar 0) (aCons (eVar 3) aNil))) (aCons (eVar 4) (aCons (eVar 5) aNil)))) aNil)))) sSkip)
  (sSeq (sIf (tV (e2 oEq (eVar 2) (eC (.str [43])))) (sRet (eTup (aCons (eC (.bl false)) (aCons (eTup (aCons (eVar 3) (aCons (eIf (tV (e1 (oIs false .non) (eVar 5))) (eVar 4) (eVar 5)) (aCons (eC .non) aNil)))) aNil)))) sSkip)
  (sSeq (sAsg (eN (cP f_requested) (aCons (eVar 0) (aCons (eVar 3) (aCons (eVar 4) aNil)))) (TT.gTup [6, 7]))
  (sSeq (sIf (tV (e2 oEq (eVar 7) (eC (.str [114, 101, 102, 117, 115, 101, 100])))) (sRet (eTup (aCons (eC (.bl true)) (aCons (eTup (aCons (eVar 6) (aCons (eVar 4) (aCons (eVar 5) aNil)))) aNil)))) sSkip)
  (sSeq (sIf (tV (e2 oEq (eVar 2) (eC (.str [33])))) (sRet (eTup (aCons (eC (.bl false)) (aCons (eTup (aCons (eVar 6) (aCons (eC (.int 0)) (aCons (eN (cP f_older) (aCons (eVar 0) (aCons (eVar 5) (aCons (eVar 7) aNil)))) aNil)))) aNil)))) sSkip)
  (sSeq (sAsg (eIf (tV (e2 oEq (eVar 2) (eC (.str [126])))) (eC (.int 0)) (eN (cP f_older) (aCons (eVar 0) (aCons (eVar 5) (aCons (eVar 7) aNil))))) (TT.gName 8))
  (sRet (eTup (aCons (eC (.bl false)) (aCons (eTup (aCons (eVar 6) (aCons (eN (cP f_older) (aCons (eVar 0) (aCons (eVar 4) (aCons (eVar 7) aNil)))) (aCons (eVar 8) aNil)))) aNil)))))))))))
def f_alone : PF := bodyP 9 3 s_alone
def s_law_rule : SS :=
  (sSeq (sAsg (eTup (aCons (eN (cI i_law_take) (aCons (eVar 0) (aCons (eC (.int 3)) aNil))) (aCons (eN (cI i_law_of) (aCons (eVar 0) (aCons (eLst (aCons (eC (.str [115, 97, 109, 101])) (aCons (eC (.str [110, 101, 119])) aNil))) aNil))) (aCons (e2 oEq (eN (cI i_law_take) (aCons (eVar 0) (aCons (eC (.int 2)) aNil))) (eC (.int 1))) aNil)))) (TT.gName 1))
  (sSeq (sAsg (eTup (aCons (eN (cI i_law_of) (aCons (eVar 0) (aCons (eLst (aCons (eC .non) (aCons (eC .non) (aCons (eC (.int 0)) (aCons (eC (.int 1)) (aCons (eC (.int 2)) aNil)))))) aNil))) (aCons (eN (cI i_law_of) (aCons (eVar 0) (aCons (eLst (aCons (eC .non) (aCons (eC .non) (aCons (eC (.int 0)) (aCons (eC (.int 1)) (aCons (eC (.int 2)) aNil)))))) aNil))) aNil))) (TT.gName 2))
  (sRet (e2 oAdd (e2 oAdd (eVar 1) (eVar 2)) (eTup (aCons (e2 oAdd (eC (.int 1)) (eN (cI i_law_take) (aCons (eVar 0) (aCons (eC (.int 3)) aNil)))) (aCons (eN (cI i_law_of) (aCons (eVar 0) (aCons (eLst (aCons (eC (.str [114, 101, 102, 117, 115, 101])) (aCons (eC (.str [101, 110, 100])) aNil))) aNil))) aNil)))))))
def i_law_rule : IF := bodyI 3 1 s_law_rule
def s_law_event : SS :=
  (sSeq (sAsg (eVar 1) (TT.gUnp [4, 5, 6]))
  (sSeq (sIf (tV (e2 oEq (eVar 2) (eC (.str [46, 46])))) (sSeq (sAsg (e2 oAdd (e2 oIx (eVar 4) (eC (.int 3))) (eC (.int 1))) (TT.gSub (eVar 4) (eC (.int 3))))
  (sRet (eC .non))) sSkip)
  (sSeq (sAsg (eM .str mIndexS (eC (.str [97, 98])) (aCons (e2 oIx (eVar 2) (eC (.int 0))) aNil)) (TT.gName 7))
  (sSeq (sIf (tV (e2 (oIn false) (eVar 2) (eLst (aCons (eC (.str [97, 98])) (aCons (eC (.str [98, 97])) aNil))))) (sSeq (sAsg (e2 oIx (eVar 5) (eVar 7)) (TT.gSub (eVar 5) (e2 oSub (eC (.int 1)) (eVar 7))))
  (sSeq (sAsg (eC .non) (TT.gSub (eVar 6) (e2 oSub (eC (.int 1)) (eVar 7))))
  (sRet (eC .non)))) sSkip)
  (sSeq (sAsg (e2 oIx (eVar 5) (eVar 7)) (TT.gName 8))
  (sSeq (sIf (tV (e2 oEq (e2 oIx (eVar 2) (eC (.int 1))) (eC (.str [43])))) (sSeq (sAsg (e2 oIx (eVar 6) (eVar 7)) (TT.gTup [9, 10]))
  (sSeq (sAsg (eC .non) (TT.gSub (eVar 6) (eVar 7)))
  (sSeq (sIf (tAnd (tV (e1 (oIs true .non) (eVar 10))) (tOr (tNot (tT (eVar 3))) (tV (e2 oEq (eVar 9) (eVar 8))))) (sAsg (eVar 10) (TT.gSub (eVar 5) (eVar 7))) sSkip)
  (sRet (eC .non))))) sSkip)
  (sSeq (sAsg (eN (cI i_law_asked) (aCons (eVar 0) (aCons (eVar 4) (aCons (eVar 8) aNil)))) (TT.gName 10))
  (sSeq (sIf (tAnd (tV (e2 oEq (e2 oIx (eVar 2) (eC (.int 1))) (eC (.str [33])))) (tV (e1 (oIs true .non) (eVar 10)))) (sAsg (eVar 10) (TT.gSub (eVar 5) (eVar 7))) sSkip)
  (sSeq (sIf (tV (e2 oEq (e2 oIx (eVar 2) (eC (.int 1))) (eC (.str [126])))) (sAsg (eTup (aCons (eVar 8) (aCons (eVar 10) aNil))) (TT.gSub (eVar 6) (eVar 7))) sSkip)
  (sRet (eTup (aCons (eVar 8) (aCons (eVar 10) aNil)))))))))))))
def i_law_event : IF := bodyI 11 4 s_law_event
def s_moved : SS :=
  (sSeq (sAsg (e2 oIx (eN (cP f_alone) (aCons (eVar 0) (aCons (eVar 1) (aCons (eVar 2) aNil)))) (eC (.int 1))) (TT.gName 4))
  (sRet (eIf (tAnd (tT (eVar 3)) (tV (e2 oEq (eVar 2) (eC (.str [33]))))) (e2 oAdd (eSlH (eC (.int 2)) (eVar 4)) (eTup (aCons (eC .non) aNil))) (eVar 4))))
def f_moved : PF := bodyP 5 4 s_moved
def s_law_easy : SS :=
  (sSeq (sAsg (eN (cI i_law_rule) (aCons (eVar 0) aNil)) (TT.gName 1))
  (sSeq (sIf (tOr (tV (e1 (oIs false .non) (e2 oIx (eVar 1) (eC (.int 3))))) (tV (e1 (oIs false .non) (e2 oIx (eVar 1) (eC (.int 4)))))) (sRet (eVar 1)) sSkip)
  (sRet (e2 oAdd (e2 oAdd (eSlH (eC (.int 3)) (eVar 1)) (eN (cI i_law_of) (aCons (eVar 0) (aCons (eLst (aCons (eTup (aCons (eC .non) (aCons (e2 oIx (eVar 1) (eC (.int 4))) aNil))) (aCons (eTup (aCons (e2 oIx (eVar 1) (eC (.int 3))) (aCons (eC .non) aNil))) aNil))) aNil)))) (eSlL (eC (.int 5)) (eVar 1))))))
def i_law_easy : IF := bodyI 2 1 s_law_easy
def s_law_course : SS :=
  (sSeq (sPar2 3 4 (aCons (eN (cI i_law_world) (aCons (eVar 0) aNil)) (aCons (eLstM aNil) aNil)))
  (sSeq (sFor (iT (eVar 1)) (TT.gName 5) (sExpr (eM .list mAppend (eVar 4) (aCons (eN (cI i_law_event) (aCons (eVar 0) (aCons (eVar 3) (aCons (eVar 5) (aCons (eVar 2) aNil))))) aNil))))
  (sRet (eTup (aCons (eVar 4) (aCons (eVar 3) aNil))))))
def i_law_course : IF := bodyI 6 3 s_law_course
def f_law_course : PF := bodyP 6 3 s_law_course
def s_law_try : SS :=
  (sSeq (sAsg (eN (cI i_law_copied) (aCons (eVar 1) aNil)) (TT.gName 4))
  (sSeq (sAsg (eN (cI i_law_event) (aCons (eVar 0) (aCons (eVar 4) (aCons (eVar 2) (aCons (eVar 3) aNil))))) (TT.gName 5))
  (sRet (eTup (aCons (eAnd (e1 (oIs true .non) (eVar 5)) (e1 (oIs false .non) (e2 oIx (eVar 5) (eC (.int 1))))) (aCons (eVar 4) aNil))))))
def f_law_try : PF := bodyP 6 4 s_law_try
def s_spread : SS :=
  (sSeq (sAsg (eLstM aNil) (TT.gName 4))
  (sSeq (sAsg eKNew (TT.gName 5))
  (sSeq (sAsg (eC (.int 0)) (TT.gName 6))
  (sSeq (sFor (iL (eVar 3)) (TT.gName 7) (sExpr (eM .list mAppend (eVar 4) (aCons (eVar 7) aNil))))
  (sSeq (sWhile (tV (e2 oLt (eVar 6) (eN fLen (aCons (eVar 4) aNil)))) (sSeq (sAsg (e2 oIx (eVar 4) (eVar 6)) (TT.gName 7))
  (sSeq (sAsg (e2 oAdd (eVar 6) (eC (.int 1))) (TT.gName 6))
  (sSeq (sIf (tOr (tV (e2 (oKIn2 false) (eVar 7) (eVar 2))) (tV (e2 (oKIn2 false) (eVar 7) (eVar 5)))) sCont sSkip)
  (sSeq (sAsg (eC (.bl true)) (gKSub (eVar 5) (eVar 7)))
  (sSeq (sIf (tT (e2 oIx (eN (cP f_alone) (aCons (eVar 0) (aCons (eVar 7) (aCons (eC (.str [33])) aNil)))) (eC (.int 0)))) (sRet (eTup (aCons (eVar 5) (aCons (eC (.bl true)) aNil)))) sSkip)
  (sFor (iT (eC c_SAFE)) (TT.gName 8) (sExpr (eM .list mAppend (eVar 4) (aCons (eN (cP f_moved) (aCons (eVar 0) (aCons (eVar 7) (aCons (eVar 8) (aCons (eVar 1) aNil))))) aNil))))))))))
  (sRet (eTup (aCons (eVar 5) (aCons (eC (.bl false)) aNil)))))))))
def i_spread : IF := bodyI 9 4 s_spread
def s_shortest : SS :=
  (sSeq (sPar3 3 4 5 (aCons (eLstM (aCons (eTup (aCons (eN (cP f_first_node) (aCons (eVar 0) aNil)) (aCons (eC (.int 0)) (aCons (eTup aNil) aNil)))) aNil)) (aCons eKNew (aCons (eC (.int 0)) aNil))))
  (sSeq (sWhile (tNot (tT (e2 oIx (eN (cP f_alone) (aCons (eVar 0) (aCons (e2 oIx (e2 oIx (eVar 3) (eVar 5)) (eC (.int 0))) (aCons (eC (.str [33])) aNil)))) (eC (.int 0))))) (sSeq (sAsg (e2 oIx (eVar 3) (eVar 5)) (TT.gTup [6, 7, 8]))
  (sSeq (sAsg (e2 oAdd (eVar 5) (eC (.int 1))) (TT.gName 5))
  (sFor (iT (e2 oAdd (eC c_SAFE) (eC c_FAULTS))) (TT.gName 9) (sSeq (sAsg (e2 oAdd (eVar 7) (eN fInt (aCons (e2 (oIn false) (eVar 9) (eC c_FAULTS)) aNil))) (TT.gName 10))
  (sIf (tAnd (tV (e2 oLe (eVar 10) (eVar 2))) (tOr (tV (e2 oNe (eVar 9) (eC (.str [43])))) (tV (e1 (oIs true .non) (e2 oIx (eVar 6) (eC (.int 2))))))) (sSeq (sAsg (eN (cP f_moved) (aCons (eVar 0) (aCons (eVar 6) (aCons (eVar 9) (aCons (eVar 1) aNil))))) (TT.gName 11))
  (sIf (tV (e2 oGt (eKGetD (eVar 4) (eVar 11) (e2 oAdd (eVar 2) (eC (.int 1)))) (eVar 10))) (sSeq (sAsg (eVar 10) (gKSub (eVar 4) (eVar 11)))
  (sExpr (eM .list mAppend (eVar 3) (aCons (eTup (aCons (eVar 11) (aCons (eVar 10) (aCons (e2 oAdd (eVar 8) (eTup (aCons (eIf (tV (e2 oEq (eVar 9) (eC (.str [46, 46])))) (eC (.str [46, 46])) (e2 oAdd (eC (.str [97])) (eVar 9))) aNil))) aNil)))) aNil)))) sSkip)) sSkip))))))
  (sRet (e2 oAdd (e2 oIx (e2 oIx (eVar 3) (eVar 5)) (eC (.int 2))) (eTup (aCons (eC (.str [97, 33])) aNil))))))
def f_shortest : PF := bodyP 12 3 s_shortest
def s_law_shortest : SS :=
  (sSeq (sAsg (eLst (aCons (eTup (aCons (eN (cP f_law_world) (aCons (eVar 0) aNil)) (aCons (eC (.int 0)) aNil))) aNil)) (TT.gName 3))
  (sSeq (sAsg eKNew (TT.gName 4))
  (sSeq (sFor (TT.iRng2 (eC (.int 1)) (eC (.int 40))) (TT.gName 5) (sSeq (sAsg (eLstM aNil) (TT.gName 6))
  (sSeq (sFor (iL (eVar 3)) (TT.gTup [7, 8]) (sSeq (sIf (tT (e2 oIx (eN (cP f_law_try) (aCons (eVar 0) (aCons (eVar 7) (aCons (eC (.str [97, 33])) (aCons (eVar 2) aNil))))) (eC (.int 0)))) (sRet (eVar 5)) sSkip)
  (sFor (iL (e2 oAdd (eLst (aCons (eC (.str [97, 33])) (aCons (eC (.str [46, 46])) (aCons (eC (.str [97, 45])) (aCons (eC (.str [97, 126])) aNil))))) (e2 oMul (eLst (aCons (eC (.str [97, 43])) aNil)) (eN fInt (aCons (e1 (oIs true .non) (e2 oIx (e2 oIx (eVar 7) (eC (.int 2))) (eC (.int 0)))) aNil))))) (TT.gName 9) (sSeq (sAsg (e2 oAdd (eVar 8) (eN fInt (aCons (e2 (oIn false) (eVar 9) (eLst (aCons (eC (.str [97, 45])) (aCons (eC (.str [97, 126])) aNil)))) aNil))) (TT.gName 10))
  (sIf (tV (e2 oLe (eVar 10) (eVar 1))) (sSeq (sAsg (e2 oIx (eN (cP f_law_try) (aCons (eVar 0) (aCons (eVar 7) (aCons (eVar 9) (aCons (eVar 2) aNil))))) (eC (.int 1))) (TT.gName 11))
  (sSeq (sAsg (eN (cP f_law_node) (aCons (eVar 0) (aCons (eVar 11) aNil))) (TT.gName 12))
  (sIf (tV (e2 oGt (eKGetD (eVar 4) (eVar 12) (e2 oAdd (eVar 1) (eC (.int 1)))) (eVar 10))) (sSeq (sAsg (eVar 10) (gKSub (eVar 4) (eVar 12)))
  (sExpr (eM .list mAppend (eVar 6) (aCons (eTup (aCons (eVar 11) (aCons (eVar 10) aNil))) aNil)))) sSkip))) sSkip)))))
  (sSeq (sFrz 6) (sAsg (eVar 6) (TT.gName 3))))))
  (sRet (eC .non)))))
def f_law_shortest : PF := bodyP 13 3 s_law_shortest
def s_fewest : SS :=
  (sSeq (sAsg eKNew (TT.gName 2))
  (sSeq (sPar2 3 4 (aCons (eLst (aCons (eN (cP f_first_node) (aCons (eVar 0) aNil)) aNil)) (aCons (eC (.int 0)) aNil)))
  (sSeq (sWhile (tV (e2 oNe (eVar 3) (eLst aNil))) (sSeq (sAsg (eN (cI i_spread) (aCons (eVar 0) (aCons (eVar 1) (aCons (eVar 2) (aCons (eVar 3) aNil))))) (TT.gTup [5, 6]))
  (sSeq (sIf (tT (eVar 6)) (sRet (eVar 4)) sSkip)
  (sSeq (sLock 5) (sSeq (sAsg (eLc2 [7, 8] [8] (iKl (eVar 5)) (TT.gName 7) tYes (iT (eC c_FAULTS)) (TT.gName 8) tYes (eN (cP f_moved) (aCons (eVar 0) (aCons (eVar 7) (aCons (eVar 8) (aCons (eVar 1) aNil)))))) (TT.gName 3))
  (sSeq (sFor (iKl (eVar 5)) (TT.gName 7) (sAsg (eC (.bl true)) (gKSub (eVar 2) (eVar 7))))
  (sAsg (e2 oAdd (eVar 4) (eC (.int 1))) (TT.gName 4))))))))
  (sRet (eC .non)))))
def f_fewest : PF := bodyP 9 2 s_fewest
def s_fewest_faults : SS :=
  (sSeq (sExpr (eN (cP f_need_rule) (aCons (eVar 0) aNil)))
  (sRet (eN (cP f_fewest) (aCons (eVar 0) (aCons (eVar 1) aNil)))))
def f_fewest_faults : PF := bodyP 2 2 s_fewest_faults
def s_fault_history : SS :=
  (sSeq (sExpr (eN (cP f_need_rule) (aCons (eVar 0) aNil)))
  (sSeq (sAsg (eN (cP f_fewest) (aCons (eVar 0) (aCons (eVar 1) aNil))) (TT.gName 2))
  (sRet (eIf (tV (e1 (oIs false .non) (eVar 2))) (eC .non) (eN (cP f_shortest) (aCons (eVar 0) (aCons (eVar 1) (aCons (eVar 2) aNil))))))))
def f_fault_history : PF := bodyP 3 2 s_fault_history
def s_law_right : SS :=
  (sSeq (sAsg (eNK (cP f_fewest_faults) (aCons (eVar 0) aNil) (aCons (eVar 1) aNil)) (TT.gName 3))
  (sSeq (sIf (tOr (tV (e1 (oIs false .non) (eVar 3))) (tV (e1 (oIs false .non) (eVar 2)))) (sRet (eAnd (e1 (oIs false .non) (eVar 3)) (e1 (oIs false .non) (eVar 2)))) sSkip)
  (sSeq (sIf (tNot (tT (eN (cP f_is_history) (aCons (eVar 2) aNil)))) (sRet (eC (.bl false))) sSkip)
  (sSeq (sIf (tV (e2 oNe (eLc [4] (iT (eVar 2)) (TT.gName 4) (tV (e2 (oIn true) (eVar 4) (eLst (aCons (eC (.str [97, 33])) (aCons (eC (.str [97, 45])) (aCons (eC (.str [97, 126])) (aCons (eC (.str [97, 43])) (aCons (eC (.str [46, 46])) aNil)))))))) (eVar 4)) (eLst aNil))) (sRet (eC (.bl false))) sSkip)
  (sSeq (sAsg (eLc [6] (iL (e2 oIx (eN (cP f_law_course) (aCons (eVar 0) (aCons (eVar 2) (aCons (eVar 1) aNil)))) (eC (.int 0)))) (TT.gName 6) (tV (e1 (oIs true .non) (eVar 6))) (eVar 6)) (TT.gName 5))
  (sSeq (sIf (tV (e2 oNe (eLc [6] (iL (eVar 5)) (TT.gName 6) tYes (e1 (oIs false .non) (e2 oIx (eVar 6) (eC (.int 1))))) (e2 oAdd (e2 oMul (eLst (aCons (eC (.bl false)) aNil)) (e2 oSub (eN fLen (aCons (eVar 5) aNil)) (eC (.int 1)))) (eLst (aCons (eC (.bl true)) aNil))))) (sRet (eC (.bl false))) sSkip)
  (sSeq (sIf (tV (e2 (oIn false) (e2 oIx (eVar 2) (e1 oNeg (eC (.int 1)))) (eLst (aCons (eC (.str [46, 46])) (aCons (eC (.str [97, 43])) aNil))))) (sRet (eC (.bl false))) sSkip)
  (sSeq (sIf (tV (e2 oNe (eN fLen (aCons (eLc [4] (iT (eVar 2)) (TT.gName 4) (tV (e2 (oIn false) (eVar 4) (eLst (aCons (eC (.str [97, 45])) (aCons (eC (.str [97, 126])) aNil))))) (eVar 4)) aNil)) (eVar 3))) (sRet (eC (.bl false))) sSkip)
  (sRet (e2 oEq (eN fLen (aCons (eVar 2) aNil)) (eN (cP f_law_shortest) (aCons (eVar 0) (aCons (eVar 3) (aCons (eVar 1) aNil))))))))))))))
def f_law_right : PF := bodyP 7 3 s_law_right
def s_law : SS :=
  (sSeq (sFor (TT.iRng1 (e2 oAdd (eN fMin (aCons (eN fLen (aCons (eVar 0) aNil)) (aCons (eC (.int 5)) aNil))) (eC (.int 1)))) (TT.gName 1) (sSeq (sAsg (eN (cI i_law_bag) (aCons (eVar 0) (aCons (eVar 1) aNil))) (TT.gName 2))
  (sSeq (sAsg (eN (cI i_law_easy) (aCons (eVar 2) aNil)) (TT.gName 3))
  (sFor (iL (eLst (aCons (eC (.bl false)) (aCons (eC (.bl true)) aNil)))) (TT.gName 4) (sIf (tNot (tT (eN (cP f_law_right) (aCons (eVar 3) (aCons (eVar 4) (aCons (eNK (cP f_fault_history) (aCons (eVar 3) aNil) (aCons (eVar 4) aNil)) aNil)))))) (sRet (eC (.bl false))) sSkip)))))
  (sRet (e2 oEq (eN fLen (aCons (eND (cP f_fault_history) (aCons (eTup (aCons (eC (.int 0)) (aCons (eC (.str [115, 97, 109, 101])) (aCons (eC (.bl false)) (aCons (eC .non) (aCons (eC .non) (aCons (eC (.int 1)) (aCons (eC (.str [101, 110, 100])) aNil)))))))) aNil) [(.bl false)]) aNil)) (eC (.int 2)))))
end TT
end

section
set_option linter.all false
set_option autoImplicit false
namespace TT
/-! the law's own helpers: a bag of draws -/
theorem take_ok {m : Mm} {b : Nat} {a s c : Int} (h : m[b]? = some (.lst [.int a, .int s])) (h0 : 0 < c) (h1 : c < 1073741824) :
    ∃ r a' s' : Int, 0 ≤ r ∧ r < c ∧ i_law_take [.ref b, .int c] m = .ok (.int r, m.set b (.lst [.int a', .int s'])) := by
  by_cases ha : 0 < a
  · refine ⟨a % c, a / c, s, Int.emod_nonneg _ (by omega), Int.emod_lt_of_pos _ h0, ?_⟩
    simp [i_law_take, bodyI, s_law_take, startS, oIx_ref h, oSet_ref h, atI, ixN, ha, oMod_int, oFDiv_int, h0, h1, endF]
  · have hm := getset1 (o' := .lst [.int a, .int (s * 48271 % 2147483647)]) h
    have w1 : ∀ i : Int, within64 (i % 32749 + 17) = true := fun i => by
      have := Int.emod_nonneg i (show (32749 : Int) ≠ 0 by decide)
      have := Int.emod_lt_of_pos i (show (0 : Int) < 32749 by decide)
      simp only [within64, Bool.and_eq_true, decide_eq_true_eq]
      omega
    have w2 : within64 48271 = true := by decide
    refine ⟨_, a, s * 48271 % 2147483647, Int.emod_nonneg _ (by omega), Int.emod_lt_of_pos (?_ : Int) h0, ?_⟩
    rotate_left
    · simp [i_law_take, bodyI, s_law_take, startS, oIx_ref h, oSet_ref h, atI, ixN, ha, oMod_int, oFDiv_int, h0, h1, endF, oMul_int, w2, oIx_ref hm, w1]
      rfl
theorem of_ok {m : Mm} {b : Nat} {a s : Int} {xs : List PV} (h : m[b]? = some (.lst [.int a, .int s])) (h0 : 0 < xs.length) (h1 : xs.length < 1073741824) :
    ∃ x ∈ xs, ∃ a' s' : Int, i_law_of [.ref b, .vl xs] m = .ok (x, m.set b (.lst [.int a', .int s'])) := by
  obtain ⟨r, a', s', r0, r1, e⟩ := take_ok (c := xs.length) h (by omega) (by omega)
  obtain ⟨x, hx, hat⟩ := atI_lt r0 r1
  refine ⟨x, hx, a', s', ?_⟩
  simp [i_law_of, bodyI, s_law_of, startS, cI, e, oIx_vl hat, endF]
theorem bag_ok {m : Mm} {xs : List PV} {k : Int} (hk : 0 ≤ k) (hk2 : k < 1000) (hx : ∀ x ∈ xs, ∃ i, x = .int i) :
    ∃ a s : Int, i_law_bag [.fz xs, .int k] m = .ok (.ref m.length, m ++ [.lst [.int a, .int s]]) := by
  have w1 : within64 16807 = true := by decide
  have w2 : within64 40009 = true := by decide
  have w3 : within64 k = true := by simp only [within64, Bool.and_eq_true, decide_eq_true_eq]; omega
  have w4 : within64 7919 = true := by decide
  obtain ⟨M, p3, p1⟩ : ∃ M : Int, 0 < M ∧ oPow (.int 10) (.int 60) m = .ok (.int M, m) := ⟨10 ^ 60, by decide, rfl⟩
  obtain ⟨L, p4, p2⟩ : ∃ M : Int, 0 < M ∧ oPow (.int 10) (.int 18) m = .ok (.int M, m) := ⟨10 ^ 18, by decide, rfl⟩
  by_cases h : k < xs.length
  · obtain ⟨x, hm, hat⟩ := atI_lt hk h
    obtain ⟨i, rfl⟩ := hx x hm
    by_cases hc : i % M < L
    · simp only [i_law_bag, bodyI, s_law_bag]
      simp [startS, h, oIx_fz hat, p1, p2, p3, oMod_int, oMul_int, w1, w2, w3, w4, hc, endF]
    · simp only [i_law_bag, bodyI, s_law_bag]
      simp [startS, h, oIx_fz hat, p1, p2, p3, oMod_int, oMul_int, w1, w2, w3, w4, hc, endF]
  · simp only [i_law_bag, bodyI, s_law_bag]
    simp [startS, h, p1, p2, p3, oMod_int, oMul_int, w1, w2, w3, w4, p4, endF]

/-- a rule, as the law draws it -/
structure Rule where
  keep : Int
  new : Bool
  strict : Bool
  leeway : Option Int
  spare : Option Int
  every : Int
  fin : Bool
def encO : Option Int → PV
  | none => .non
  | some i => .int i
def sSame : List Nat := [115, 97, 109, 101]
def sNew : List Nat := [110, 101, 119]
def sRefuse : List Nat := [114, 101, 102, 117, 115, 101]
def sEnd : List Nat := [101, 110, 100]
def Rule.parts (R : Rule) : List PV := [.int R.keep, .str (if R.new then sNew else sSame), .bl R.strict, encO R.leeway, encO R.spare, .int R.every, .str (if R.fin then sEnd else sRefuse)]
def Rule.enc (R : Rule) : PV := .tup R.parts
structure Rule.Ok (R : Rule) : Prop where
  keep : 0 ≤ R.keep ∧ R.keep ≤ 2
  leeway : R.leeway = none ∨ ∃ i, R.leeway = some i ∧ 0 ≤ i ∧ i ≤ 2
  spare : R.spare = none ∨ ∃ i, R.spare = some i ∧ 0 ≤ i ∧ i ≤ 2
  every : 1 ≤ R.every ∧ R.every ≤ 3
theorem menu2 {x : PV} {u v : List Nat} (h : x ∈ [PV.str u, PV.str v]) : ∃ k : Bool, x = .str (if k then v else u) := by
  simp only [List.mem_cons, List.mem_nil_iff, or_false] at h
  rcases h with h | h
  · exact ⟨false, by simp [h]⟩
  · exact ⟨true, by simp [h]⟩
theorem menuO {x : PV} (h : x ∈ [PV.non, PV.non, PV.int 0, PV.int 1, PV.int 2]) : ∃ o : Option Int, x = encO o ∧ (o = none ∨ ∃ i, o = some i ∧ 0 ≤ i ∧ i ≤ 2) := by
  simp only [List.mem_cons, List.mem_nil_iff, or_false] at h
  rcases h with h | h | h | h | h
  · exact ⟨none, h, .inl rfl⟩
  · exact ⟨none, h, .inl rfl⟩
  · exact ⟨some 0, h, .inr ⟨0, rfl, by decide, by decide⟩⟩
  · exact ⟨some 1, h, .inr ⟨1, rfl, by decide, by decide⟩⟩
  · exact ⟨some 2, h, .inr ⟨2, rfl, by decide, by decide⟩⟩
theorem rule_ok {m : Mm} {b : Nat} {a s : Int} (h : m[b]? = some (.lst [.int a, .int s])) :
    ∃ R : Rule, R.Ok ∧ ∃ a' s' : Int, i_law_rule [.ref b] m = .ok (R.enc, m.set b (.lst [.int a', .int s'])) := by
  obtain ⟨r0, a0, s0, p0, q0, e0⟩ := take_ok (c := 3) h (by decide) (by decide)
  have h0 := getset1 (o' := .lst [.int a0, .int s0]) h
  obtain ⟨x1, m1, a1, s1, e1⟩ := of_ok (xs := [.str sSame, .str sNew]) h0 (by decide) (by decide)
  have h1 := getset1 (o' := .lst [.int a1, .int s1]) h0
  obtain ⟨r2, a2, s2, p2, q2, e2⟩ := take_ok (c := 2) h1 (by decide) (by decide)
  have h2 := getset1 (o' := .lst [.int a2, .int s2]) h1
  obtain ⟨x3, m3, a3, s3, e3⟩ := of_ok (xs := [.non, .non, .int 0, .int 1, .int 2]) h2 (by decide) (by decide)
  have h3 := getset1 (o' := .lst [.int a3, .int s3]) h2
  obtain ⟨x4, m4, a4, s4, e4⟩ := of_ok (xs := [.non, .non, .int 0, .int 1, .int 2]) h3 (by decide) (by decide)
  have h4 := getset1 (o' := .lst [.int a4, .int s4]) h3
  obtain ⟨r5, a5, s5, p5, q5, e5⟩ := take_ok (c := 3) h4 (by decide) (by decide)
  have h5 := getset1 (o' := .lst [.int a5, .int s5]) h4
  obtain ⟨x6, m6, a6, s6, e6⟩ := of_ok (xs := [.str sRefuse, .str sEnd]) h5 (by decide) (by decide)
  obtain ⟨k1, rfl⟩ := menu2 m1
  obtain ⟨o3, rfl, f3⟩ := menuO m3
  obtain ⟨o4, rfl, f4⟩ := menuO m4
  obtain ⟨k6, rfl⟩ := menu2 m6
  simp only [List.set_set] at e0 e1 e2 e3 e4 e5 e6
  refine ⟨⟨r0, k1, r2 == 1, o3, o4, 1 + r5, k6⟩, ⟨⟨p0, by show r0 ≤ 2; omega⟩, f3, f4, ⟨by show 1 ≤ 1 + r5; omega, by show 1 + r5 ≤ 3; omega⟩⟩, a6, s6, ?_⟩
  simp only [i_law_rule, bodyI, s_law_rule]
  simp only [sSame, sNew, sRefuse, sEnd] at e1 e6 ⊢
  simp [startS, cI, e0, e1, e2, e3, e4, e5, e6, oAdd_tup, LINE, endF, Rule.enc, Rule.parts, sSame, sNew, sRefuse, sEnd]
end TT
end

section
set_option linter.all false
set_option autoImplicit false
namespace TT
/-! ### the program's stands, typed -/
structure Stand where
  over : Bool
  lead : Int
  ages : List Int
  spared : Int
  counted : Int
  deriving DecidableEq
def Stand.items (st : Stand) : List PV := [.bl st.over, .int st.lead, .tup (st.ages.map .int), .int st.spared, .int st.counted]
def Stand.enc (st : Stand) : PV := .tup st.items
def lwOk (o : Option Int) (x : Int) : Bool := match o with
  | none => true
  | some l => decide (x ≤ l)
namespace Rule
def first (R : Rule) : Stand := ⟨false, if R.strict then 1 else 0, match R.leeway with | none => [] | some l => List.replicate R.keep.toNat (l + 1), R.spare.getD 0, 0⟩
def good (R : Rule) (st : Stand) (o : Int) : Bool :=
  !st.over && (o == 0 || (decide (o ≤ R.keep) && (!R.strict || decide (o ≤ st.lead)) && lwOk R.leeway ((st.ages[(o - 1).toNat]?).getD 0) && (R.spare.isNone || decide (0 < st.spared))))
def withTok (R : Rule) (lead : Int) (ages : List Int) (spared counted : Int) : Stand :=
  ⟨false, if R.strict then (if R.keep + 1 < lead + 1 then R.keep + 1 else lead + 1) else 0, (0 :: ages).take ages.length, spared, counted⟩
inductive Kind where
  | refused | made | newest
def Kind.code : Kind → List Nat
  | .refused => [114, 101, 102, 117, 115, 101, 100]
  | .made => [109, 97, 100, 101]
  | .newest => [110, 101, 119, 101, 115, 116]
def req (R : Rule) (st : Stand) (o : Int) : Stand × Kind :=
  if R.good st o then
    if o = 0 then
      match R.spare with
      | none => (R.withTok 0 st.ages st.spared st.counted, .made)
      | some s => let c := (st.counted + 1) % R.every
        let k := st.spared + b2i (c == 0)
        (R.withTok 0 st.ages (if k < s then k else s) c, .made)
    else
      let lead := if o < st.lead then o else st.lead
      let spared := match R.spare with | none => 0 | some _ => st.spared - 1
      if R.new then (R.withTok lead st.ages spared st.counted, .made) else (⟨false, lead, st.ages, spared, st.counted⟩, .newest)
  else ({ st with over := st.over || R.fin }, .refused)
def tick (R : Rule) (st : Stand) : Stand := match R.leeway with
  | none => st
  | some l => if st.over then st else ⟨false, st.lead, st.ages.map fun a => if l + 1 < a + 1 then l + 1 else a + 1, st.spared, st.counted⟩
def answer (R : Rule) (st : Stand) (newest tok : Int) : Stand × Int × Option Int :=
  let o := if R.keep + 1 < newest - tok then R.keep + 1 else newest - tok
  match R.req st o with
  | (a, .refused) => (a, newest, none)
  | (a, .made) => (a, newest + 1, some (newest + 1))
  | (a, .newest) => (a, newest, some newest)
end Rule
theorem pus_ints : ∀ xs : List Int, pus (xs.map .int) = true
  | [] => rfl
  | x :: xs => by simp [pus_ints xs]
theorem pus_comp {f : Int → Int} (xs : List Int) : pus (xs.map (PV.int ∘ f)) = true := by rw [← List.map_map]; exact pus_ints _
theorem pus_rep (i : Int) : ∀ n : Nat, pus (List.replicate n (PV.int i)) = true
  | 0 => rfl
  | n + 1 => by rw [List.replicate_succ]; simp [pus_rep i n]
theorem enc_pu (R : Rule) : R.enc.pu = true := by
  have eo : ∀ o : Option Int, (encO o).pu = true := fun o => by cases o <;> rfl
  simp [Rule.enc, Rule.parts, eo]
theorem stand_pu (st : Stand) : st.enc.pu = true := by simp [Stand.enc, Stand.items, pus_ints]
theorem encO_non (o : Option Int) (m : Mm) : oIs false .non (encO o) m = .ok (.bl o.isNone, m) := by cases o <;> rfl
theorem encO_nnon (o : Option Int) (m : Mm) : oIs true .non (encO o) m = .ok (.bl o.isSome, m) := by cases o <;> rfl
theorem first_ok {R : Rule} (ok : R.Ok) : f_first_stand [R.enc] = .ok (R.first).enc := by
  obtain ⟨keep, new, strict, leeway, spare, every, fin⟩ := R
  have k0 := ok.keep.1
  have k2 := ok.keep.2
  simp only at k0 k2
  have sl : ∀ m, oSlice none (some 5) (Rule.enc ⟨keep, new, strict, leeway, spare, every, fin⟩) m = .ok (.tup [.int keep, .str (if new then sNew else sSame), .bl strict, encO leeway, encO spare], m) := fun m => rfl
  have mul : ∀ (i : Int) m, oMul (.tup [.int i]) (.int keep) m = .ok (.tup ((List.replicate keep.toNat i).map .int), m) := fun i m => by
    unfold oMul
    simp only [look_tup]
    rw [if_pos (by simp; omega)]
    congr 2
    simp [rep]
  simp only [f_first_stand, bodyP, bodyI, s_first_stand, startS]
  have pr : ∀ v : PV, v.pu = true → ∀ m, Rs.ofO (frz 4 m v) = .ok v := fun v h m => by rw [frz_pu h]; rfl
  cases leeway <;> cases spare <;> cases strict <;> simp [sl, encO, mul, endF, Rule.first, Stand.enc, Stand.items, pus_ints, pus_rep, frz_pu]
theorem good_ok {R : Rule} {st : Stand} {o : Int} (h : st.over = false → o ≠ 0 → o ≤ R.keep → ∀ l, R.leeway = some l → 1 ≤ o ∧ o ≤ st.ages.length) : f_is_good [R.enc, st.enc, .int o] = .ok (.bl (R.good st o)) := by
  obtain ⟨keep, new, strict, leeway, spare, every, fin⟩ := R
  obtain ⟨over, lead, ages, spared, counted⟩ := st
  have sl : ∀ m, oSlice none (some 5) (Rule.enc ⟨keep, new, strict, leeway, spare, every, fin⟩) m = .ok (.tup [.int keep, .str (if new then sNew else sSame), .bl strict, encO leeway, encO spare], m) := fun m => rfl
  have i0 : ∀ m, oIx (Stand.enc ⟨over, lead, ages, spared, counted⟩) (.int 0) m = .ok (.bl over, m) := fun m => rfl
  have i1 : ∀ m, oIx (Stand.enc ⟨over, lead, ages, spared, counted⟩) (.int 1) m = .ok (.int lead, m) := fun m => rfl
  have i2 : ∀ m, oIx (Stand.enc ⟨over, lead, ages, spared, counted⟩) (.int 2) m = .ok (.tup (ages.map .int), m) := fun m => rfl
  have i3 : ∀ m, oIx (Stand.enc ⟨over, lead, ages, spared, counted⟩) (.int 3) m = .ok (.int spared, m) := fun m => rfl
  simp only [f_is_good, bodyP, bodyI, s_is_good, startS]
  cases over with
  | true => simp [sl, i0, endF, Rule.good, lwOk]
  | false =>
    by_cases h0 : o = 0
    · subst h0; simp [sl, i0, endF, Rule.good, lwOk]
    · by_cases hk : o ≤ keep
      · have hk' : ¬ keep < o := by omega
        by_cases hs : strict = true ∧ lead < o
        · obtain ⟨rfl, hl⟩ := hs
          have : ¬ o ≤ lead := by omega
          simp [sl, i0, i1, endF, Rule.good, lwOk, h0, hk, hk', hl, this]
        · have hs2 : (!strict || decide (o ≤ lead)) = true := by
            cases strict with
            | false => rfl
            | true => simp at hs ⊢; omega
          have hs3 : strict = false ∨ ¬ lead < o := by
            cases strict with
            | false => exact .inl rfl
            | true => right; simp at hs; omega
          cases leeway with
          | none =>
            cases spare <;> rcases hs3 with rfl | hs3 <;> simp [sl, i0, i1, i3, endF, Rule.good, lwOk, h0, hk, hk', *, encO] <;> simp_all
          | some l =>
            obtain ⟨o1, o2⟩ := h rfl h0 hk l rfl
            have hlt : (o - 1).toNat < ages.length := by simp only at o2; omega
            have ix : ∀ m, oIx (.tup (ages.map .int)) (.int (o - 1)) m = .ok (.int ((ages[(o - 1).toNat]?).getD 0), m) := fun m => by
              refine oIx_tup ?_
              have e := atI_nat (xs := ages.map PV.int) (j := (o - 1).toNat) (x := .int ((ages[(o - 1).toNat]?).getD 0)) (by
                rw [List.getElem?_map, List.getElem?_eq_getElem hlt]; rfl)
              have : (((o - 1).toNat : Nat) : Int) = o - 1 := by omega
              rw [this] at e
              exact e
            generalize hg : (ages[(o - 1).toNat]?).getD 0 = g at ix
            by_cases hgl : g ≤ l
            · have : ¬ l < g := by omega
              cases spare <;> rcases hs3 with rfl | hs3 <;> simp [sl, i0, i1, i2, i3, endF, Rule.good, lwOk, h0, hk, hk', *, encO] <;> simp_all
            · have : l < g := by omega
              cases spare <;> rcases hs3 with rfl | hs3 <;> simp [sl, i0, i1, i2, i3, endF, Rule.good, lwOk, h0, hk, hk', *, encO] <;> simp_all <;> omega
      · have : keep < o := by omega
        simp [sl, i0, i1, endF, Rule.good, lwOk, h0, hk, this]
theorem withTok_ok {R : Rule} {lead spared counted : Int} {ages : List Int} (hl : ages.length ≤ 10) : f_with_token [R.enc, .int lead, .tup (ages.map .int), .int spared, .int counted] = .ok (R.withTok lead ages spared counted).enc := by
  obtain ⟨keep, new, strict, leeway, spare, every, fin⟩ := R
  have i0 : ∀ m, oIx (Rule.enc ⟨keep, new, strict, leeway, spare, every, fin⟩) (.int 0) m = .ok (.int keep, m) := fun m => rfl
  have i2 : ∀ m, oIx (Rule.enc ⟨keep, new, strict, leeway, spare, every, fin⟩) (.int 2) m = .ok (.bl strict, m) := fun m => rfl
  have ad : ∀ m, oAdd (.tup [.int 0]) (.tup (ages.map .int)) m = .ok (.tup (.int 0 :: ages.map .int), m) := fun m => by
    rw [oAdd_tup, if_pos]
    · rfl
    · simp only [List.length_cons, List.length_nil, List.length_map]; exact Nat.le_trans (by omega : 0 + 1 + ages.length ≤ 11) (by decide)
  obtain ⟨A, hA⟩ : ∃ A, A = (0 :: ages).take ages.length := ⟨_, rfl⟩
  have sl : ∀ m, oSlice none (some (ages.length : Int)) (.tup (.int 0 :: ages.map .int)) m = .ok (.tup (A.map .int), m) := fun m => by
    show oSlice none (some (ages.length : Int)) (.tup ((0 :: ages).map .int)) m = _
    unfold oSlice
    simp only [look_tup]
    congr 3
    unfold cutL sIx
    simp only [List.length_map, List.length_cons]
    rw [if_neg (by omega), hA, List.map_take]
    simp
  have hw : Rule.withTok ⟨keep, new, strict, leeway, spare, every, fin⟩ lead ages spared counted = ⟨false, if strict then (if keep + 1 < lead + 1 then keep + 1 else lead + 1) else 0, A, spared, counted⟩ := by rw [hA]; rfl
  rw [hw]
  simp only [f_with_token, bodyP, bodyI, s_with_token, startS]
  cases strict <;> simp [i0, i2, ad, sl, endF, Stand.enc, Stand.items, pus_ints, frz_pu]
theorem pack3 (st : Stand) (k : Rule.Kind) (m : Mm) : Rs.ofO (frz 4 m (.tup [st.enc, .str k.code])) = .ok (.tup [st.enc, .str k.code]) := by
  rw [frz_pu (by simp [stand_pu])]; rfl
theorem req_ok {R : Rule} {st : Stand} {o : Int} (ok : R.Ok) (hl : st.ages.length ≤ 10) (h : st.over = false → o ≠ 0 → o ≤ R.keep → ∀ l, R.leeway = some l → 1 ≤ o ∧ o ≤ st.ages.length) :
    f_requested [R.enc, st.enc, .int o] = .ok (.tup [(R.req st o).1.enc, .str (R.req st o).2.code]) := by
  have hg := good_ok h
  have hw := fun lead spared counted => withTok_ok (R := R) (lead := lead) (spared := spared) (counted := counted) hl
  have pR := enc_pu R
  have pS := stand_pu st
  have cg : ∀ m, cP f_is_good [R.enc, st.enc, .int o] m = .ok (.bl (R.good st o), m) := fun m => by simp [cP, pR, pS, hg]
  have cw : ∀ lead spared counted m, cP f_with_token [R.enc, .int lead, .tup (st.ages.map .int), .int spared, .int counted] m = .ok ((R.withTok lead st.ages spared counted).enc, m) := fun a b c m => by simp [cP, pR, pus_ints, hw]
  have i1 : ∀ m, oIx R.enc (.int 1) m = .ok (.str (if R.new then sNew else sSame), m) := fun m => rfl
  have i4 : ∀ m, oIx R.enc (.int 4) m = .ok (encO R.spare, m) := fun m => rfl
  have i5 : ∀ m, oIx R.enc (.int 5) m = .ok (.int R.every, m) := fun m => rfl
  have i6 : ∀ m, oIx R.enc (.int 6) m = .ok (.str (if R.fin then sEnd else sRefuse), m) := fun m => rfl
  have j0 : ∀ m, oIx st.enc (.int 0) m = .ok (.bl st.over, m) := fun m => rfl
  have j1 : ∀ m, oSlice (some 1) none st.enc m = .ok (.tup [.int st.lead, .tup (st.ages.map .int), .int st.spared, .int st.counted], m) := fun m => rfl
  have ev : ∀ i m, oMod (.int i) (.int R.every) m = .ok (.int (i % R.every), m) := fun i m => by rw [oMod_int, if_pos]; have := ok.every.1; simp; omega
  have gt : ∀ s m, gTup [3, 4, 5, 6, 7] st.enc s m = .ok (((((s.set 3 (some (.bl st.over))).set 4 (some (.int st.lead))).set 5 (some (.tup (st.ages.map .int)))).set 6 (some (.int st.spared))).set 7 (some (.int st.counted)), m) := fun s m => rfl
  have fin : ∀ (S : Stand) (k : List Nat) m, Rs.ofO (frz 4 m (.tup [S.enc, .str k])) = .ok (.tup [S.enc, .str k]) := fun S k m => by rw [frz_pu (by simp [stand_pu])]; rfl
  simp only [f_requested, bodyP, bodyI, s_requested, startS]
  by_cases g : R.good st o = true
  · by_cases h0 : o = 0
    · subst h0
      cases hs : R.spare with
      | none => simp [cg, g, endF, i4, i5, hs, encO, cw, Rule.req, gt, fin, Rule.Kind.code]
      | some s => simp [cg, g, endF, i4, i5, hs, encO, cw, Rule.req, gt, ev, fin, Rule.Kind.code]
    · cases hs : R.spare <;> cases hn : R.new <;> simp [cg, g, endF, i1, i4, i5, hs, hn, encO, cw, Rule.req, gt, fin, Rule.Kind.code, h0, sNew, sSame] <;> simp [Stand.enc, Stand.items, frz_pu, pus_ints]
  · cases hf : R.fin <;> cases ho : st.over <;> simp [cg, g, endF, j0, j1, i6, hf, ho, oAdd_tup, LINE, sEnd, sRefuse] <;> simp [Rule.req, g, Stand.enc, Stand.items, hf, ho, frz_pu, pus_ints, Rule.Kind.code]
theorem tick_ok {R : Rule} {st : Stand} (hl : st.ages.length ≤ 10) : f_ticked [R.enc, st.enc] = .ok (R.tick st).enc := by
  have i3 : ∀ m, oIx R.enc (.int 3) m = .ok (encO R.leeway, m) := fun m => rfl
  have j0 : ∀ m, oIx st.enc (.int 0) m = .ok (.bl st.over, m) := fun m => rfl
  have j1 : ∀ m, oIx st.enc (.int 1) m = .ok (.int st.lead, m) := fun m => rfl
  have j2 : ∀ m, oIx st.enc (.int 2) m = .ok (.tup (st.ages.map .int), m) := fun m => rfl
  have j3 : ∀ m, oIx st.enc (.int 3) m = .ok (.int st.spared, m) := fun m => rfl
  have j4 : ∀ m, oIx st.enc (.int 4) m = .ok (.int st.counted, m) := fun m => rfl
  have fin : ∀ (S : Stand) m, Rs.ofO (frz 4 m S.enc) = .ok S.enc := fun S m => by rw [frz_pu (stand_pu S)]; rfl
  simp only [f_ticked, bodyP, bodyI, s_ticked, startS]
  cases hw : R.leeway with
  | none => simp [i3, hw, encO, endF, fin, Rule.tick]
  | some l =>
    cases ho : st.over with
    | true => simp [i3, hw, encO, endF, fin, Rule.tick, j0, ho]
    | false =>
      have lc : ∀ (sl : Sl) (m : Mm), sl[2]? = some (some (.int l)) → 3 < sl.length → lcL (gName 3) tYes (eN fMin (aCons (eN fInt (aCons (e2 oAdd (eVar 3) (eC (.int 1))) aNil)) (aCons (eN fInt (aCons (e2 oAdd (eVar 2) (eC (.int 1))) aNil)) aNil))) sl (st.ages.map .int) m [] = .ok ((st.ages.map fun a => if l + 1 < a + 1 then l + 1 else a + 1).map .int, m) := fun sl m h2 h3 => by
        have := lc_map (m := m) (g := gName 3) (e := eN fMin (aCons (eN fInt (aCons (e2 oAdd (eVar 3) (eC (.int 1))) aNil)) (aCons (eN fInt (aCons (e2 oAdd (eVar 2) (eC (.int 1))) aNil)) aNil))) (s := sl) (fun v => match v with | .int a => .int (if l + 1 < a + 1 then l + 1 else a + 1) | v => v) (st.ages.map .int) [] (fun x hx => by
          obtain ⟨a, _, rfl⟩ := List.mem_map.mp hx
          refine ⟨sl.set 3 (some (.int a)), rfl, ?_⟩
          have e3 : (sl.set 3 (some (PV.int a)))[3]? = some (some (.int a)) := List.getElem?_set_self h3
          have e2 : (sl.set 3 (some (PV.int a)))[2]? = some (some (.int l)) := by rw [List.getElem?_set_ne (by decide)]; exact h2
          simp [e3, e2]) (by simp only [List.length_nil, List.length_map]; exact Nat.le_trans (by omega : 0 + st.ages.length ≤ 10) (by decide))
        rw [this]
        simp
      simp [i3, hw, encO, endF, Rule.tick, j0, j1, j2, j3, j4, ho, eLc_ap, wipe, lc]
      simp [Stand.enc, Stand.items, frz_pu, pus_comp]
end TT
end

section
set_option linter.all false
set_option autoImplicit false
namespace TT
theorem rule_is {R : Rule} (ok : R.Ok) : f_is_rule [R.enc] = .ok (.bl true) := by
  obtain ⟨keep, new, strict, leeway, spare, every, fin⟩ := R
  obtain ⟨⟨a0, a1⟩, b, c, ⟨d0, d1⟩⟩ := ok
  simp only at a0 a1 b c d0 d1
  have c0 : ∀ m, cP f_is_choice [.int keep, .tup [.int 0, .int 1, .int 2]] m = .ok (.bl true, m) := fun m => by
    have : keep = 0 ∨ keep = 1 ∨ keep = 2 := by omega
    rcases this with rfl | rfl | rfl <;> rfl
  have c1 : ∀ m, cP f_is_choice [.str (if new then sNew else sSame), .tup [.str [110, 101, 119], .str [115, 97, 109, 101]]] m = .ok (.bl true, m) := fun m => by
    cases new <;> rfl
  have c2 : ∀ m, cP f_is_choice [.bl strict, .tup [.bl false, .bl true]] m = .ok (.bl true, m) := fun m => by
    cases strict <;> rfl
  have cO : ∀ (o : Option Int), (o = none ∨ ∃ i, o = some i ∧ 0 ≤ i ∧ i ≤ 2) → ∀ m, cP f_is_choice [encO o, .tup [.non, .int 0, .int 1, .int 2]] m = .ok (.bl true, m) := fun o h m => by
    rcases h with rfl | ⟨i, rfl, h0, h1⟩
    · rfl
    · have : i = 0 ∨ i = 1 ∨ i = 2 := by omega
      rcases this with rfl | rfl | rfl <;> rfl
  have c3 := cO leeway b
  have c4 := cO spare c
  have c5 : ∀ m, cP f_is_choice [.int every, .tup [.int 1, .int 2, .int 3]] m = .ok (.bl true, m) := fun m => by
    have : every = 1 ∨ every = 2 ∨ every = 3 := by omega
    rcases this with rfl | rfl | rfl <;> rfl
  have c6 : ∀ m, cP f_is_choice [.str (if fin then sEnd else sRefuse), .tup [.str [101, 110, 100], .str [114, 101, 102, 117, 115, 101]]] m = .ok (.bl true, m) := fun m => by
    cases fin <;> rfl
  generalize encO leeway = ol at c3
  simp only [f_is_rule, bodyP, bodyI, s_is_rule, startS, Rule.enc, Rule.parts]
  simp [oIsA, isA, c_PARTS, c_CHOICES, eLc_ap, zipP, lcL, wipe, LINE, c0, c1, c2, cO leeway b, c4, c5, c6, fAll, bools, endF]
theorem need_rule_ok {R : Rule} (ok : R.Ok) (m : Mm) : cP f_need_rule [R.enc] m = .ok (.non, m) := by
  have hi : ∀ m, cP f_is_rule [R.enc] m = .ok (.bl true, m) := fun m => by simp [cP, enc_pu, rule_is ok]
  have : f_need_rule [R.enc] = .ok .non := by
    simp [f_need_rule, bodyP, bodyI, s_need_rule, startS, hi, endF]
  unfold cP
  rw [if_pos (by simp [enc_pu]), this]
end TT
end

section
set_option linter.all false
set_option autoImplicit false
namespace TT
/-! ### the law's server, by numbers -/
structure Srv where
  newest : Int
  top : Int
  times : List Int
  now : Int
  cred : Option Int
  seen : Int
  over : Bool
def Srv.items (s : Srv) : List PV := [.int s.newest, .int s.top, .vl (s.times.map .int), .int s.now, encO s.cred, .int s.seen, .bl s.over]
def Srv.ob (s : Srv) : Ob := .lst s.items
namespace Rule
def accepts (R : Rule) (s : Srv) (t : Int) : Bool :=
  !s.over && (t == s.newest || (decide (s.newest - t ≤ R.keep) && (!R.strict || decide (s.top ≤ t)) && lwOk R.leeway (s.now - (s.times[(t + 1).toNat]?).getD 0) && (R.spare.isNone || decide (0 < s.cred.getD 0))))
def made (R : Rule) (s : Srv) (t : Int) : Srv :=
  if (t == s.newest || R.new) = true then { s with newest := s.newest + 1, times := s.times ++ [s.now], top := if t > s.top then t else s.top } else { s with top := if t > s.top then t else s.top }
def askL (R : Rule) (s : Srv) (t : Int) : Option Int × Srv :=
  if R.accepts s t then
    let s1 := R.made s t
    if t = s.newest then
      if s.seen + 1 = R.every then (some s1.newest, { s1 with seen := 0, cred := match R.spare with | none => none | some p => some (if s.cred.getD 0 + 1 < p then s.cred.getD 0 + 1 else p) })
      else (some s1.newest, { s1 with seen := s.seen + 1 })
    else (some s1.newest, { s1 with cred := match R.spare with | none => none | some _ => some (s.cred.getD 0 - 1) })
  else (none, { s with over := s.over || R.fin })
def server (R : Rule) : Srv := ⟨0, -1, [0], 0, R.spare, 0, false⟩
end Rule
section
variable {s : Srv} {m : Mm} {b : Nat}
theorem sv0 (h : m[b]? = some s.ob) : oIx (.ref b) (.int 0) m = .ok (.int s.newest, m) := oIx_ref h rfl
theorem sv1 (h : m[b]? = some s.ob) : oIx (.ref b) (.int 1) m = .ok (.int s.top, m) := oIx_ref h rfl
theorem sv2 (h : m[b]? = some s.ob) : oIx (.ref b) (.int 2) m = .ok (.vl (s.times.map .int), m) := oIx_ref h rfl
theorem sv3 (h : m[b]? = some s.ob) : oIx (.ref b) (.int 3) m = .ok (.int s.now, m) := oIx_ref h rfl
theorem sv4 (h : m[b]? = some s.ob) : oIx (.ref b) (.int 4) m = .ok (encO s.cred, m) := oIx_ref h rfl
theorem sv5 (h : m[b]? = some s.ob) : oIx (.ref b) (.int 5) m = .ok (.int s.seen, m) := oIx_ref h rfl
theorem sv6 (h : m[b]? = some s.ob) : oIx (.ref b) (.int 6) m = .ok (.bl s.over, m) := oIx_ref h rfl
theorem st0 (h : m[b]? = some s.ob) {i : Int} : oSet (.ref b) (.int 0) (.int i) m = .ok (m.set b { s with newest := i }.ob) := oSet_ref h (j := 0) rfl
theorem st1 (h : m[b]? = some s.ob) {i : Int} : oSet (.ref b) (.int 1) (.int i) m = .ok (m.set b { s with top := i }.ob) := oSet_ref h (j := 1) rfl
theorem st2 (h : m[b]? = some s.ob) {i : List Int} : oSet (.ref b) (.int 2) (.vl (i.map .int)) m = .ok (m.set b { s with times := i }.ob) := oSet_ref h (j := 2) rfl
theorem st3 (h : m[b]? = some s.ob) {i : Int} : oSet (.ref b) (.int 3) (.int i) m = .ok (m.set b { s with now := i }.ob) := oSet_ref h (j := 3) rfl
theorem st4 (h : m[b]? = some s.ob) {i : Option Int} : oSet (.ref b) (.int 4) (encO i) m = .ok (m.set b { s with cred := i }.ob) := oSet_ref h (j := 4) rfl
theorem st5 (h : m[b]? = some s.ob) {i : Int} : oSet (.ref b) (.int 5) (.int i) m = .ok (m.set b { s with seen := i }.ob) := oSet_ref h (j := 5) rfl
theorem st6 (h : m[b]? = some s.ob) {i : Bool} : oSet (.ref b) (.int 6) (.bl i) m = .ok (m.set b { s with over := i }.ob) := oSet_ref h (j := 6) rfl
end
theorem accepts_ok {R : Rule} {s : Srv} {t : Int} {m : Mm} {b : Nat} (h : m[b]? = some s.ob) (ht : s.over = false → t ≠ s.newest → s.newest - t ≤ R.keep → ∀ l, R.leeway = some l → 0 ≤ t + 1 ∧ t + 1 < s.times.length) (hc : R.spare.isSome = s.cred.isSome) :
    i_law_accepts [R.enc, .ref b, .int t] m = .ok (.bl (R.accepts s t), m) := by
  obtain ⟨keep, new, strict, leeway, spare, every, fin⟩ := R
  have i0 : ∀ m, oIx (Rule.enc ⟨keep, new, strict, leeway, spare, every, fin⟩) (.int 0) m = .ok (.int keep, m) := fun m => rfl
  have i2 : ∀ m, oIx (Rule.enc ⟨keep, new, strict, leeway, spare, every, fin⟩) (.int 2) m = .ok (.bl strict, m) := fun m => rfl
  have i3 : ∀ m, oIx (Rule.enc ⟨keep, new, strict, leeway, spare, every, fin⟩) (.int 3) m = .ok (encO leeway, m) := fun m => rfl
  have i4 : ∀ m, oIx (Rule.enc ⟨keep, new, strict, leeway, spare, every, fin⟩) (.int 4) m = .ok (encO spare, m) := fun m => rfl
  simp only [i_law_accepts, bodyI, s_law_accepts, startS]
  by_cases ho : s.over = true
  · simp [sv6 h, ho, endF, Rule.accepts]
  · have ho : s.over = false := by simpa using ho
    by_cases hn : t = s.newest
    · simp [sv6 h, sv0 h, ho, hn, endF, Rule.accepts]
    · by_cases hk : s.newest - t ≤ keep
      · have hk' : ¬ keep < s.newest - t := by omega
        by_cases hs : strict = true ∧ t < s.top
        · obtain ⟨rfl, hl⟩ := hs
          have : ¬ s.top ≤ t := by omega
          simp [sv6 h, sv0 h, sv1 h, i0, i2, ho, hn, hk, hk', hl, this, endF, Rule.accepts]
        · have hs3 : strict = false ∨ ¬ t < s.top := by
            cases strict with
            | false => exact .inl rfl
            | true => right; simp at hs; omega
          have lw : ∀ (A : Bool), A = lwOk leeway (s.now - (s.times[(t + 1).toNat]?).getD 0) → (tAnd (tV (e1 (oIs true .non) (e2 oIx (eVar 0) (eC (.int 3))))) (tV (e2 oGt (e2 oSub (e2 oIx (eVar 1) (eC (.int 3))) (e2 oIx (e2 oIx (eVar 1) (eC (.int 2))) (e2 oAdd (eVar 2) (eC (.int 1))))) (e2 oIx (eVar 0) (eC (.int 3)))))) [some (Rule.enc ⟨keep, new, strict, leeway, spare, every, fin⟩), some (.ref b), some (.int t)] m = .ok (!A, m) := by
            intro A hA
            cases leeway with
            | none => simp only [lwOk] at hA; subst hA; simp [i3, encO]
            | some l =>
              obtain ⟨o1, o2⟩ := ht ho hn hk l rfl
              have hlt : (t + 1).toNat < s.times.length := by omega
              have ix : ∀ m, oIx (.vl (s.times.map .int)) (.int (t + 1)) m = .ok (.int ((s.times[(t + 1).toNat]?).getD 0), m) := fun m => by
                refine oIx_vl ?_
                have e := atI_nat (xs := s.times.map PV.int) (j := (t + 1).toNat) (x := .int ((s.times[(t + 1).toNat]?).getD 0)) (by
                  rw [List.getElem?_map, List.getElem?_eq_getElem hlt]; rfl)
                have : (((t + 1).toNat : Nat) : Int) = t + 1 := by omega
                rw [this] at e
                exact e
              simp only [lwOk] at hA
              generalize (s.times[(t + 1).toNat]?).getD 0 = g at ix hA
              subst hA
              simp [i3, encO, sv3 h, sv2 h, ix]
              by_cases hgl : s.now - g ≤ l
              · have : ¬ l < s.now - g := by omega
                simp [hgl, this]
              · have : l < s.now - g := by omega
                simp [hgl, this]
          obtain ⟨A, hA⟩ : ∃ A : Bool, A = lwOk leeway (s.now - (s.times[(t + 1).toNat]?).getD 0) := ⟨_, rfl⟩
          have lw := lw A hA
          have hacc : Rule.accepts ⟨keep, new, strict, leeway, spare, every, fin⟩ s t = (A && (spare.isNone || decide (0 < s.cred.getD 0))) := by
            rw [hA]
            unfold Rule.accepts
            rcases hs3 with rfl | hs3
            · simp [ho, beq_eq_false_iff_ne.mpr hn, hk]
            · have : s.top ≤ t := by omega
              simp [ho, beq_eq_false_iff_ne.mpr hn, hk, this]
          rw [hacc]
          generalize hX : (tAnd (tV (e1 (oIs true .non) (e2 oIx (eVar 0) (eC (.int 3))))) (tV (e2 oGt (e2 oSub (e2 oIx (eVar 1) (eC (.int 3))) (e2 oIx (e2 oIx (eVar 1) (eC (.int 2))) (e2 oAdd (eVar 2) (eC (.int 1))))) (e2 oIx (eVar 0) (eC (.int 3)))))) = X at lw
          have hcr : ∀ m, oGt (encO s.cred) (.int 0) m = if s.cred.isSome then .ok (.bl (decide (0 < s.cred.getD 0)), m) else .no := fun m => by
            cases s.cred <;> rfl
          have hn2 : (t == s.newest) = false := beq_eq_false_iff_ne.mpr hn
          have hstr : (tOr (tV (e2 oGt (e2 oSub (e2 oIx (eVar 1) (eC (.int 0))) (eVar 2)) (e2 oIx (eVar 0) (eC (.int 0))))) (tAnd (tT (e2 oIx (eVar 0) (eC (.int 2)))) (tV (e2 oLt (eVar 2) (e2 oIx (eVar 1) (eC (.int 1))))))) [some (Rule.enc ⟨keep, new, strict, leeway, spare, every, fin⟩), some (.ref b), some (.int t)] m = .ok (false, m) := by
            rcases hs3 with rfl | hs3
            · simp [sv0 h, i0, i2, hk']
            · cases strict <;> simp [sv0 h, sv1 h, i0, i2, hk', hs3]
          generalize (tOr (tV (e2 oGt (e2 oSub (e2 oIx (eVar 1) (eC (.int 0))) (eVar 2)) (e2 oIx (eVar 0) (eC (.int 0))))) (tAnd (tT (e2 oIx (eVar 0) (eC (.int 2)))) (tV (e2 oLt (eVar 2) (e2 oIx (eVar 1) (eC (.int 1))))))) = Y at hstr
          clear hs3 hX hacc hA
          cases spare with
          | none => cases A <;> simp [sv6 h, sv0 h, i4, ho, hn, hn2, hstr, lw, endF, encO]
          | some p =>
            simp only [Option.isSome_some] at hc
            cases A <;> simp [sv6 h, sv0 h, sv4 h, i4, ho, hn, hn2, hstr, lw, endF, encO_non, hcr, ← hc]
      · have : keep < s.newest - t := by omega
        simp [sv6 h, sv0 h, i0, ho, hn, hk, this, endF, Rule.accepts]
def srvM (m : Mm) (b : Nat) (s : Srv) : Mm := m.set b s.ob
theorem srvM_self {m : Mm} {b : Nat} {s : Srv} (h : m[b]? = some s.ob) : srvM m b s = m := by
  apply List.ext_getElem?
  intro j
  unfold srvM
  by_cases hj : b = j
  · subst hj; rw [List.getElem?_set_self (List.getElem?_eq_some_iff.mp h).1, h]
  · rw [List.getElem?_set_ne hj]
theorem srvM_get {m : Mm} {b : Nat} {s : Srv} (h : b < m.length) : (srvM m b s)[b]? = some s.ob := List.getElem?_set_self h
theorem srvM_set {m : Mm} {b : Nat} {s s' : Srv} : (srvM m b s).set b s'.ob = srvM m b s' := by unfold srvM; rw [List.set_set]
theorem asked_ok' {R : Rule} {s : Srv} {t : Int} {m : Mm} {b : Nat} (hb : b < m.length) (ht : s.over = false → t ≠ s.newest → s.newest - t ≤ R.keep → ∀ l, R.leeway = some l → 0 ≤ t + 1 ∧ t + 1 < s.times.length) (hc : R.spare.isSome = s.cred.isSome) (hl : s.times.length ≤ 15000000) :
    i_law_asked [R.enc, .ref b, .int t] (srvM m b s) = .ok (encO (R.askL s t).1, srvM m b (R.askL s t).2) := by
  have g := fun (s : Srv) => srvM_get (s := s) hb
  have acc := accepts_ok (g s) ht hc
  have s0 := fun (s : Srv) => sv0 (g s)
  have s1 := fun (s : Srv) => sv1 (g s)
  have s2 := fun (s : Srv) => sv2 (g s)
  have s3 := fun (s : Srv) => sv3 (g s)
  have s4 := fun (s : Srv) => sv4 (g s)
  have s5 := fun (s : Srv) => sv5 (g s)
  have s6 := fun (s : Srv) => sv6 (g s)
  have u0 := fun (s : Srv) (i : Int) => st0 (g s) (i := i)
  have u1 := fun (s : Srv) (i : Int) => st1 (g s) (i := i)
  have u2 := fun (s : Srv) (i : List Int) => st2 (g s) (i := i)
  have u4 := fun (s : Srv) (i : Option Int) => st4 (g s) (i := i)
  have u5 := fun (s : Srv) (i : Int) => st5 (g s) (i := i)
  have u6 := fun (s : Srv) (i : Bool) => st6 (g s) (i := i)
  simp only [srvM_set] at u0 u1 u2 u4 u5 u6
  have u4n := fun (s : Srv) => u4 s none
  have u4s := fun (s : Srv) (i : Int) => u4 s (some i)
  simp only [encO] at u4n u4s
  have ad : ∀ m, oAdd (.vl (s.times.map .int)) (.vl [.int s.now]) m = .ok (.vl ((s.times ++ [s.now]).map .int), m) := fun m => by
    rw [oAdd_vl, if_pos]
    · rw [List.map_append]; rfl
    · rw [List.length_map]; exact Nat.le_trans (by simp; omega : s.times.length + [PV.int s.now].length ≤ 15000001) (by decide)
  obtain ⟨T, hT⟩ : ∃ T, T = s.times ++ [s.now] := ⟨_, rfl⟩
  rw [← hT] at ad
  have i1 : ∀ m, oIx R.enc (.int 1) m = .ok (.str (if R.new then sNew else sSame), m) := fun m => rfl
  have i4 : ∀ m, oIx R.enc (.int 4) m = .ok (encO R.spare, m) := fun m => rfl
  have i5 : ∀ m, oIx R.enc (.int 5) m = .ok (.int R.every, m) := fun m => rfl
  have i6 : ∀ m, oIx R.enc (.int 6) m = .ok (.str (if R.fin then sEnd else sRefuse), m) := fun m => rfl
  simp only [i_law_asked, bodyI, s_law_asked, startS]
  by_cases ha : R.accepts s t = true
  · by_cases hp : t = s.newest
    · subst hp
      have hm : R.made s s.newest = { s with newest := s.newest + 1, times := T, top := if s.newest > s.top then s.newest else s.top } := by simp [Rule.made, hT]
      by_cases he : s.seen + 1 = R.every
      · cases hs : R.spare with
        | none =>
          have hcr : s.cred = none := by rw [hs] at hc; cases h : s.cred with | none => rfl | some _ => rw [h] at hc; cases hc
          have hq : R.askL s s.newest = (some (s.newest + 1), { s with newest := s.newest + 1, times := T, top := if s.newest > s.top then s.newest else s.top, seen := 0, cred := none }) := by
            unfold Rule.askL; rw [if_pos ha]; simp only [hm, he, if_true, hs]
          rw [hq]
          simp [cI, acc, ha, s0, s1, s2, s3, s5, u0, u1, u2, u5, i1, i4, i5, hs, ad, he, u4n, encO, endF]
        | some p =>
          obtain ⟨cr, hcr⟩ : ∃ cr, s.cred = some cr := by rw [hs] at hc; exact Option.isSome_iff_exists.mp hc.symm
          have hq : R.askL s s.newest = (some (s.newest + 1), { s with newest := s.newest + 1, times := T, top := if s.newest > s.top then s.newest else s.top, seen := 0, cred := some (if cr + 1 < p then cr + 1 else p) }) := by
            unfold Rule.askL; rw [if_pos ha]; simp only [hm, he, if_true, hs, hcr, Option.getD_some]
          rw [hq]
          simp [cI, acc, ha, s0, s1, s2, s3, s4, s5, u0, u1, u2, u5, i1, i4, i5, hs, hcr, ad, he, u4s, encO, endF]
      · have hq : R.askL s s.newest = (some (s.newest + 1), { s with newest := s.newest + 1, times := T, top := if s.newest > s.top then s.newest else s.top, seen := s.seen + 1 }) := by
          unfold Rule.askL; rw [if_pos ha]; simp only [hm, if_true, if_neg he]
        rw [hq]
        simp [cI, acc, ha, s0, s1, s2, s3, s5, u0, u1, u2, u5, i1, i4, i5, ad, he, encO, endF]
    · have hb2 : (t == s.newest) = false := beq_eq_false_iff_ne.mpr hp
      cases hn : R.new with
      | true =>
        have hm : R.made s t = { s with newest := s.newest + 1, times := T, top := if t > s.top then t else s.top } := by simp [Rule.made, hT, hn]
        cases hs : R.spare with
        | none =>
          have hcr : s.cred = none := by rw [hs] at hc; cases h : s.cred with | none => rfl | some _ => rw [h] at hc; cases hc
          have hq : R.askL s t = (some (s.newest + 1), { s with newest := s.newest + 1, times := T, top := if t > s.top then t else s.top, cred := none }) := by
            unfold Rule.askL; rw [if_pos ha]; simp only [hm, if_neg hp, hs]
          rw [hq]
          simp [cI, acc, ha, hb2, s0, s1, s2, s3, s5, u0, u1, u2, u5, i1, i4, i5, hs, hn, sNew, sSame, ad, u4n, encO, endF]
        | some p =>
          obtain ⟨cr, hcr⟩ : ∃ cr, s.cred = some cr := by rw [hs] at hc; exact Option.isSome_iff_exists.mp hc.symm
          have hq : R.askL s t = (some (s.newest + 1), { s with newest := s.newest + 1, times := T, top := if t > s.top then t else s.top, cred := some (cr - 1) }) := by
            unfold Rule.askL; rw [if_pos ha]; simp only [hm, if_neg hp, hs, hcr, Option.getD_some]
          rw [hq]
          simp [cI, acc, ha, hb2, s0, s1, s2, s3, s4, s5, u0, u1, u2, u5, i1, i4, i5, hs, hcr, hn, sNew, sSame, ad, u4s, encO, endF]
      | false =>
        have hm : R.made s t = { s with top := if t > s.top then t else s.top } := by simp [Rule.made, hn, hb2]
        cases hs : R.spare with
        | none =>
          have hcr : s.cred = none := by rw [hs] at hc; cases h : s.cred with | none => rfl | some _ => rw [h] at hc; cases hc
          have hq : R.askL s t = (some s.newest, { s with top := if t > s.top then t else s.top, cred := none }) := by
            unfold Rule.askL; rw [if_pos ha]; simp only [hm, if_neg hp, hs]
          rw [hq]
          simp [cI, acc, ha, hb2, s0, s1, s2, s3, s5, u0, u1, u2, u5, i1, i4, i5, hs, hn, sNew, sSame, ad, u4n, encO, endF]
        | some p =>
          obtain ⟨cr, hcr⟩ : ∃ cr, s.cred = some cr := by rw [hs] at hc; exact Option.isSome_iff_exists.mp hc.symm
          have hq : R.askL s t = (some s.newest, { s with top := if t > s.top then t else s.top, cred := some (cr - 1) }) := by
            unfold Rule.askL; rw [if_pos ha]; simp only [hm, if_neg hp, hs, hcr, Option.getD_some]
          rw [hq]
          simp [cI, acc, ha, hb2, s0, s1, s2, s3, s4, s5, u0, u1, u2, u5, i1, i4, i5, hs, hcr, hn, sNew, sSame, ad, u4s, encO, endF]
  · have hq : R.askL s t = (none, { s with over := s.over || R.fin }) := by unfold Rule.askL; rw [if_neg ha]
    rw [hq]
    cases hf : R.fin <;> cases ho : s.over <;> simp [cI, acc, ha, s6, u6, i6, hf, ho, endF, encO, sEnd, sRefuse]
end TT
end

section
set_option linter.all false
set_option autoImplicit false
namespace TT
def AgesOk (R : Rule) (st : Stand) (n t : Int) : Prop := st.over = false → n - t ≠ 0 → n - t ≤ R.keep → ∀ l, R.leeway = some l → 1 ≤ n - t ∧ n - t ≤ st.ages.length
def TimesOk (R : Rule) (s : Srv) (t : Int) : Prop := (s.over = false → t ≠ s.newest → s.newest - t ≤ R.keep → ∀ l, R.leeway = some l → 0 ≤ t + 1 ∧ t + 1 < s.times.length)
/-! ### the program's stands and the law's server go together -/
def ageOf (l : Int) (s : Srv) (j : Nat) : Int := if (j : Int) < s.newest then (if l + 1 < s.now - (s.times[(s.newest - j).toNat]?).getD 0 then l + 1 else s.now - (s.times[(s.newest - j).toNat]?).getD 0) else l + 1
structure Live (R : Rule) (st : Stand) (s : Srv) : Prop where
  lead : R.strict = true → st.lead = if R.keep + 1 < s.newest - s.top then R.keep + 1 else s.newest - s.top
  top : s.top ≤ s.newest
  ages : ∀ l, R.leeway = some l → (st.ages.length : Int) = R.keep ∧ ∀ j : Nat, (j : Int) < R.keep → st.ages[j]? = some (ageOf l s j)
  none : R.leeway = none → st.ages = []
  spare : ∀ p, R.spare = some p → s.cred = some st.spared ∧ 0 ≤ st.spared ∧ st.spared ≤ p ∧ st.counted = s.seen ∧ 0 ≤ s.seen ∧ s.seen < R.every
structure Sim (R : Rule) (st : Stand) (s : Srv) : Prop where
  over : st.over = s.over
  n0 : 0 ≤ s.newest
  tl : (s.times.length : Int) = s.newest + 1
  cred : R.spare.isSome = s.cred.isSome
  al : st.ages.length ≤ 2
  live : s.over = false → Live R st s
theorem sim_first {R : Rule} (ok : R.Ok) : Sim R R.first R.server := by
  obtain ⟨keep, new, strict, leeway, spare, every, fin⟩ := R
  obtain ⟨⟨a0, a1⟩, b, c, ⟨d0, d1⟩⟩ := ok
  simp only at a0 a1 b c d0 d1
  refine ⟨rfl, (by show (0 : Int) ≤ 0; decide), (by show ((([0] : List Int).length : Nat) : Int) = 0 + 1; decide), rfl, ?_, fun _ => ⟨?_, (by show (-1 : Int) ≤ 0; decide), ?_, ?_, ?_⟩⟩
  · cases leeway with
    | none => simp [Rule.first]
    | some l => simp [Rule.first]; omega
  · intro h
    simp only at h
    show (if strict = true then (1 : Int) else 0) = if keep + 1 < 0 - -1 then keep + 1 else 0 - -1
    rw [if_pos h, if_neg (by omega)]; rfl
  · intro l hl
    simp only at hl
    subst hl
    refine ⟨by simp [Rule.first]; omega, fun j hj => ?_⟩
    simp only at hj
    have : j < keep.toNat := by omega
    show (List.replicate keep.toNat (l + 1))[j]? = some (if (j : Int) < 0 then _ else l + 1)
    rw [List.getElem?_replicate, if_pos this, if_neg (by omega)]
  · intro h
    simp only at h
    simp [Rule.first, h]
  · intro p hp
    simp only at hp
    subst hp
    rcases c with c | ⟨i, c, c0, c1⟩
    · cases c
    · cases c
      exact ⟨rfl, c0, by simp [Rule.first], rfl, (by show (0 : Int) ≤ 0; decide), by simp only [Rule.server]; omega⟩
theorem sim_tick {R : Rule} {st : Stand} {s : Srv} (h : Sim R st s) : Sim R (R.tick st) { s with now := s.now + 1 } := by
  obtain ⟨h1, h2, h3, h4, h5, h6⟩ := h
  have hov : (R.tick st).over = st.over := by
    unfold Rule.tick
    cases R.leeway with
    | none => rfl
    | some l => by_cases ho : st.over = true <;> simp [ho]
  have hal : (R.tick st).ages.length = st.ages.length := by
    unfold Rule.tick
    cases R.leeway with
    | none => rfl
    | some l => by_cases ho : st.over = true <;> simp [ho]
  refine ⟨hov.trans h1, h2, h3, h4, by rw [hal]; exact h5, fun ho => ?_⟩
  have L := h6 ho
  have ho' : st.over = false := h1.trans ho
  cases hw : R.leeway with
  | none =>
    have : R.tick st = st := by unfold Rule.tick; rw [hw]
    rw [this]
    exact ⟨L.lead, L.top, fun l hl => (by rw [hw] at hl; cases hl), L.none, L.spare⟩
  | some l =>
    have ht : R.tick st = ⟨false, st.lead, st.ages.map fun a => if l + 1 < a + 1 then l + 1 else a + 1, st.spared, st.counted⟩ := by unfold Rule.tick; rw [hw]; simp [ho']
    rw [ht]
    refine ⟨L.lead, L.top, fun l' hl => ?_, fun h => (by rw [hw] at h; cases h), L.spare⟩
    rw [hw] at hl
    cases hl
    obtain ⟨a1, a2⟩ := L.ages l hw
    refine ⟨by simpa using a1, fun j hj => ?_⟩
    rw [List.getElem?_map, a2 j hj]
    simp only [Option.map_some, ageOf]
    congr 1
    split
    · generalize (s.times[(s.newest - j).toNat]?).getD 0 = g
      split <;> split <;> split <;> omega
    · split <;> omega
theorem ages_new {R : Rule} {st : Stand} {s s' : Srv} (hn0 : 0 ≤ s.newest) (tl : (s.times.length : Int) = s.newest + 1) (l : Int) (hl0 : 0 ≤ l) (a1 : (st.ages.length : Int) = R.keep) (a2 : ∀ j : Nat, (j : Int) < R.keep → st.ages[j]? = some (ageOf l s j)) (hn : s'.newest = s.newest + 1) (ht : s'.times = s.times ++ [s.now]) (hw : s'.now = s.now) :
    ((((0 :: st.ages).take st.ages.length).length : Nat) : Int) = R.keep ∧ ∀ j : Nat, (j : Int) < R.keep → ((0 :: st.ages).take st.ages.length)[j]? = some (ageOf l s' j) := by
  refine ⟨by simp [List.length_take]; omega, fun j hj => ?_⟩
  rw [List.getElem?_take, if_pos (by omega)]
  cases j with
  | zero =>
    rw [List.getElem?_cons_zero]
    unfold ageOf
    rw [hn, ht, hw, if_pos (by omega)]
    have : ((s.times ++ [s.now])[(s.newest + 1 - ((0 : Nat) : Int)).toNat]?).getD 0 = s.now := by
      have e : (s.newest + 1 - ((0 : Nat) : Int)).toNat = s.times.length := by omega
      rw [e, List.getElem?_append_right (Nat.le_refl _)]; simp
    rw [this, if_neg (by omega)]
    congr 1; omega
  | succ j =>
    rw [List.getElem?_cons_succ, a2 j (by omega)]
    unfold ageOf
    rw [hn, ht, hw]
    have e : (s.newest + 1 - ((j + 1 : Nat) : Int)) = s.newest - j := by omega
    rw [e]
    by_cases hj2 : (j : Int) < s.newest
    · have c2 : ((j + 1 : Nat) : Int) < s.newest + 1 := by omega
      rw [if_pos hj2, if_pos c2]
      have : (s.times ++ [s.now])[(s.newest - (j : Int)).toNat]? = s.times[(s.newest - (j : Int)).toNat]? := List.getElem?_append_left (by omega)
      rw [this]
    · rw [if_neg hj2, if_neg (by omega)]
/-- what the ages and the times must have -/
theorem sim_ages {R : Rule} {st : Stand} {s : Srv} (h : Sim R st s) {t : Int} (t0 : 0 ≤ t) (t1 : t ≤ s.newest) : AgesOk R st s.newest t ∧ TimesOk R s t := by
  refine ⟨fun ho hd hk l hl => ?_, fun ho hd hk l hl => ?_⟩
  · have L := h.live (h.over.symm.trans ho)
    have := (L.ages l hl).1
    omega
  · have := h.tl
    omega
/-- the same answers -/
theorem good_eq {R : Rule} {st : Stand} {s : Srv} (ok : R.Ok) (h : Sim R st s) {t : Int} (t0 : 0 ≤ t) (t1 : t ≤ s.newest) : R.good st (if R.keep + 1 < s.newest - t then R.keep + 1 else s.newest - t) = R.accepts s t := by
  have k0 := ok.keep.1
  unfold Rule.good Rule.accepts
  rw [h.over]
  cases ho : s.over with
  | true => rfl
  | false =>
    have L := h.live ho
    by_cases hk : s.newest - t ≤ R.keep
    · rw [if_neg (by omega : ¬ R.keep + 1 < s.newest - t)]
      by_cases hd : t = s.newest
      · subst hd; simp
      · have hd1 : (s.newest - t == 0) = false := beq_eq_false_iff_ne.mpr (by omega)
        have hd2 : (t == s.newest) = false := beq_eq_false_iff_ne.mpr hd
        have e1 : (!R.strict || decide (s.newest - t ≤ st.lead)) = (!R.strict || decide (s.top ≤ t)) := by
          cases hs : R.strict with
          | false => rfl
          | true =>
            have := L.lead hs
            have : (s.newest - t ≤ st.lead) ↔ (s.top ≤ t) := by rw [this]; split <;> omega
            simp [this]
        have e2 : lwOk R.leeway ((st.ages[(s.newest - t - 1).toNat]?).getD 0) = lwOk R.leeway (s.now - (s.times[(t + 1).toNat]?).getD 0) := by
          cases hw : R.leeway with
          | none => rfl
          | some l =>
            have a := (L.ages l hw).2 (s.newest - t - 1).toNat (by omega)
            simp only [lwOk, a, Option.getD_some, ageOf]
            have i1 : ((s.newest - t - 1).toNat : Int) = s.newest - t - 1 := by omega
            rw [i1, if_pos (by omega)]
            have i2 : s.newest - (s.newest - t - 1) = t + 1 := by omega
            rw [i2]
            generalize (s.times[(t + 1).toNat]?).getD 0 = g
            have : ((if l + 1 < s.now - g then l + 1 else s.now - g) ≤ l) ↔ (s.now - g ≤ l) := by split <;> omega
            simp [this]
        have e3 : (R.spare.isNone || decide (0 < st.spared)) = (R.spare.isNone || decide (0 < s.cred.getD 0)) := by
          cases hp : R.spare with
          | none => rfl
          | some p =>
            obtain ⟨c1, _⟩ := L.spare p hp
            simp [c1]
        rw [hd1, hd2, e1, e2, e3]
    · have hd2 : (t == s.newest) = false := beq_eq_false_iff_ne.mpr (by omega)
      have : (R.keep + 1 == 0) = false := beq_eq_false_iff_ne.mpr (by omega)
      have e4 : ∀ x, x = R.keep + 1 ∨ x = s.newest - t → R.keep < x → (x == 0) = false := fun x _ hx => beq_eq_false_iff_ne.mpr (by omega)
      have k1 : ¬ R.keep + 1 ≤ R.keep := by omega
      split
      · simp [this, hd2, hk, k1]
      · have : (s.newest - t == 0) = false := beq_eq_false_iff_ne.mpr (by omega)
        simp [this, hd2, hk]
theorem sim_ask {R : Rule} {st : Stand} {s : Srv} (ok : R.Ok) (h : Sim R st s) {t : Int} (t0 : 0 ≤ t) (t1 : t ≤ s.newest) :
    (R.answer st s.newest t).2.1 = (R.askL s t).2.newest ∧ (R.answer st s.newest t).2.2 = (R.askL s t).1 ∧ Sim R (R.answer st s.newest t).1 (R.askL s t).2 ∧ s.newest ≤ (R.askL s t).2.newest ∧ (R.askL s t).2.newest ≤ s.newest + 1 ∧ ((R.askL s t).1 = none ∨ (R.askL s t).1 = some (R.askL s t).2.newest) := by
  have ge := good_eq ok h t0 t1
  have k0 := ok.keep.1
  obtain ⟨o, ho⟩ : ∃ o, o = if R.keep + 1 < s.newest - t then R.keep + 1 else s.newest - t := ⟨_, rfl⟩
  have ha : R.answer st s.newest t = (match R.req st o with
    | (a, .refused) => (a, s.newest, none)
    | (a, .made) => (a, s.newest + 1, some (s.newest + 1))
    | (a, .newest) => (a, s.newest, some s.newest)) := by rw [ho]; rfl
  rw [← ho] at ge
  by_cases g : R.good st o = true
  · have g2 : R.accepts s t = true := ge.symm.trans g
    have hov : s.over = false := by
      unfold Rule.accepts at g2
      cases hv : s.over with
      | false => rfl
      | true => rw [hv] at g2; simp at g2
    have L := h.live hov
    by_cases hd : t = s.newest
    · subst hd
      have o0 : o = 0 := by rw [ho, if_neg (by omega)]; omega
      subst o0
      have hm : R.made s s.newest = { s with newest := s.newest + 1, times := s.times ++ [s.now], top := if s.newest > s.top then s.newest else s.top } := by simp [Rule.made]
      have htop : (if s.newest > s.top then s.newest else s.top) = s.newest := by have := L.top; split <;> omega
      have hlead : ∀ S : Srv, S.newest = s.newest + 1 → S.top = s.newest → (if R.strict then (if R.keep + 1 < (0 : Int) + 1 then R.keep + 1 else 0 + 1) else 0) = (if R.strict then (if R.keep + 1 < S.newest - S.top then R.keep + 1 else S.newest - S.top) else 0) := fun S h1 h2 => by
        rw [h1, h2]; split
        · split <;> split <;> omega
        · rfl
      have mk : ∀ (sp cn : Int) (S : Srv), S.over = false → S.newest = s.newest + 1 → S.top = s.newest → S.times = s.times ++ [s.now] → S.now = s.now → R.spare.isSome = S.cred.isSome → (∀ p, R.spare = some p → S.cred = some sp ∧ 0 ≤ sp ∧ sp ≤ p ∧ cn = S.seen ∧ 0 ≤ S.seen ∧ S.seen < R.every) → Sim R (R.withTok 0 st.ages sp cn) S := by
        intro sp cn S e1 e2 e3 e4 e5 e6 e7
        refine ⟨e1.symm, by rw [e2]; have := h.n0; omega, by rw [e4, e2, List.length_append]; have := h.tl; simp; omega, e6, ?_, fun _ => ⟨?_, by rw [e2, e3]; omega, ?_, ?_, e7⟩⟩
        · simp only [Rule.withTok, List.length_take]; have := h.al; omega
        · intro hs
          have := hlead S e2 e3
          rw [if_pos hs, if_pos hs] at this
          simp only [Rule.withTok]
          rw [if_pos hs]; exact this
        · intro l hl
          have hl0 : 0 ≤ l := by rcases ok.leeway with z | ⟨i, z, z0, z1⟩ <;> rw [hl] at z <;> cases z; exact z0
          obtain ⟨a1, a2⟩ := L.ages l hl
          exact ages_new h.n0 h.tl l hl0 a1 a2 e2 e4 e5
        · intro hn
          simp only [Rule.withTok, L.none hn]; rfl
      cases hs : R.spare with
      | none =>
        have hr : R.req st 0 = (R.withTok 0 st.ages st.spared st.counted, .made) := by unfold Rule.req; rw [if_pos g, if_pos rfl, hs]
        rw [ha, hr]
        have c0 : s.cred = none := by have := h.cred; rw [hs] at this; cases hq : s.cred with | none => rfl | some _ => rw [hq] at this; cases this
        by_cases he : s.seen + 1 = R.every
        · have hq : R.askL s s.newest = (some (s.newest + 1), { s with newest := s.newest + 1, times := s.times ++ [s.now], top := if s.newest > s.top then s.newest else s.top, seen := 0, cred := none }) := by
            unfold Rule.askL; rw [if_pos g2]; simp only [hm, he, if_true, hs]
          rw [hq]
          exact ⟨rfl, rfl, mk _ _ _ hov rfl htop rfl rfl (by rw [hs]) (fun p hp => by rw [hs] at hp; cases hp), by show s.newest ≤ s.newest + 1; omega, Int.le_refl _, .inr rfl⟩
        · have hq : R.askL s s.newest = (some (s.newest + 1), { s with newest := s.newest + 1, times := s.times ++ [s.now], top := if s.newest > s.top then s.newest else s.top, seen := s.seen + 1 }) := by
            unfold Rule.askL; rw [if_pos g2]; simp only [hm, if_true, if_neg he]
          rw [hq]
          exact ⟨rfl, rfl, mk _ _ _ hov rfl htop rfl rfl (by rw [hs]; show _ = s.cred.isSome; rw [c0]) (fun p hp => by rw [hs] at hp; cases hp), by show s.newest ≤ s.newest + 1; omega, Int.le_refl _, .inr rfl⟩
      | some p =>
        obtain ⟨c1, c2, c3, c4, c5, c6⟩ := L.spare p hs
        have hev := ok.every.1
        obtain ⟨cn, hcn⟩ : ∃ cn, cn = (st.counted + 1) % R.every := ⟨_, rfl⟩
        obtain ⟨sp, hsp⟩ : ∃ sp, sp = (if st.spared + b2i (cn == 0) < p then st.spared + b2i (cn == 0) else p) := ⟨_, rfl⟩
        have hr : R.req st 0 = (R.withTok 0 st.ages sp cn, .made) := by
          unfold Rule.req; rw [if_pos g, if_pos rfl, hs, hsp, hcn]
        rw [ha, hr]
        by_cases he : s.seen + 1 = R.every
        · have hc0 : cn = 0 := by rw [hcn, c4, he]; exact Int.emod_self
          have hsp2 : sp = if st.spared + 1 < p then st.spared + 1 else p := by rw [hsp, hc0]; rfl
          have hq : R.askL s s.newest = (some (s.newest + 1), { s with newest := s.newest + 1, times := s.times ++ [s.now], top := if s.newest > s.top then s.newest else s.top, seen := 0, cred := some (if st.spared + 1 < p then st.spared + 1 else p) }) := by
            unfold Rule.askL; rw [if_pos g2]; simp only [hm, he, if_true, hs, c1, Option.getD_some]
          rw [hq]
          refine ⟨rfl, rfl, mk _ _ _ hov rfl htop rfl rfl (by rw [hs]; rfl) (fun p' hp => ?_), by show s.newest ≤ s.newest + 1; omega, Int.le_refl _, .inr rfl⟩
          rw [hs] at hp; cases hp
          refine ⟨by rw [hsp2], by rw [hsp2]; split <;> omega, by rw [hsp2]; split <;> omega, hc0, Int.le_refl _, by show (0 : Int) < R.every; omega⟩
        · have hcv : cn = s.seen + 1 := by rw [hcn, c4]; exact Int.emod_eq_of_lt (by omega) (by omega)
          have hc0 : (cn == 0) = false := beq_eq_false_iff_ne.mpr (by omega)
          have hsp2 : sp = st.spared := by rw [hsp, hc0]; show (if st.spared + 0 < p then st.spared + 0 else p) = st.spared; split <;> omega
          have hq : R.askL s s.newest = (some (s.newest + 1), { s with newest := s.newest + 1, times := s.times ++ [s.now], top := if s.newest > s.top then s.newest else s.top, seen := s.seen + 1 }) := by
            unfold Rule.askL; rw [if_pos g2]; simp only [hm, if_true, if_neg he]
          rw [hq]
          refine ⟨rfl, rfl, mk _ _ _ hov rfl htop rfl rfl (by rw [hs]; show _ = s.cred.isSome; rw [c1]; rfl) (fun p' hp => ?_), by show s.newest ≤ s.newest + 1; omega, Int.le_refl _, .inr rfl⟩
          rw [hs] at hp; cases hp
          exact ⟨by rw [hsp2]; exact c1, by omega, by omega, hcv, by show 0 ≤ s.seen + 1; omega, by show s.seen + 1 < R.every; omega⟩
    · have hd2 : (t == s.newest) = false := beq_eq_false_iff_ne.mpr hd
      have g3 := g2
      unfold Rule.accepts at g3
      simp only [hov, hd2, Bool.not_false, Bool.true_and, Bool.false_or, Bool.and_eq_true, decide_eq_true_eq, Bool.or_eq_true, Bool.not_eq_true'] at g3
      obtain ⟨⟨⟨hk, hst⟩, _⟩, hcr⟩ := g3
      have od : o = s.newest - t := by rw [ho, if_neg (by omega)]
      have o0 : ¬ o = 0 := by omega
      have hspare : ∀ p, R.spare = some p → 0 < st.spared := fun p hp => by
        obtain ⟨c1, _⟩ := L.spare p hp
        rcases hcr with z | z
        · rw [hp] at z; cases z
        · rw [c1] at z; exact z
      obtain ⟨top', htop⟩ : ∃ x, x = if t > s.top then t else s.top := ⟨_, rfl⟩
      have htop2 : top' ≤ s.newest := by have := L.top; rw [htop]; split <;> omega
      obtain ⟨ld, hld⟩ : ∃ x, x = if o < st.lead then o else st.lead := ⟨_, rfl⟩
      have hlead : R.strict = true → ld = s.newest - top' := fun hs => by
        have l1 := L.lead hs
        have l2 : s.top ≤ t := by rcases hst with z | z; · rw [hs] at z; cases z
                                  · exact z
        rw [hld, htop, l1, od]
        split <;> split <;> split <;> omega
      obtain ⟨sp, hsp⟩ : ∃ x, x = (match R.spare with | none => (0 : Int) | some _ => st.spared - 1) := ⟨_, rfl⟩
      obtain ⟨cr, hcr2⟩ : ∃ x, x = (match R.spare with | none => none | some _ => some (s.cred.getD 0 - 1)) := ⟨_, rfl⟩
      have hcs : R.spare.isSome = cr.isSome := by rw [hcr2]; cases R.spare <;> rfl
      have hsp2 : ∀ p, R.spare = some p → cr = some sp ∧ 0 ≤ sp ∧ sp ≤ p ∧ st.counted = s.seen ∧ 0 ≤ s.seen ∧ s.seen < R.every := fun p hp => by
        obtain ⟨c1, c2, c3, c4, c5, c6⟩ := L.spare p hp
        have := hspare p hp
        rw [hcr2, hsp, hp, c1]
        exact ⟨rfl, by show 0 ≤ st.spared - 1; omega, by show st.spared - 1 ≤ p; omega, c4, c5, c6⟩
      cases hn : R.new with
      | true =>
        have hm : R.made s t = { s with newest := s.newest + 1, times := s.times ++ [s.now], top := top' } := by simp [Rule.made, hn, htop]
        have hr : R.req st o = (R.withTok ld st.ages sp st.counted, .made) := by
          unfold Rule.req; rw [if_pos g, if_neg o0, hn, hld, hsp]; rfl
        have hq : R.askL s t = (some (s.newest + 1), { s with newest := s.newest + 1, times := s.times ++ [s.now], top := top', cred := cr }) := by
          unfold Rule.askL; rw [if_pos g2]; simp only [hm, if_neg hd, hcr2] <;> cases R.spare <;> rfl
        rw [ha, hr, hq]
        refine ⟨rfl, rfl, ⟨hov.symm, by show 0 ≤ s.newest + 1; have := h.n0; omega, by show ((s.times ++ [s.now]).length : Int) = s.newest + 1 + 1; rw [List.length_append]; have := h.tl; simp; omega, hcs, ?_, fun _ => ⟨fun hs => ?_, by show top' ≤ s.newest + 1; omega, fun l hl => ?_, fun hn => ?_, hsp2⟩⟩, by show s.newest ≤ s.newest + 1; omega, Int.le_refl _, .inr rfl⟩
        · simp only [Rule.withTok, List.length_take]; have := h.al; omega
        · have l1 := hlead hs
          show (if R.strict = true then (if R.keep + 1 < ld + 1 then R.keep + 1 else ld + 1) else 0) = if R.keep + 1 < s.newest + 1 - top' then R.keep + 1 else s.newest + 1 - top'
          rw [if_pos hs]; split <;> split <;> omega
        · have hl0 : 0 ≤ l := by rcases ok.leeway with z | ⟨i, z, z0, z1⟩ <;> rw [hl] at z <;> cases z; exact z0
          obtain ⟨a1, a2⟩ := L.ages l hl
          exact ages_new h.n0 h.tl l hl0 a1 a2 rfl rfl rfl
        · simp only [Rule.withTok, L.none hn]; rfl
      | false =>
        have hm : R.made s t = { s with top := top' } := by simp [Rule.made, hn, hd2, htop]
        have hr : R.req st o = (⟨false, ld, st.ages, sp, st.counted⟩, .newest) := by
          unfold Rule.req; rw [if_pos g, if_neg o0, hn, hld, hsp]; rfl
        have hq : R.askL s t = (some s.newest, { s with top := top', cred := cr }) := by
          unfold Rule.askL; rw [if_pos g2]; simp only [hm, if_neg hd, hcr2] <;> cases R.spare <;> rfl
        rw [ha, hr, hq]
        refine ⟨rfl, rfl, ⟨hov.symm, h.n0, h.tl, hcs, h.al, fun _ => ⟨fun hs => ?_, htop2, fun l hl => L.ages l hl, L.none, hsp2⟩⟩, Int.le_refl _, by show s.newest ≤ s.newest + 1; omega, .inr rfl⟩
        have l1 := hlead hs
        have l2 := L.lead hs
        show ld = if R.keep + 1 < s.newest - top' then R.keep + 1 else s.newest - top'
        rw [if_neg (by omega)]; exact l1
  · have g2 : ¬ R.accepts s t = true := by rw [← ge]; exact g
    have hr : R.req st o = ({ st with over := st.over || R.fin }, .refused) := by unfold Rule.req; rw [if_neg g]
    have hq : R.askL s t = (none, { s with over := s.over || R.fin }) := by unfold Rule.askL; rw [if_neg g2]
    rw [ha, hr, hq]
    refine ⟨rfl, rfl, ⟨by simp [h.over], h.n0, h.tl, h.cred, h.al, fun ho => ?_⟩, Int.le_refl _, by show s.newest ≤ s.newest + 1; omega, .inl rfl⟩
    simp only [Bool.or_eq_false_iff] at ho
    have L := h.live ho.1
    exact ⟨L.lead, L.top, L.ages, L.none, L.spare⟩
end TT
end

section
set_option linter.all false
set_option autoImplicit false
namespace TT
/-! ### a alone, by the program: a stand, how old a's token is, how old that of a late answer is -/
structure An where
  stand : Stand
  old : Int
  wait : Option Int
  deriving DecidableEq
def An.enc (n : An) : PV := .tup [n.stand.enc, .int n.old, encO n.wait]
inductive AEv where
  | ask | drop | late | got | tick
  deriving DecidableEq
def AEv.code : AEv → List Nat
  | .ask => [33]
  | .drop => [45]
  | .late => [126]
  | .got => [43]
  | .tick => [46, 46]
def AEv.enc (e : AEv) : PV := .str e.code
def cutO (R : Rule) (x : Int) : Int := if R.keep + 1 < x + 1 then R.keep + 1 else x + 1
def oldI (R : Rule) (x : Int) : Rule.Kind → Int
  | .made => cutO R x
  | _ => x
def oldO (R : Rule) (o : Option Int) (k : Rule.Kind) : Option Int := o.map fun x => oldI R x k
def askA (R : Rule) (n : An) (f : Int → Option Int → Int × Option Int) : Bool × An := match R.req n.stand n.old with
  | (st, .refused) => (true, ⟨st, n.old, n.wait⟩)
  | (st, k) => (false, ⟨st, (f (oldI R n.old k) (oldO R n.wait k)).1, (f (oldI R n.old k) (oldO R n.wait k)).2⟩)
def aloneN (R : Rule) (n : An) : AEv → Bool × An
  | .tick => (false, ⟨R.tick n.stand, n.old, n.wait⟩)
  | .got => (false, ⟨n.stand, n.wait.getD n.old, none⟩)
  | .ask => askA R n fun _ y => (0, y)
  | .drop => askA R n fun x y => (x, y)
  | .late => askA R n fun x _ => (x, some 0)
structure AOk (R : Rule) (n : An) : Prop where
  al : ∀ l, R.leeway = some l → (n.stand.ages.length : Int) = R.keep
  a0 : n.stand.ages.length ≤ 2
  m0 : 0 ≤ n.old
  o0 : ∀ o, n.wait = some o → 0 ≤ o
theorem encO_pu (o : Option Int) : (encO o).pu = true := by cases o <;> rfl
theorem an_pu (n : An) : n.enc.pu = true := by simp [An.enc, stand_pu, encO_pu]
theorem older_ok (R : Rule) (o : Option Int) (k : Rule.Kind) (m : Mm) : cP f_older [R.enc, encO o, .str k.code] m = .ok (encO (oldO R o k), m) := by
  have i0 : ∀ m, oIx R.enc (.int 0) m = .ok (.int R.keep, m) := fun m => rfl
  have : f_older [R.enc, encO o, .str k.code] = .ok (encO (oldO R o k)) := by
    cases o with
    | none => simp [f_older, bodyP, bodyI, s_older, startS, encO, endF, oldO]
    | some x =>
      cases k <;> simp [f_older, bodyP, bodyI, s_older, startS, encO, endF, oldO, oldI, cutO, Rule.Kind.code, i0]
  unfold cP
  rw [if_pos (by simp [enc_pu, encO_pu]), this]
theorem older_int (R : Rule) (x : Int) (k : Rule.Kind) (m : Mm) : cP f_older [R.enc, .int x, .str k.code] m = .ok (.int (oldI R x k), m) := older_ok R (some x) k m
theorem req_a {R : Rule} (ok : R.Ok) {n : An} (h : AOk R n) (m : Mm) : cP f_requested [R.enc, n.stand.enc, .int n.old] m = .ok (.tup [(R.req n.stand n.old).1.enc, .str (R.req n.stand n.old).2.code], m) := by
  have := req_ok (R := R) (st := n.stand) (o := n.old) ok (by have := h.a0; omega) (fun _ b c l hl => by have := h.al l hl; have := h.m0; omega)
  unfold cP
  rw [if_pos (by simp [enc_pu, stand_pu]), this]
set_option maxHeartbeats 4000000 in
theorem alone_ok {R : Rule} (ok : R.Ok) {n : An} (h : AOk R n) (e : AEv) : f_alone [R.enc, n.enc, e.enc] = .ok (.tup [.bl (aloneN R n e).1, (aloneN R n e).2.enc]) := by
  have tk : ∀ m, cP f_ticked [R.enc, n.stand.enc] m = .ok ((R.tick n.stand).enc, m) := fun m => by
    have := tick_ok (R := R) (st := n.stand) (by have := h.a0; omega)
    simp [cP, enc_pu, stand_pu, this]
  have fz2 : ∀ (c : Bool) (S : Stand) (a : Int) (b : PV) m, b.pu = true → frz 4 m (.tup [.bl c, .tup [S.enc, .int a, b]]) = some (.tup [.bl c, .tup [S.enc, .int a, b]]) := fun c S a b m hb => frz_pu (by simp [stand_pu, hb])
  have a := req_a ok h
  obtain ⟨st, mine, other⟩ := n
  simp only at a tk
  cases e with
  | tick => simp [f_alone, bodyP, bodyI, s_alone, startS, An.enc, AEv.enc, AEv.code, aloneN, tk, endF, fz2, encO_pu]
  | got =>
    cases other with
    | none =>
      simp [f_alone, bodyP, bodyI, s_alone, startS, An.enc, AEv.enc, AEv.code, aloneN, endF, encO]
      rw [fz2 _ _ _ _ _ rfl]; rfl
    | some o =>
      simp [f_alone, bodyP, bodyI, s_alone, startS, An.enc, AEv.enc, AEv.code, aloneN, endF, encO]
      rw [fz2 _ _ _ _ _ rfl]; rfl
  | _ =>
    all_goals
      unfold aloneN askA
      simp only
      generalize R.req st mine = q at a ⊢
      obtain ⟨S, k⟩ := q
      have p1 := fun m => older_int R mine k m
      have p2 := fun m => older_ok R other k m
      cases k <;> simp only [Rule.Kind.code] at a p1 p2 <;> simp [f_alone, bodyP, bodyI, s_alone, startS, An.enc, AEv.enc, AEv.code, a, p1, p2, endF, fz2, encO_pu]
      all_goals first
        | done
        | (rw [fz2 _ _ _ _ _ rfl]; rfl)
theorem tick_al {R : Rule} {st : Stand} : (R.tick st).ages.length = st.ages.length := by
  unfold Rule.tick
  cases R.leeway with
  | none => rfl
  | some l => by_cases ho : st.over = true <;> simp [ho]
theorem withTok_al {R : Rule} {lead sp co : Int} {ages : List Int} : (R.withTok lead ages sp co).ages.length = ages.length := by
  simp [Rule.withTok]
theorem req_al {R : Rule} {st : Stand} {o : Int} : (R.req st o).1.ages.length = st.ages.length := by
  unfold Rule.req
  split
  · split
    · split <;> exact withTok_al
    · by_cases hn : R.new = true <;> simp [hn, withTok_al]
  · rfl
theorem first_al {R : Rule} (ok : R.Ok) : (∀ l, R.leeway = some l → (R.first.ages.length : Int) = R.keep) ∧ R.first.ages.length ≤ 2 := by
  obtain ⟨keep, new, strict, leeway, spare, every, fin⟩ := R
  obtain ⟨⟨a0, a1⟩, b, c, ⟨d0, d1⟩⟩ := ok
  simp only at a0 a1
  cases leeway with
  | none => exact ⟨fun l hl => (nomatch hl), by simp [Rule.first]⟩
  | some l => exact ⟨fun l hl => by simp [Rule.first]; omega, by simp [Rule.first]; omega⟩
theorem oldI_nn {R : Rule} (ok : R.Ok) {x : Int} (h : 0 ≤ x) (k : Rule.Kind) : 0 ≤ oldI R x k := by
  have := ok.keep.1
  cases k <;> simp only [oldI, cutO] <;> first | exact h | (split <;> omega)
theorem AOk.next {R : Rule} (ok : R.Ok) {n : An} (h : AOk R n) (e : AEv) : AOk R (aloneN R n e).2 := by
  have ask : ∀ f : Int → Option Int → Int × Option Int, (∀ x y, 0 ≤ x → (∀ o, y = some o → 0 ≤ o) → 0 ≤ (f x y).1 ∧ ∀ o, (f x y).2 = some o → 0 ≤ o) → AOk R (askA R n f).2 := fun f hf => by
    have al := req_al (R := R) (st := n.stand) (o := n.old)
    unfold askA
    generalize hq : R.req n.stand n.old = q at al
    obtain ⟨S, k⟩ := q
    have hf2 := hf (oldI R n.old k) (oldO R n.wait k) (oldI_nn ok h.m0 k) (fun o ho => by
      unfold oldO at ho
      cases hw : n.wait with
      | none => rw [hw] at ho; cases ho
      | some w =>
        rw [hw] at ho
        cases ho
        exact oldI_nn ok (h.o0 w hw) k)
    simp only at al
    cases k with
    | refused => exact ⟨fun l hl => by rw [al]; exact h.al l hl, by rw [al]; exact h.a0, h.m0, h.o0⟩
    | made => exact ⟨fun l hl => by rw [al]; exact h.al l hl, by rw [al]; exact h.a0, hf2.1, hf2.2⟩
    | newest => exact ⟨fun l hl => by rw [al]; exact h.al l hl, by rw [al]; exact h.a0, hf2.1, hf2.2⟩
  cases e with
  | tick => exact ⟨fun l hl => by show ((R.tick n.stand).ages.length : Int) = _; rw [tick_al]; exact h.al l hl, by show (R.tick n.stand).ages.length ≤ 2; rw [tick_al]; exact h.a0, h.m0, h.o0⟩
  | got =>
    refine ⟨h.al, h.a0, ?_, fun o ho => nomatch ho⟩
    show 0 ≤ n.wait.getD n.old
    cases hw : n.wait with
    | none => exact h.m0
    | some w => exact h.o0 w hw
  | ask => exact ask _ fun x y hx hy => ⟨Int.le_refl _, hy⟩
  | drop => exact ask _ fun x y hx hy => ⟨hx, hy⟩
  | late => exact ask _ fun x y hx hy => ⟨hx, fun o ho => by cases ho; exact Int.le_refl _⟩
def firstA (R : Rule) : An := ⟨R.first, 0, none⟩
theorem firstA_ok {R : Rule} (ok : R.Ok) : AOk R (firstA R) := ⟨(first_al ok).1, (first_al ok).2, Int.le_refl _, fun o ho => nomatch ho⟩
theorem first_node_ok {R : Rule} (ok : R.Ok) (m : Mm) : cP f_first_node [R.enc] m = .ok ((firstA R).enc, m) := by
  have f1 : ∀ m, cP f_first_stand [R.enc] m = .ok (R.first.enc, m) := fun m => by simp [cP, enc_pu, first_ok ok]
  have : f_first_node [R.enc] = .ok (firstA R).enc := by
    simp [f_first_node, bodyP, bodyI, s_first_node, startS, f1, endF, firstA, An.enc, encO]
    rw [frz_pu (by simp [stand_pu])]; rfl
  unfold cP
  rw [if_pos (by simp [enc_pu]), this]
/-! keys -/
theorem eqv_ints : ∀ (xs ys : List Int), PV.eqvs (xs.map .int) (ys.map .int) = decide (xs = ys)
  | [], [] => rfl
  | [], _ :: _ => by simp [PV.eqvs]
  | _ :: _, [] => by simp [PV.eqvs]
  | x :: xs, y :: ys => by simp only [List.map_cons, PV.eqvs, PV.eqv, eqv_ints xs ys, List.cons.injEq]; by_cases h : x = y <;> simp [h]
theorem eqv_stand (a b : Stand) : PV.eqv a.enc b.enc = decide (a = b) := by
  obtain ⟨a1, a2, a3, a4, a5⟩ := a
  obtain ⟨b1, b2, b3, b4, b5⟩ := b
  simp only [Stand.enc, Stand.items, PV.eqv, PV.eqvs, eqv_ints, Stand.mk.injEq]
  rw [Bool.eq_iff_iff]
  simp
theorem eqv_encO (a b : Option Int) : PV.eqv (encO a) (encO b) = decide (a = b) := by
  cases a <;> cases b <;> simp [encO, PV.eqv]
  rw [Bool.eq_iff_iff]; simp
theorem eqv_an (a b : An) : PV.eqv a.enc b.enc = decide (a = b) := by
  obtain ⟨a1, a2, a3⟩ := a
  obtain ⟨b1, b2, b3⟩ := b
  simp only [An.enc, PV.eqv, PV.eqvs, eqv_stand, eqv_encO, An.mk.injEq]
  rw [Bool.eq_iff_iff]
  simp
theorem ints_ky : ∀ (xs : List Int) (n : Nat), (xs.map PV.int).all (PV.ky n) = true
  | [], _ => rfl
  | x :: xs, n => by
    rw [List.map_cons, List.all_cons, ints_ky xs n]
    cases n <;> rfl
theorem encO_ky (o : Option Int) (n : Nat) : (encO o).ky n = true := by cases o <;> cases n <;> rfl
theorem an_ky (a : An) : a.enc.ky 8 = true := by
  simp [An.enc, Stand.enc, Stand.items, PV.ky, ints_ky, encO_ky]
end TT
end

section
set_option linter.all false
set_option autoImplicit false
namespace TT
/-! ### worlds with a alone, by the law -/
abbrev Pair := Option (Int × Option Int)
def encW : Pair → PV
  | none => .non
  | some (t, a) => .tup [.int t, encO a]
theorem encW_pu (p : Pair) : (encW p).pu = true := by
  cases p with
  | none => rfl
  | some q => simp [encW, encO_pu]
structure Wd where
  srv : Srv
  tok : Int
  wait : Pair
def Wd.V (x : Wd) : PV := .vl [.vl x.srv.items, .vl [.int x.tok, .non], .vl [encW x.wait, .non]]
def Wd.M (x : Wd) (rest : Mm := []) : Mm := x.srv.ob :: .lst [.int x.tok, .non] :: .lst [encW x.wait, .non] :: .lst [.ref 0, .ref 1, .ref 2] :: rest
theorem items_pu (s : Srv) : pus s.items = true := by simp [Srv.items, pus_ints, encO_pu]
theorem wd_pu (x : Wd) : x.V.pu = true := by simp [Wd.V, items_pu, encW_pu]
def AEv.lcode (e : AEv) : List Nat := match e with
  | .tick => [46, 46]
  | e => 97 :: e.code
def AEv.lenc (e : AEv) : PV := .str e.lcode
theorem lenc_pu (e : AEv) : e.lenc.pu = true := rfl
def tryL (R : Rule) (c : Bool) (x : Wd) : AEv → Pair × Wd
  | .tick => (none, ⟨{ x.srv with now := x.srv.now + 1 }, x.tok, x.wait⟩)
  | .got => match x.wait with
    | some (sh, a) => (none, ⟨x.srv, (match a with | some y => if !c || sh == x.tok then y else x.tok | none => x.tok), none⟩)
    | none => (none, x)
  | .ask => (some (x.tok, (R.askL x.srv x.tok).1), ⟨(R.askL x.srv x.tok).2, (R.askL x.srv x.tok).1.getD x.tok, x.wait⟩)
  | .drop => (some (x.tok, (R.askL x.srv x.tok).1), ⟨(R.askL x.srv x.tok).2, x.tok, x.wait⟩)
  | .late => (some (x.tok, (R.askL x.srv x.tok).1), ⟨(R.askL x.srv x.tok).2, x.tok, some (x.tok, (R.askL x.srv x.tok).1)⟩)
def refusedL : Pair → Bool
  | some (_, none) => true
  | _ => false
structure WOk (R : Rule) (x : Wd) : Prop where
  cred : R.spare.isSome = x.srv.cred.isSome
  len : x.srv.times.length ≤ 15000000
  times : TimesOk R x.srv x.tok
section
variable {x : Wd} {m rest : Mm} {v : PV} {i : Int}
theorem wm_tok : oIx (.ref 1) (.int 0) (x.M rest) = .ok (.int x.tok, (x.M rest)) := rfl
theorem wm_wait : oIx (.ref 2) (.int 0) (x.M rest) = .ok (encW x.wait, (x.M rest)) := rfl
theorem wm_set : oSet (.ref 1) (.int 0) (.int i) (x.M rest) = .ok (Wd.M ⟨x.srv, i, x.wait⟩ rest) := rfl
theorem wm_setW {w : Pair} : oSet (.ref 2) (.int 0) (encW w) (x.M rest) = .ok (Wd.M ⟨x.srv, x.tok, w⟩ rest) := rfl
theorem wm_setN : oSet (.ref 2) (.int 0) .non (x.M rest) = .ok (Wd.M ⟨x.srv, x.tok, none⟩ rest) := rfl
theorem wm_now : oIx (.ref 0) (.int 3) (x.M rest) = .ok (.int x.srv.now, (x.M rest)) := rfl
theorem wm_tick : oSet (.ref 0) (.int 3) (.int i) (x.M rest) = .ok (Wd.M ⟨{ x.srv with now := i }, x.tok, x.wait⟩ rest) := rfl
theorem ev0 {y z : Nat} : oIx (.str [y, z]) (.int 0) m = .ok (.str [y], m) := rfl
theorem ev1 {y z : Nat} : oIx (.str [y, z]) (.int 1) m = .ok (.str [z], m) := rfl
theorem tyS {z : List Nat} : tyOk m .str (.str z) = true := rfl
theorem idA : mIndexS (.str [97, 98]) [.str [97]] m = .ok (.int 0, m) := rfl
theorem inC {y : Nat} (hy : y = 33 ∨ y = 45 ∨ y = 126 ∨ y = 43) : oIn false (.str [97, y]) (.vl [.str [97, 98], .str [98, 97]]) m = .ok (.bl false, m) := by
  rcases hy with rfl | rfl | rfl | rfl <;> rfl
end
theorem event_ok {R : Rule} (c : Bool) {x : Wd} {rest : Mm} (h : WOk R x) (e : AEv) (he : e = .got → x.wait.isSome = true) : i_law_event [R.enc, .ref 3, e.lenc, .bl c] (x.M rest) = .ok (encW (tryL R c x e).1, (tryL R c x e).2.M rest) := by
  have ca : i_law_asked [R.enc, .ref 0, .int x.tok] (x.M rest) = .ok (encO (R.askL x.srv x.tok).1, (Wd.M ⟨(R.askL x.srv x.tok).2, x.tok, x.wait⟩ rest)) := asked_ok' (m := (x.M rest)) (b := 0) (by show 0 < rest.length + 4; omega) h.times h.cred h.len
  have gu : ∀ (y : Wd) sl, gUnp [4, 5, 6] (.ref 3) sl (y.M rest) = .ok (((sl.set 4 (some (.ref 0))).set 5 (some (.ref 1))).set 6 (some (.ref 2)), (y.M rest)) := fun y sl => rfl
  cases e with
  | tick => simp [i_law_event, bodyI, s_law_event, startS, gu, AEv.lenc, AEv.lcode, wm_now, wm_tick, endF, tryL, encW]
  | got =>
    obtain ⟨s, t, w⟩ := x
    cases w with
    | none => simp at he
    | some q =>
      obtain ⟨sh, a⟩ := q
      have g3 := wm_wait (rest := rest) (x := ⟨s, t, some (sh, a)⟩)
      have q2 := wm_setN (rest := rest) (x := ⟨s, t, some (sh, a)⟩)
      have q3 := fun i => wm_set (rest := rest) (x := ⟨s, t, none⟩) (i := i)
      have g1 := wm_tok (rest := rest) (x := ⟨s, t, some (sh, a)⟩)
      have i43 := fun m => inC (m := m) (y := 43) (by simp)
      simp only [encW] at g3
      cases a with
      | none => simp [i_law_event, bodyI, s_law_event, startS, gu, AEv.lenc, AEv.lcode, AEv.code, tyS, ev0, ev1, idA, i43, g1, g3, q2, endF, tryL, encW, encO]
      | some y =>
        simp only [encO] at g3
        cases c with
        | false => simp [i_law_event, bodyI, s_law_event, startS, gu, AEv.lenc, AEv.lcode, AEv.code, tyS, ev0, ev1, idA, i43, g1, g3, q2, q3, endF, tryL, encW, encO]
        | true =>
          by_cases hts : sh = t
          · subst hts
            simp [i_law_event, bodyI, s_law_event, startS, gu, AEv.lenc, AEv.lcode, AEv.code, tyS, ev0, ev1, idA, i43, g1, g3, q2, q3, endF, tryL, encW, encO]
          · simp [i_law_event, bodyI, s_law_event, startS, gu, AEv.lenc, AEv.lcode, AEv.code, tyS, ev0, ev1, idA, i43, g1, g3, q2, q3, endF, tryL, encW, encO, hts]
  | ask =>
    have g1 := wm_tok (rest := rest) (x := x)
    have i33 := fun m => inC (m := m) (y := 33) (by simp)
    unfold tryL
    rcases hq : R.askL x.srv x.tok with ⟨a, S⟩
    rw [hq] at ca
    have q3 := fun i => wm_set (rest := rest) (x := ⟨S, x.tok, x.wait⟩) (i := i)
    cases a <;> simp only [encO] at ca <;> simp [i_law_event, bodyI, s_law_event, startS, gu, AEv.lenc, AEv.lcode, AEv.code, tyS, ev0, ev1, idA, i33, g1, ca, cI, q3, endF, encW, encO, hq]
  | drop =>
    have g1 := wm_tok (rest := rest) (x := x)
    have i33 := fun m => inC (m := m) (y := 45) (by simp)
    unfold tryL
    rcases hq : R.askL x.srv x.tok with ⟨a, S⟩
    rw [hq] at ca
    simp [i_law_event, bodyI, s_law_event, startS, gu, AEv.lenc, AEv.lcode, AEv.code, tyS, ev0, ev1, idA, i33, g1, ca, cI, endF, encW, hq]
  | late =>
    have g1 := wm_tok (rest := rest) (x := x)
    have i33 := fun m => inC (m := m) (y := 126) (by simp)
    unfold tryL
    rcases hq : R.askL x.srv x.tok with ⟨a, S⟩
    rw [hq] at ca
    have q2 := fun w => wm_setW (rest := rest) (x := ⟨S, x.tok, x.wait⟩) (w := some (x.tok, w))
    simp only [encW] at q2
    simp [i_law_event, bodyI, s_law_event, startS, gu, AEv.lenc, AEv.lcode, AEv.code, tyS, ev0, ev1, idA, i33, g1, ca, cI, q2, endF, encW, hq]
theorem copied_ok (x : Wd) : i_law_copied [x.V] [] = .ok (.ref 3, x.M) := by
  have gu : ∀ sl m, gUnp [1, 2, 3] x.V sl m = .ok (((sl.set 1 (some (.vl x.srv.items))).set 2 (some (.vl [.int x.tok, .non]))).set 3 (some (.vl [encW x.wait, .non])), m) := fun sl m => rfl
  have h2 : ∀ m, oIx (.vl x.srv.items) (.int 2) m = .ok (.vl (x.srv.times.map .int), m) := fun m => rfl
  have h3 : ∀ m, oSlice none (some 2) (.vl x.srv.items) m = .ok (.vl [.int x.srv.newest, .int x.srv.top], m) := fun m => rfl
  have h4 : ∀ m, oSlice (some 3) none (.vl x.srv.items) m = .ok (.vl [.int x.srv.now, encO x.srv.cred, .int x.srv.seen, .bl x.srv.over], m) := fun m => rfl
  have h5 : ∀ m, fList [.vl (x.srv.times.map .int)] m = .ok (.vl (x.srv.times.map .int), m) := fun m => rfl
  have h6 : ∀ m, oAdd (.vl [.int x.srv.newest, .int x.srv.top]) (.vl [.vl (x.srv.times.map .int)]) m = .ok (.vl [.int x.srv.newest, .int x.srv.top, .vl (x.srv.times.map .int)], m) := fun m => rfl
  have h7 : ∀ m : Mm, oAddM (.vl [.int x.srv.newest, .int x.srv.top, .vl (x.srv.times.map .int)]) (.vl [.int x.srv.now, encO x.srv.cred, .int x.srv.seen, .bl x.srv.over]) m = .ok (.ref m.length, m ++ [x.srv.ob]) := fun m => rfl
  have h8 : ∀ (a b : PV) (m : Mm), fListM [.vl [a, b]] m = .ok (.ref m.length, m ++ [.lst [a, b]]) := fun a b m => rfl
  simp [i_law_copied, bodyI, s_law_copied, startS, gu, h2, h3, h4, h5, h6, h7, h8, endF]
  rfl
theorem frzs_pu {f : PV → Option PV} (hf : ∀ v, v.pu = true → f v = some v) : ∀ xs : List PV, pus xs = true → frz.frzs f xs = some xs
  | [], _ => rfl
  | x :: xs, h => by
    simp only [pus, Bool.and_eq_true] at h
    simp only [frz.frzs, hf x h.1, frzs_pu hf xs h.2]
theorem frz3 {x : Wd} : frz 3 x.M (.ref 3) = some x.V := by
  have hi := items_pu x.srv
  have h0 : frz 2 x.M (.ref 0) = some (.vl x.srv.items) := by
    have : x.M[0]? = some x.srv.ob := rfl
    rw [show (2 : Nat) = 1 + 1 from rfl]
    unfold frz
    rw [if_neg (by simp [PV.pu])]
    simp only [this, Srv.ob]
    rw [frzs_pu (fun v hv => frz_pu hv) _ hi]; rfl
  have h1 : frz 2 x.M (.ref 1) = some (.vl [.int x.tok, .non]) := rfl
  have h2 : frz 2 x.M (.ref 2) = some (.vl [encW x.wait, .non]) := by
    have : x.M[2]? = some (.lst [encW x.wait, .non]) := rfl
    rw [show (2 : Nat) = 1 + 1 from rfl]
    unfold frz
    rw [if_neg (by simp [PV.pu])]
    simp only [this]
    rw [frzs_pu (fun v hv => frz_pu hv) _ (by simp [encW_pu])]; rfl
  have g3 : x.M[3]? = some (.lst [.ref 0, .ref 1, .ref 2]) := rfl
  rw [show (3 : Nat) = 2 + 1 from rfl]
  unfold frz
  rw [if_neg (by simp [PV.pu])]
  simp only [g3, frz.frzs, h0, h1, h2, Option.map_some]
  rfl
theorem try_ok {R : Rule} (c : Bool) {x : Wd} (h : WOk R x) (e : AEv) (he : e = .got → x.wait.isSome = true) (m : Mm) :
    cP f_law_try [R.enc, x.V, e.lenc, .bl c] m = .ok (.tup [.bl (refusedL (tryL R c x e).1), (tryL R c x e).2.V], m) := by
  have h1 := event_ok (rest := []) c h e he
  have : f_law_try [R.enc, x.V, e.lenc, .bl c] = .ok (.tup [.bl (refusedL (tryL R c x e).1), (tryL R c x e).2.V]) := by
    generalize hq : tryL R c x e = q at h1
    obtain ⟨p, y⟩ := q
    have fz : ∀ b : Bool, frz 4 y.M (.tup [.bl b, .ref 3]) = some (.tup [.bl b, y.V]) := fun b => by
      rw [show (4 : Nat) = 3 + 1 from rfl]
      unfold frz
      rw [if_neg (by simp [PV.pu])]
      have e1 : frz 3 y.M (.bl b) = some (.bl b) := frz_pu rfl
      simp only [frz.frzs, e1, frz3]
      rfl
    simp only at h1
    cases p with
    | none =>
      simp only [encW] at h1
      simp [f_law_try, bodyP, bodyI, s_law_try, startS, cI, copied_ok, h1, endF, fz, refusedL]
    | some q =>
      obtain ⟨t, a⟩ := q
      simp only [encW] at h1
      have ix : ∀ m, oIx (.tup [.int t, encO a]) (.int 1) m = .ok (encO a, m) := fun m => rfl
      cases a <;> simp only [encO] at h1 ix <;> simp [f_law_try, bodyP, bodyI, s_law_try, startS, cI, copied_ok, h1, endF, fz, refusedL, ix]
  unfold cP
  rw [if_pos (by simp [enc_pu, wd_pu, lenc_pu]), this]
theorem world_ok (R : Rule) (m : Mm) : cP f_law_world [R.enc] m = .ok (Wd.V ⟨R.server, 0, none⟩, m) := by
  have iw : i_law_world [R.enc] [] = .ok (.ref 3, Wd.M ⟨R.server, 0, none⟩) := rfl
  have : f_law_world [R.enc] = .ok (Wd.V ⟨R.server, 0, none⟩) := by
    have hh : f_law_world [R.enc] = (match i_law_world [R.enc] [] with
      | .ok (v, m) => Rs.ofO (frz 4 m v)
      | .ex e _ => .ex e []
      | .no => .no) := rfl
    rw [hh, iw]
    have fz : frz 4 (Wd.M ⟨R.server, 0, none⟩) (.ref 3) = some (Wd.V ⟨R.server, 0, none⟩) := by
      have hi := items_pu R.server
      have h0 : frz 3 (Wd.M ⟨R.server, 0, none⟩) (.ref 0) = some (.vl R.server.items) := by
        have : (Wd.M ⟨R.server, 0, none⟩)[0]? = some R.server.ob := rfl
        rw [show (3 : Nat) = 2 + 1 from rfl]
        unfold frz
        rw [if_neg (by simp [PV.pu])]
        simp only [this, Srv.ob]
        rw [frzs_pu (fun v hv => frz_pu hv) _ hi]; rfl
      have g3 : (Wd.M ⟨R.server, 0, none⟩)[3]? = some (.lst [.ref 0, .ref 1, .ref 2]) := rfl
      have h1 : frz 3 (Wd.M ⟨R.server, 0, none⟩) (.ref 1) = some (.vl [.int 0, .non]) := rfl
      have h2 : frz 3 (Wd.M ⟨R.server, 0, none⟩) (.ref 2) = some (.vl [.non, .non]) := rfl
      rw [show (4 : Nat) = 3 + 1 from rfl]
      unfold frz
      rw [if_neg (by simp [PV.pu])]
      simp only [g3, frz.frzs, h0, h1, h2, Option.map_some]
      rfl
    show Rs.ofO (frz 4 (Wd.M ⟨R.server, 0, none⟩) (.ref 3)) = _
    rw [fz]; rfl
  unfold cP
  rw [if_pos (by simp [enc_pu]), this]
end TT
end

section
set_option linter.all false
set_option autoImplicit false
namespace TT
def cutD (R : Rule) (d : Int) : Int := if R.keep + 1 < d then R.keep + 1 else d
structure Tidy (R : Rule) (st : Stand) : Prop where
  lead : R.strict = false → st.lead = 0
  spare : R.spare = none → st.spared = 0 ∧ st.counted = 0
/-- a stand of the program and a world of the law go together; nothing waits, nothing is over -/
structure Lk (R : Rule) (n : An) (x : Wd) : Prop where
  sim : Sim R n.stand x.srv
  old : n.old = cutD R (x.srv.newest - x.tok)
  t0 : 0 ≤ x.tok
  t1 : x.tok ≤ x.srv.newest
  wn : n.wait = none
  wx : x.wait = none
  tidy : Tidy R n.stand
  live : x.srv.over = false
theorem tidy_first {R : Rule} : Tidy R R.first := ⟨fun h => by simp [Rule.first, h], fun h => by simp [Rule.first, h]⟩
theorem tidy_tick {R : Rule} {st : Stand} (h : Tidy R st) : Tidy R (R.tick st) := by
  unfold Rule.tick
  cases R.leeway with
  | none => exact h
  | some l =>
    by_cases ho : st.over = true
    · simp only [ho, if_true]; exact h
    · simp only [ho]; exact ⟨h.lead, h.spare⟩
theorem tidy_req {R : Rule} (ok : R.Ok) {st : Stand} (h : Tidy R st) {o : Int} (h0 : 0 ≤ o) : Tidy R (R.req st o).1 := by
  unfold Rule.req
  split
  · split
    · cases hs : R.spare with
      | none => exact ⟨fun q => by simp [Rule.withTok, q], fun _ => by simp only [Rule.withTok]; exact h.spare hs⟩
      | some p => exact ⟨fun q => by simp [Rule.withTok, q], fun q => by rw [hs] at q; cases q⟩
    · rename_i ho
      by_cases hn : R.new = true
      · simp only [hn, if_true]
        refine ⟨fun q => by simp [Rule.withTok, q], fun q => ?_⟩
        simp only [Rule.withTok, q]
        exact ⟨trivial, (h.spare q).2⟩
      · simp only [hn, if_neg (show ¬ (false = true) from by decide)]
        refine ⟨fun q => ?_, fun q => ?_⟩
        · have := h.lead q
          show (if o < st.lead then o else st.lead) = 0
          rw [this, if_neg (by omega)]
        · simp only [q]
          exact ⟨trivial, (h.spare q).2⟩
  · exact ⟨h.lead, h.spare⟩
theorem req_over {R : Rule} {st : Stand} {o : Int} (h : st.over = false) : (∃ S, R.req st o = (S, .refused)) ∨ (R.req st o).1.over = false := by
  unfold Rule.req
  split
  · right
    split
    · split <;> rfl
    · by_cases hn : R.new = true <;> simp [hn, Rule.withTok]
  · exact .inl ⟨_, rfl⟩
theorem tick_over {R : Rule} {st : Stand} (h : st.over = false) : (R.tick st).over = false := by
  unfold Rule.tick
  cases R.leeway with
  | none => exact h
  | some l => simp [h]
theorem lk_first {R : Rule} (ok : R.Ok) : Lk R (firstA R) ⟨R.server, 0, none⟩ :=
  ⟨sim_first ok, by have := ok.keep.1; show (0 : Int) = cutD R (0 - 0); unfold cutD; rw [if_neg (by omega)]; rfl, Int.le_refl _, Int.le_refl _, rfl, rfl, tidy_first, rfl⟩
theorem cutD_up {R : Rule} (ok : R.Ok) {d : Int} (h : 0 ≤ d) : cutO R (cutD R d) = cutD R (d + 1) := by
  have := ok.keep.1
  unfold cutO cutD
  by_cases h1 : R.keep + 1 < d
  · rw [if_pos h1, if_pos (by omega), if_pos (by omega)]
  · rw [if_neg h1]
/-- both steps -/
theorem lk_step {R : Rule} (ok : R.Ok) {n : An} {x : Wd} (h : Lk R n x) (e : AEv) (he : e = .ask ∨ e = .drop ∨ e = .tick) :
    refusedL (tryL R false x e).1 = (aloneN R n e).1 ∧ ((aloneN R n e).1 = false → Lk R (aloneN R n e).2 (tryL R false x e).2) ∧ (tryL R false x e).2.srv.newest ≤ x.srv.newest + 1 := by
  obtain ⟨a1, a2, a3, a4, a5, a6⟩ := sim_ask ok h.sim h.t0 h.t1
  have hoo : n.old = if R.keep + 1 < x.srv.newest - x.tok then R.keep + 1 else x.srv.newest - x.tok := h.old
  have o0 : 0 ≤ n.old := by
    have := ok.keep.1; have := h.t1
    rw [hoo]; split <;> omega
  have hso : n.stand.over = false := h.sim.over.trans h.live
  have td := tidy_req ok h.tidy o0
  have ro := req_over (R := R) (o := n.old) hso
  unfold Rule.answer at a1 a2 a3
  simp only [← hoo] at a1 a2 a3
  have ask : ∀ f : Int → Option Int → Int × Option Int, ∀ g : Int → Option Int → Int, (∀ y, (f y none).2 = none) → (∀ (a : Int) (k : Rule.Kind), k = .made ∧ a = x.srv.newest + 1 ∧ (R.askL x.srv x.tok).2.newest = x.srv.newest + 1 ∨ k = .newest ∧ a = x.srv.newest ∧ (R.askL x.srv x.tok).2.newest = x.srv.newest → (f (oldI R n.old k) none).1 = cutD R ((R.askL x.srv x.tok).2.newest - g x.tok (some a)) ∧ 0 ≤ g x.tok (some a) ∧ g x.tok (some a) ≤ (R.askL x.srv x.tok).2.newest) →
      refusedL (some (x.tok, (R.askL x.srv x.tok).1)) = (askA R n f).1 ∧ ((askA R n f).1 = false → Lk R (askA R n f).2 ⟨(R.askL x.srv x.tok).2, g x.tok (R.askL x.srv x.tok).1, x.wait⟩) := fun f g hw hf => by
    unfold askA
    rw [h.wn]
    generalize hq : R.req n.stand n.old = q at a1 a2 a3 td ro
    obtain ⟨S, k⟩ := q
    cases k with
    | refused =>
      simp only at a1 a2 a3
      rw [← a2]
      exact ⟨rfl, fun z => by cases z⟩
    | made =>
      simp only at a1 a2 a3 td ro
      rcases ro with ⟨S', z⟩ | ro
      · cases z
      rw [← a2]
      obtain ⟨f1, f2, f3⟩ := hf (x.srv.newest + 1) .made (.inl ⟨rfl, rfl, a1.symm⟩)
      exact ⟨rfl, fun _ => ⟨a3, f1, f2, f3, hw _, h.wx, td, a3.over.symm.trans ro⟩⟩
    | newest =>
      simp only at a1 a2 a3 td ro
      rcases ro with ⟨S', z⟩ | ro
      · cases z
      rw [← a2]
      obtain ⟨f1, f2, f3⟩ := hf x.srv.newest .newest (.inr ⟨rfl, rfl, a1.symm⟩)
      exact ⟨rfl, fun _ => ⟨a3, f1, f2, f3, hw _, h.wx, td, a3.over.symm.trans ro⟩⟩
  have n0 := h.sim.n0
  have k0 := ok.keep.1
  have t0 := h.t0
  have t1 := h.t1
  rcases he with rfl | rfl | rfl
  · obtain ⟨b1, b2⟩ := ask (fun _ y => (0, y)) (fun t a => a.getD t) (fun _ => rfl) (fun a k hk => by
      rcases hk with ⟨rfl, rfl, z⟩ | ⟨rfl, rfl, z⟩
      · rw [z]
        refine ⟨?_, by show 0 ≤ x.srv.newest + 1; omega, by show x.srv.newest + 1 ≤ _; omega⟩
        show (0 : Int) = cutD R (x.srv.newest + 1 - (x.srv.newest + 1))
        unfold cutD; rw [if_neg (by omega)]; omega
      · rw [z]
        refine ⟨?_, by show 0 ≤ x.srv.newest; omega, by show x.srv.newest ≤ _; omega⟩
        show (0 : Int) = cutD R (x.srv.newest - x.srv.newest)
        unfold cutD; rw [if_neg (by omega)]; omega)
    exact ⟨b1, b2, a5⟩
  · obtain ⟨b1, b2⟩ := ask (fun a y => (a, y)) (fun t _ => t) (fun _ => rfl) (fun a k hk => by
      rcases hk with ⟨rfl, rfl, z⟩ | ⟨rfl, rfl, z⟩
      · rw [z]
        refine ⟨?_, by show 0 ≤ x.tok; omega, by show x.tok ≤ _; omega⟩
        show cutO R n.old = cutD R (x.srv.newest + 1 - x.tok)
        rw [h.old, cutD_up ok (by omega)]
        congr 1; omega
      · rw [z]
        exact ⟨h.old, by show 0 ≤ x.tok; omega, by show x.tok ≤ _; omega⟩)
    exact ⟨b1, b2, a5⟩
  · exact ⟨rfl, fun _ => ⟨sim_tick h.sim, h.old, h.t0, h.t1, h.wn, h.wx, tidy_tick h.tidy, h.live⟩, by show x.srv.newest ≤ _; omega⟩
theorem lk_wok {R : Rule} {n : An} {x : Wd} (h : Lk R n x) (hn : x.srv.newest ≤ 900) : WOk R x :=
  ⟨h.sim.cred, by have := h.sim.tl; omega, (sim_ages h.sim h.t0 h.t1).2⟩
/-! ### what the law tells of a world -/
def credO (R : Rule) (st : Stand) : Option Int := R.spare.map fun _ => st.spared
def keyV (R : Rule) (st : Stand) : PV := .tup [.int st.lead, .tup (st.ages.map .int), encO (credO R st), .int st.counted]
def nodeV (R : Rule) (n : An) : PV := .tup [keyV R n.stand, .int n.old, .non, .non, .non]
theorem keyV_pu (R : Rule) (st : Stand) : (keyV R st).pu = true := by simp [keyV, pus_ints, encO_pu]
theorem nodeV_pu (R : Rule) (n : An) : (nodeV R n).pu = true := by simp [nodeV, keyV_pu]
def keyB : SS := (sIf (tV (e1 (oIs true .non) (e2 oIx (eVar 0) (eC (.int 3))))) (sSeq (sAsg (eIf (tV (e2 oGt (e2 oIx (eVar 1) (eC (.int 0))) (eVar 3))) (e2 oSub (e2 oIx (eVar 1) (eC (.int 3))) (e2 oIx (e2 oIx (eVar 1) (eC (.int 2))) (e2 oSub (e2 oIx (eVar 1) (eC (.int 0))) (eVar 3)))) (e2 oAdd (e2 oIx (eVar 0) (eC (.int 3))) (eC (.int 1)))) (TT.gName 4))
  (sExpr (eM .list mAppend (eVar 2) (aCons (eN fMin (aCons (eN fInt (aCons (eVar 4) aNil)) (aCons (eN fInt (aCons (e2 oAdd (e2 oIx (eVar 0) (eC (.int 3))) (eC (.int 1))) aNil)) aNil))) aNil)))) sSkip)
theorem key_eq : s_law_key = (sSeq (sIf (tT (e2 oIx (eVar 1) (eC (.int 6)))) (sRet (eTup (aCons (eC (.str [111, 118, 101, 114])) aNil))) sSkip)
  (sSeq (sAsg (eLstM aNil) (TT.gName 2))
  (sSeq (sFor (TT.iRng1 (e2 oIx (eVar 0) (eC (.int 0)))) (TT.gName 3) keyB)
  (sSeq (sAsg (eIf (tT (e2 oIx (eVar 0) (eC (.int 2)))) (eN fMin (aCons (eN fInt (aCons (e2 oSub (e2 oIx (eVar 1) (eC (.int 0))) (e2 oIx (eVar 1) (eC (.int 1)))) aNil)) (aCons (eN fInt (aCons (e2 oAdd (e2 oIx (eVar 0) (eC (.int 0))) (eC (.int 1))) aNil)) aNil))) (eC (.int 0))) (TT.gName 5))
  (sRet (eTup (aCons (eVar 5) (aCons (eN fTuple (aCons (eVar 2) aNil)) (aCons (e2 oIx (eVar 1) (eC (.int 4))) (aCons (eIf (tV (e1 (oIs true .non) (e2 oIx (eVar 0) (eC (.int 4))))) (e2 oIx (eVar 1) (eC (.int 5))) (eC (.int 0))) aNil)))))))))) := rfl
def agesL (R : Rule) (s : Srv) (n : Nat) : List Int := match R.leeway with | none => [] | some l => (List.range n).map (ageOf l s)
theorem key_loop {R : Rule} {s : Srv} (n0 : 0 ≤ s.newest) (tl : (s.times.length : Int) = s.newest + 1) : ∀ (n j : Nat) (acc : List PV) (x3 x4 x5 : Option PV), acc.length + n ≤ 100 → n ≤ 2 →
    ∃ y3 y4, forL (gName 3) keyB (rngL j n) [some R.enc, some (.vl s.items), some (.ref 0), x3, x4, x5] [.lst acc] = .ok (.nx, [some R.enc, some (.vl s.items), some (.ref 0), y3, y4, x5], [.lst (acc ++ (match R.leeway with | none => [] | some l => (List.range' j n).map fun i => PV.int (ageOf l s i)))])
  | 0, j, acc, x3, x4, x5, _, _ => ⟨x3, x4, by cases R.leeway <;> simp [rngL]⟩
  | n + 1, j, acc, x3, x4, x5, ha, hn => by
    have i3 : ∀ m, oIx R.enc (.int 3) m = .ok (encO R.leeway, m) := fun m => rfl
    have s0 : ∀ m, oIx (.vl s.items) (.int 0) m = .ok (.int s.newest, m) := fun m => rfl
    have s2 : ∀ m, oIx (.vl s.items) (.int 2) m = .ok (.vl (s.times.map .int), m) := fun m => rfl
    have s3 : ∀ m, oIx (.vl s.items) (.int 3) m = .ok (.int s.now, m) := fun m => rfl
    rw [rngL]
    cases hw : R.leeway with
    | none =>
      obtain ⟨y3, y4, e⟩ := key_loop n0 tl n (j + 1) acc (some (.int j)) x4 x5 (by omega) (by omega)
      rw [hw] at e
      simp only [List.append_nil] at e ⊢
      refine ⟨y3, y4, ?_⟩
      have hb : keyB [some R.enc, some (.vl s.items), some (.ref 0), some (.int j), x4, x5] [.lst acc] = .ok (.nx, [some R.enc, some (.vl s.items), some (.ref 0), some (.int j), x4, x5], [.lst acc]) := by
        simp [keyB, i3, hw, encO]
      rw [forL_cons]
      simp [hb]
      exact e
    | some l =>
      have hb : ∃ z4, keyB [some R.enc, some (.vl s.items), some (.ref 0), some (.int j), x4, x5] [.lst acc] = .ok (.nx, [some R.enc, some (.vl s.items), some (.ref 0), some (.int j), z4, x5], [.lst (acc ++ [.int (ageOf l s j)])]) := by
        have ty : tyOk [.lst acc] .list (.ref 0) = true := rfl
        have ap : ∀ x : PV, mAppend (.ref 0) [x] [.lst acc] = .ok (.non, [.lst (acc ++ [x])]) := fun x => by
          have : ([Ob.lst acc] : Mm)[0]? = some (.lst acc) := rfl
          rw [mAppend_ref this (Nat.lt_of_le_of_lt (show acc.length ≤ 100 by omega) (by decide))]; rfl
        have mn : ∀ (a b : Int) m, fMin [.int a, .int b] m = .ok (.int (if b < a then b else a), m) := fun a b m => rfl
        by_cases hj : (j : Int) < s.newest
        · have tx : ∀ m, oIx (.vl (s.times.map .int)) (.int (s.newest - j)) m = .ok (.int ((s.times[(s.newest - j).toNat]?).getD 0), m) := fun m => by
            refine oIx_vl ?_
            have hlt : (s.newest - j).toNat < s.times.length := by omega
            have e := atI_nat (xs := s.times.map PV.int) (j := (s.newest - j).toNat) (x := .int ((s.times[(s.newest - j).toNat]?).getD 0)) (by
              rw [List.getElem?_map, List.getElem?_eq_getElem hlt]; rfl)
            have : (((s.newest - j).toNat : Nat) : Int) = s.newest - j := by omega
            rw [this] at e
            exact e
          generalize hg : (s.times[(s.newest - j).toNat]?).getD 0 = g at tx
          have ha : ageOf l s j = if l + 1 < s.now - g then l + 1 else s.now - g := by unfold ageOf; rw [if_pos hj, hg]
          exact ⟨some (.int (s.now - g)), by simp [keyB, i3, hw, encO, s0, s2, s3, hj, tx, ty, ap, mn, ha]⟩
        · have ha : ageOf l s j = l + 1 := by unfold ageOf; rw [if_neg hj]
          exact ⟨some (.int (l + 1)), by simp [keyB, i3, hw, encO, s0, s2, s3, hj, ty, ap, mn, ha]⟩
      obtain ⟨z4, hb⟩ := hb
      obtain ⟨y3, y4, e⟩ := key_loop n0 tl n (j + 1) (acc ++ [.int (ageOf l s j)]) (some (.int j)) z4 x5 (by
        rw [List.length_append, List.length_singleton]; omega) (by omega)
      rw [hw] at e
      refine ⟨y3, y4, ?_⟩
      rw [forL_cons]
      simp [hb]
      simp only [List.append_assoc] at e
      rw [List.range'_succ]
      exact e
set_option maxHeartbeats 4000000 in
theorem key_ok {R : Rule} (ok : R.Ok) {st : Stand} {s : Srv} (S : Sim R st s) (td : Tidy R st) (hl : s.over = false) (m : Mm) : cP f_law_key [R.enc, .vl s.items] m = .ok (keyV R st, m) := by
  have L := S.live hl
  have tl := S.tl
  have n0 := S.n0
  obtain ⟨a0, a1⟩ := ok.keep
  have i0 : ∀ m, oIx R.enc (.int 0) m = .ok (.int R.keep, m) := fun m => rfl
  have i2 : ∀ m, oIx R.enc (.int 2) m = .ok (.bl R.strict, m) := fun m => rfl
  have i3 : ∀ m, oIx R.enc (.int 3) m = .ok (encO R.leeway, m) := fun m => rfl
  have i4 : ∀ m, oIx R.enc (.int 4) m = .ok (encO R.spare, m) := fun m => rfl
  have s0 : ∀ m, oIx (.vl s.items) (.int 0) m = .ok (.int s.newest, m) := fun m => rfl
  have s1 : ∀ m, oIx (.vl s.items) (.int 1) m = .ok (.int s.top, m) := fun m => rfl
  have s2 : ∀ m, oIx (.vl s.items) (.int 2) m = .ok (.vl (s.times.map .int), m) := fun m => rfl
  have s3 : ∀ m, oIx (.vl s.items) (.int 3) m = .ok (.int s.now, m) := fun m => rfl
  have s4 : ∀ m, oIx (.vl s.items) (.int 4) m = .ok (encO s.cred, m) := fun m => rfl
  have s5 : ∀ m, oIx (.vl s.items) (.int 5) m = .ok (.int s.seen, m) := fun m => rfl
  have s6 : ∀ m, oIx (.vl s.items) (.int 6) m = .ok (.bl false, m) := fun m => by rw [← hl]; rfl
  have tx : ∀ (j : Nat) m, (j : Int) < s.newest → oIx (.vl (s.times.map .int)) (.int (s.newest - j)) m = .ok (.int ((s.times[(s.newest - j).toNat]?).getD 0), m) := fun j m hj => by
    refine oIx_vl ?_
    have hlt : (s.newest - j).toNat < s.times.length := by omega
    have e := atI_nat (xs := s.times.map PV.int) (j := (s.newest - j).toNat) (x := .int ((s.times[(s.newest - j).toNat]?).getD 0)) (by
      rw [List.getElem?_map, List.getElem?_eq_getElem hlt]; rfl)
    have : (((s.newest - j).toNat : Nat) : Int) = s.newest - j := by omega
    rw [this] at e
    exact e
  have hleadV : (if R.strict then (if R.keep + 1 < s.newest - s.top then R.keep + 1 else s.newest - s.top) else 0) = st.lead := by
    cases hs : R.strict with
    | false => exact (td.lead hs).symm
    | true => exact (L.lead hs).symm
  have hcred : encO s.cred = encO (credO R st) := by
    unfold credO
    cases hp : R.spare with
    | none =>
      have := S.cred
      rw [hp] at this
      cases hc : s.cred with
      | none => rfl
      | some c => rw [hc] at this; cases this
    | some p => rw [(L.spare p hp).1]; rfl
  have hcnt : (if R.spare.isSome then s.seen else 0) = st.counted := by
    cases hp : R.spare with
    | none => exact (td.spare hp).2.symm
    | some p => exact (L.spare p hp).2.2.2.1.symm
  have hages : st.ages = (match R.leeway with | none => [] | some l => (List.range R.keep.toNat).map (ageOf l s)) := by
    cases hw : R.leeway with
    | none => exact L.none hw
    | some l =>
      obtain ⟨g1, g2⟩ := L.ages l hw
      refine List.ext_getElem? fun i => ?_
      simp only [List.getElem?_map, List.getElem?_range]
      by_cases hi : i < R.keep.toNat
      · rw [g2 i (by omega)]
        simp [hi]
      · rw [List.getElem?_eq_none (by omega)]
        simp [hi]
  have : f_law_key [R.enc, .vl s.items] = .ok (keyV R st) := by
    unfold keyV
    rw [hages, ← hcred, ← hcnt, ← hleadV]
    have fz : ∀ (a : Int) (b : List Int) (c : Option Int) (d : Int) m, frz 4 m (.tup [.int a, .tup (b.map .int), encO c, .int d]) = some (.tup [.int a, .tup (b.map .int), encO c, .int d]) := fun a b c d m => frz_pu (by simp [pus_ints, encO_pu])
    obtain ⟨y3, y4, lp⟩ := key_loop (R := R) n0 tl R.keep.toNat 0 [] none none none (by simp; omega) (by omega)
    have hz : ([] ++ (match R.leeway with | none => [] | some l => (List.range' 0 R.keep.toNat).map fun i => PV.int (ageOf l s i)) : List PV) = (match R.leeway with | none => [] | some l => (List.range R.keep.toNat).map (ageOf l s)).map .int := by
      rw [List.nil_append]
      cases R.leeway with
      | none => rfl
      | some l => simp [List.range_eq_range']
    rw [hz, show ((0 : Nat) : Int) = 0 from rfl] at lp
    generalize (match R.leeway with | none => [] | some l => (List.range R.keep.toNat).map (ageOf l s)) = AG at lp
    have rg : -P62 ≤ R.keep ∧ R.keep < P62 := by
      have : P62 = 4611686018427387904 := rfl
      omega
    have ft : ∀ xs, fTuple [.ref 0] [.lst xs] = .ok (.tup xs, [.lst xs]) := fun xs => rfl
    have mn : ∀ (a b : Int) m, fMin [.int a, .int b] m = .ok (.int (if b < a then b else a), m) := fun a b m => rfl
    have ns : ∀ m, oIs true .non (encO R.spare) m = .ok (.bl R.spare.isSome, m) := fun m => encO_nnon R.spare m
    simp only [f_law_key, bodyP, bodyI, key_eq, startS]
    cases hs : R.strict <;> cases hp : R.spare.isSome <;> rw [hs] at i2 <;> rw [hp] at ns <;> simp [i0, i2, i4, s0, s1, s4, s5, s6, sFor_ap, rg, lp, ft, mn, ns, endF, fz, oNeg]
  unfold cP
  rw [if_pos (by simp [enc_pu, items_pu]), this]
theorem old_ok (R : Rule) (s : Srv) (t : Option Int) (m : Mm) : cP f_law_old [R.enc, .vl s.items, encO t] m = .ok (encO (t.map fun t => cutD R (s.newest - t)), m) := by
  have i0 : ∀ m, oIx R.enc (.int 0) m = .ok (.int R.keep, m) := fun m => rfl
  have s0 : ∀ m, oIx (.vl s.items) (.int 0) m = .ok (.int s.newest, m) := fun m => rfl
  have mn : ∀ (a b : Int) m, fMin [.int a, .int b] m = .ok (.int (if b < a then b else a), m) := fun a b m => rfl
  have : f_law_old [R.enc, .vl s.items, encO t] = .ok (encO (t.map fun t => cutD R (s.newest - t))) := by
    cases t with
    | none => simp [f_law_old, bodyP, bodyI, s_law_old, startS, encO, endF]
    | some t => simp [f_law_old, bodyP, bodyI, s_law_old, startS, encO, endF, i0, s0, mn, cutD]
  unfold cP
  rw [if_pos (by simp [enc_pu, items_pu, encO_pu]), this]
theorem node_ok {R : Rule} (ok : R.Ok) {n : An} {x : Wd} (h : Lk R n x) (m : Mm) : cP f_law_node [R.enc, x.V] m = .ok (nodeV R n, m) := by
  have hk := fun m => key_ok ok h.sim h.tidy h.live m
  have o1 := fun m => old_ok R x.srv (some x.tok) m
  have o2 := fun m => old_ok R x.srv none m
  simp only [encO, Option.map_some, Option.map_none, ← h.old] at o1 o2
  have gu : ∀ sl m, gUnp [2, 3, 4] x.V sl m = .ok (((sl.set 2 (some (.vl x.srv.items))).set 3 (some (.vl [.int x.tok, .non]))).set 4 (some (.vl [encW x.wait, .non])), m) := fun sl m => rfl
  have t0 : ∀ m, oIx (.vl [.int x.tok, .non]) (.int 0) m = .ok (.int x.tok, m) := fun m => rfl
  have t1 : ∀ m, oIx (.vl [.int x.tok, .non]) (.int 1) m = .ok (.non, m) := fun m => rfl
  have w0 : ∀ m, oIx (.vl [.non, .non]) (.int 0) m = .ok (.non, m) := fun m => rfl
  have w1 : ∀ m, oIx (.vl [.non, .non]) (.int 1) m = .ok (.non, m) := fun m => rfl
  have ty : ∀ xs, tyOk [.lst xs] .list (.ref 0) = true := fun xs => rfl
  have ap : ∀ (x : PV) xs, xs.length < 10 → mAppend (.ref 0) [x] [.lst xs] = .ok (.non, [.lst (xs ++ [x])]) := fun x xs hx => by
    have : ([Ob.lst xs] : Mm)[0]? = some (.lst xs) := rfl
    rw [mAppend_ref this (Nat.lt_trans hx (by decide))]; rfl
  have ft : ∀ xs, fTuple [.ref 0] [.lst xs] = .ok (.tup xs, [.lst xs]) := fun xs => rfl
  have this : f_law_node [R.enc, x.V] = .ok (nodeV R n) := by
    rw [h.wx] at gu
    simp only [encW] at gu
    have fz : ∀ m, frz 4 m (.tup [keyV R n.stand, .int n.old, .non, .non, .non]) = some (nodeV R n) := fun m => frz_pu (nodeV_pu R n)
    simp [f_law_node, bodyP, bodyI, s_law_node, startS, gu, hk, sFor_ap, forL_cons, rngL, P62, ty, ap, t0, t1, w0, w1, o1, o2, ft, endF, fz]
  unfold cP
  rw [if_pos (by simp [enc_pu, wd_pu]), this]
/-! keys -/
theorem eqv_node {R : Rule} {a b : An} (ta : Tidy R a.stand) (tb : Tidy R b.stand) (oa : a.stand.over = false) (ob : b.stand.over = false) (wa : a.wait = none) (wb : b.wait = none) : PV.eqv (nodeV R a) (nodeV R b) = decide (a = b) := by
  obtain ⟨⟨a1, a2, a3, a4, a5⟩, a6, a7⟩ := a
  obtain ⟨⟨b1, b2, b3, b4, b5⟩, b6, b7⟩ := b
  simp only at oa ob wa wb ta tb
  subst oa ob wa wb
  simp only [nodeV, keyV, PV.eqv, PV.eqvs, eqv_ints, eqv_encO, credO, An.mk.injEq, Stand.mk.injEq]
  rw [Bool.eq_iff_iff]
  cases hs : R.spare with
  | none =>
    obtain ⟨p1, p2⟩ := ta.spare hs
    obtain ⟨q1, q2⟩ := tb.spare hs
    simp only at p1 p2 q1 q2
    subst p1 p2 q1 q2
    simp
  | some p => simp
theorem node_ky (R : Rule) (a : An) : (nodeV R a).ky 8 = true := by
  simp [nodeV, keyV, PV.ky, ints_ky, encO_ky]
end TT
end

section
set_option linter.all false
set_option autoImplicit false
namespace TT
/-! ### bounds of stands: they are finitely many -/
structure StBd (R : Rule) (s : Stand) : Prop where
  l0 : 0 ≤ s.lead
  l1 : s.lead ≤ R.keep + 1
  al : s.ages.length ≤ 2
  ag : ∀ a ∈ s.ages, 0 ≤ a ∧ a ≤ 3
  sp : 0 ≤ s.spared ∧ s.spared ≤ 2
  co : 0 ≤ s.counted ∧ s.counted ≤ 2
theorem bd_first {R : Rule} (ok : R.Ok) : StBd R R.first := by
  obtain ⟨keep, new, strict, leeway, spare, every, fin⟩ := R
  obtain ⟨⟨a0, a1⟩, b, c, ⟨d0, d1⟩⟩ := ok
  simp only at a0 a1 b c d0 d1
  refine ⟨?_, ?_, ?_, ?_, ?_, ?_⟩
  · show (0 : Int) ≤ if strict = true then 1 else 0
    split <;> omega
  · show (if strict = true then (1 : Int) else 0) ≤ keep + 1
    split <;> omega
  · cases leeway with
    | none => exact Nat.zero_le _
    | some l => simp [Rule.first]; omega
  · intro x hx
    rcases b with b | ⟨i, b, b0, b1⟩
    · subst b; simp [Rule.first] at hx
    · subst b
      simp [Rule.first] at hx
      omega
  · rcases c with c | ⟨i, c, c0, c1⟩ <;> subst c
    · exact ⟨Int.le_refl _, by show (0 : Int) ≤ 2; decide⟩
    · exact ⟨c0, c1⟩
  · exact ⟨Int.le_refl _, by show (0 : Int) ≤ 2; decide⟩
theorem bd_tick {R : Rule} (ok : R.Ok) {s : Stand} (h : StBd R s) : StBd R (R.tick s) := by
  unfold Rule.tick
  cases hl : R.leeway with
  | none => exact h
  | some l =>
    have hb : 0 ≤ l ∧ l ≤ 2 := by
      rcases ok.leeway with c | ⟨i, c, c0, c1⟩
      · rw [hl] at c; cases c
      · rw [hl] at c; cases c; exact ⟨c0, c1⟩
    by_cases ho : s.over = true
    · simp only [ho, if_true]; exact h
    · show StBd R (if s.over = true then s else _)
      rw [if_neg ho]
      refine ⟨h.l0, h.l1, by show (s.ages.map _).length ≤ 2; rw [List.length_map]; exact h.al, fun x hx => ?_, h.sp, h.co⟩
      obtain ⟨y, hy, rfl⟩ := List.mem_map.mp (show x ∈ s.ages.map _ from hx)
      have := h.ag y hy
      split <;> omega
theorem bd_withTok {R : Rule} (ok : R.Ok) {lead sp co : Int} {ages : List Int} (l0 : 0 ≤ lead) (al : ages.length ≤ 2) (ag : ∀ a ∈ ages, 0 ≤ a ∧ a ≤ 3) (hs : 0 ≤ sp ∧ sp ≤ 2) (hc : 0 ≤ co ∧ co ≤ 2) : StBd R (R.withTok lead ages sp co) := by
  have := ok.keep.1
  refine ⟨?_, ?_, by rw [withTok_al]; exact al, fun x hx => ?_, hs, hc⟩
  · show 0 ≤ if R.strict = true then (if R.keep + 1 < lead + 1 then R.keep + 1 else lead + 1) else 0
    split
    · split <;> omega
    · omega
  · show (if R.strict = true then (if R.keep + 1 < lead + 1 then R.keep + 1 else lead + 1) else 0) ≤ R.keep + 1
    split
    · split <;> omega
    · omega
  · have hx : x ∈ (0 :: ages).take ages.length := hx
    rcases List.mem_cons.mp (List.mem_of_mem_take hx) with rfl | hm
    · omega
    · exact ag x hm
theorem bd_req {R : Rule} (ok : R.Ok) {s : Stand} (h : StBd R s) {o : Int} (o0 : 0 ≤ o) : StBd R (R.req s o).1 := by
  have hsp : ∀ p, R.spare = some p → 0 ≤ p ∧ p ≤ 2 := fun p hp => by
    rcases ok.spare with c | ⟨i, c, c0, c1⟩
    · rw [hp] at c; cases c
    · rw [hp] at c; cases c; exact ⟨c0, c1⟩
  have he := ok.every
  unfold Rule.req
  split
  · rename_i hg
    split
    · cases hs : R.spare with
      | none => exact bd_withTok ok (Int.le_refl _) h.al h.ag h.sp h.co
      | some p =>
        have hp := hsp p hs
        have m0 := Int.emod_nonneg (s.counted + 1) (show R.every ≠ 0 by omega)
        have m1 := Int.emod_lt_of_pos (s.counted + 1) (show 0 < R.every by omega)
        refine bd_withTok ok (Int.le_refl _) h.al h.ag ?_ ⟨m0, by omega⟩
        have hb : 0 ≤ b2i ((s.counted + 1) % R.every == 0) := by unfold b2i; split <;> omega
        have := h.sp
        split <;> omega
    · rename_i ho
      have hl : 0 ≤ (if o < s.lead then o else s.lead) ∧ (if o < s.lead then o else s.lead) ≤ R.keep + 1 := by
        have := h.l0; have := h.l1
        split <;> omega
      have hq : 0 ≤ (match R.spare with | none => (0 : Int) | some _ => s.spared - 1) ∧ (match R.spare with | none => (0 : Int) | some _ => s.spared - 1) ≤ 2 := by
        cases hs : R.spare with
        | none => exact ⟨Int.le_refl _, by show (0 : Int) ≤ 2; decide⟩
        | some p =>
          have : 0 < s.spared := by
            unfold Rule.good at hg
            have hne : (o == 0) = false := beq_eq_false_iff_ne.mpr ho
            rw [hs, hne] at hg
            simp at hg
            exact hg.2.2
          have := h.sp
          show 0 ≤ s.spared - 1 ∧ s.spared - 1 ≤ 2
          omega
      by_cases hn : R.new = true
      · simp only [hn, if_true]
        exact bd_withTok ok hl.1 h.al h.ag hq h.co
      · simp only [hn, if_neg (show ¬ (false = true) from by decide)]
        exact ⟨hl.1, hl.2, h.al, h.ag, hq, h.co⟩
  · exact ⟨h.l0, h.l1, h.al, h.ag, h.sp, h.co⟩
/-- bounds of a node -/
structure ABd (R : Rule) (n : An) : Prop where
  st : StBd R n.stand
  o : 0 ≤ n.old ∧ n.old ≤ 3
  w : ∀ x, n.wait = some x → 0 ≤ x ∧ x ≤ 3
theorem oldI_bd {R : Rule} (ok : R.Ok) {x : Int} (h : 0 ≤ x ∧ x ≤ 3) (k : Rule.Kind) : 0 ≤ oldI R x k ∧ oldI R x k ≤ 3 := by
  have := ok.keep
  cases k <;> simp only [oldI, cutO] <;> first | exact h | (split <;> omega)
theorem ABd.next {R : Rule} (ok : R.Ok) {n : An} (h : ABd R n) (e : AEv) : ABd R (aloneN R n e).2 := by
  have ask : ∀ f : Int → Option Int → Int × Option Int, (∀ x y, (0 ≤ x ∧ x ≤ 3) → (∀ o, y = some o → 0 ≤ o ∧ o ≤ 3) → (0 ≤ (f x y).1 ∧ (f x y).1 ≤ 3) ∧ ∀ o, (f x y).2 = some o → 0 ≤ o ∧ o ≤ 3) → ABd R (askA R n f).2 := fun f hf => by
    have al := bd_req ok h.st (o := n.old) h.o.1
    unfold askA
    generalize hq : R.req n.stand n.old = q at al
    obtain ⟨S, k⟩ := q
    have hf2 := hf (oldI R n.old k) (oldO R n.wait k) (oldI_bd ok h.o k) (fun o ho => by
      unfold oldO at ho
      cases hw : n.wait with
      | none => rw [hw] at ho; cases ho
      | some w =>
        rw [hw] at ho
        cases ho
        exact oldI_bd ok (h.w w hw) k)
    cases k with
    | refused => exact ⟨al, h.o, h.w⟩
    | made => exact ⟨al, hf2.1, hf2.2⟩
    | newest => exact ⟨al, hf2.1, hf2.2⟩
  cases e with
  | tick => exact ⟨bd_tick ok h.st, h.o, h.w⟩
  | got =>
    refine ⟨h.st, ?_, fun o ho => nomatch ho⟩
    show 0 ≤ n.wait.getD n.old ∧ n.wait.getD n.old ≤ 3
    cases hw : n.wait with
    | none => exact h.o
    | some w => exact h.w w hw
  | ask => exact ask _ fun x y hx hy => ⟨by show (0 : Int) ≤ 0 ∧ (0 : Int) ≤ 3; decide, hy⟩
  | drop => exact ask _ fun x y hx hy => ⟨hx, hy⟩
  | late => exact ask _ fun x y hx hy => ⟨hx, fun o ho => by cases ho; decide⟩
theorem abd_first {R : Rule} (ok : R.Ok) : ABd R (firstA R) := ⟨bd_first ok, by show (0 : Int) ≤ 0 ∧ (0 : Int) ≤ 3; decide, fun o ho => nomatch ho⟩
/-! all of them -/
def i4 : List Int := [0, 1, 2, 3]
def i3 : List Int := [0, 1, 2]
def agU : List (List Int) := [] :: (i4.map fun a => [a]) ++ (i4.flatMap fun a => i4.map fun b => [a, b])
def waU : List (Option Int) := none :: i4.map some
def stU : List Stand := [false, true].flatMap fun ov => i4.flatMap fun la => agU.flatMap fun ag => i3.flatMap fun sp => i3.map fun co => ⟨ov, la, ag, sp, co⟩
def anU : List An := stU.flatMap fun st => i4.flatMap fun o => waU.map fun w => ⟨st, o, w⟩
theorem flat_le {α β : Type} (f : α → List β) (n : Nat) : ∀ xs : List α, (∀ x, (f x).length ≤ n) → (xs.flatMap f).length ≤ xs.length * n
  | [], _ => by simp
  | x :: xs, h => by
    have := flat_le f n xs h
    have := h x
    simp only [List.flatMap_cons, List.length_append, List.length_cons, Nat.add_mul, Nat.one_mul]
    omega
theorem anU_le : anU.length ≤ 100000 := by
  have h1 : ∀ ov la ag sp, (i3.map fun co => (⟨ov, la, ag, sp, co⟩ : Stand)).length ≤ 3 := fun _ _ _ _ => by simp [i3]
  have h2 : ∀ ov la ag, (i3.flatMap fun sp => i3.map fun co => (⟨ov, la, ag, sp, co⟩ : Stand)).length ≤ 9 := fun ov la ag => flat_le _ 3 i3 fun sp => h1 ov la ag sp
  have h3 : ∀ ov la, (agU.flatMap fun ag => i3.flatMap fun sp => i3.map fun co => (⟨ov, la, ag, sp, co⟩ : Stand)).length ≤ 189 := fun ov la => flat_le _ 9 agU fun ag => h2 ov la ag
  have h4 : ∀ ov, (i4.flatMap fun la => agU.flatMap fun ag => i3.flatMap fun sp => i3.map fun co => (⟨ov, la, ag, sp, co⟩ : Stand)).length ≤ 756 := fun ov => flat_le _ 189 i4 fun la => h3 ov la
  have h5 : stU.length ≤ 1512 := flat_le _ 756 [false, true] fun ov => h4 ov
  have h6 : ∀ st : Stand, (i4.flatMap fun o => waU.map fun w => (⟨st, o, w⟩ : An)).length ≤ 20 := fun st => flat_le _ 5 i4 fun o => by simp [waU, i4]
  have := flat_le (fun st => i4.flatMap fun o => waU.map fun w => (⟨st, o, w⟩ : An)) 20 stU h6
  exact Nat.le_trans this (by omega)
theorem mem_i4 {x : Int} (h : 0 ≤ x ∧ x ≤ 3) : x ∈ i4 := by
  have : x = 0 ∨ x = 1 ∨ x = 2 ∨ x = 3 := by omega
  rcases this with rfl | rfl | rfl | rfl <;> decide
theorem mem_i3 {x : Int} (h : 0 ≤ x ∧ x ≤ 2) : x ∈ i3 := by
  have : x = 0 ∨ x = 1 ∨ x = 2 := by omega
  rcases this with rfl | rfl | rfl <;> decide
theorem mem_anU {R : Rule} (ok : R.Ok) {n : An} (h : ABd R n) : n ∈ anU := by
  obtain ⟨⟨ov, la, ag, sp, co⟩, o, w⟩ := n
  obtain ⟨⟨s1, s2, s3, s4, s5, s6⟩, h2, h3⟩ := h
  simp only at s1 s2 s3 s4 s5 s6 h2 h3
  have := ok.keep
  refine List.mem_flatMap.mpr ⟨⟨ov, la, ag, sp, co⟩, ?_, List.mem_flatMap.mpr ⟨o, mem_i4 h2, List.mem_map.mpr ⟨w, ?_, rfl⟩⟩⟩
  · refine List.mem_flatMap.mpr ⟨ov, by cases ov <;> decide, List.mem_flatMap.mpr ⟨la, mem_i4 ⟨s1, by omega⟩, List.mem_flatMap.mpr ⟨ag, ?_, List.mem_flatMap.mpr ⟨sp, mem_i3 s5, List.mem_map.mpr ⟨co, mem_i3 s6, rfl⟩⟩⟩⟩⟩
    match ag, s3, s4 with
    | [], _, _ => exact List.mem_cons_self
    | [a], _, s4 => exact List.mem_cons_of_mem _ (List.mem_append_left _ (List.mem_map.mpr ⟨a, mem_i4 (s4 a (by simp)), rfl⟩))
    | [a, b], _, s4 => exact List.mem_cons_of_mem _ (List.mem_append_right _ (List.mem_flatMap.mpr ⟨a, mem_i4 (s4 a (by simp)), List.mem_map.mpr ⟨b, mem_i4 (s4 b (by simp)), rfl⟩⟩))
    | a :: b :: c :: r, s3, _ => simp at s3
  · cases w with
    | none => exact List.mem_cons_self
    | some x => exact List.mem_cons_of_mem _ (List.mem_map.mpr ⟨x, mem_i4 (h3 x rfl), rfl⟩)
theorem nodup_len : ∀ {L U : List An}, L.Nodup → (∀ x ∈ L, x ∈ U) → L.length ≤ U.length
  | [], _, _, _ => Nat.zero_le _
  | a :: L, U, nd, h => by
    have ha := h a List.mem_cons_self
    obtain ⟨n1, n2⟩ := List.nodup_cons.mp nd
    have := nodup_len (L := L) (U := U.erase a) n2 (fun x hx => (List.mem_erase_of_ne (fun z => n1 (by rw [← z]; exact hx))).mpr (h x (List.mem_cons_of_mem _ hx)))
    rw [List.length_erase_of_mem ha] at this
    have hp : 0 < U.length := List.length_pos_of_mem ha
    simp only [List.length_cons]
    omega
theorem few {R : Rule} (ok : R.Ok) {L : List An} (nd : L.Nodup) (h : ∀ x ∈ L, ABd R x) : L.length ≤ 100000 := Nat.le_trans (nodup_len nd fun x hx => mem_anU ok (h x hx)) anU_le
end TT
end

section
set_option linter.all false
set_option autoImplicit false
namespace TT
/-! steps of bodies, one by one -/
theorem set_self {m : Mm} {j : Nat} {o : Ob} (h : m[j]? = some o) : m.set j o = m := by
  apply List.ext_getElem?
  intro k
  by_cases hk : j = k
  · subst hk; rw [List.getElem?_set_self (List.getElem?_eq_some_iff.mp h).1, h]
  · rw [List.getElem?_set_ne hk]
theorem seq_nx {a b : SS} {s s1 : Sl} {m m1 : Mm} (h : a s m = .ok (.nx, s1, m1)) : sSeq a b s m = b s1 m1 := by
  unfold sSeq
  rw [h]; rfl
theorem seq_rt {a b : SS} {s s1 : Sl} {m m1 : Mm} {v : PV} (h : a s m = .ok (.rt v, s1, m1)) : sSeq a b s m = .ok (.rt v, s1, m1) := by
  unfold sSeq
  rw [h]; rfl
theorem seq_ct {a b : SS} {s s1 : Sl} {m m1 : Mm} (h : a s m = .ok (.ct, s1, m1)) : sSeq a b s m = .ok (.ct, s1, m1) := by
  unfold sSeq
  rw [h]; rfl
theorem body_fin {b : SS} {a : List PV} {v : PV} {m : Mm} {n k : Nat} (h : bodyI n k b a [] = .ok (v, m)) (hp : v.pu = true) : bodyP n k b a = .ok v := by
  unfold bodyP
  rw [h]
  simp only [frz_pu hp, Rs.ofO_some]
theorem cP_ok {F : PF} {xs : List PV} {v : PV} {m : Mm} (hp : pus xs = true) (h : F xs = .ok v) : cP F xs m = .ok (v, m) := by unfold cP; rw [if_pos hp, h]
theorem cX_ok {F : PF} {xs : List PV} {v : PV} {m : Mm} (hp : pus xs = true) (h : F xs = .ok v) : cX F xs m = .ok (v, m) := by unfold cX; rw [if_pos hp, h]
theorem cX_ex {F : PF} {xs : List PV} {c : Nat} {m : Mm} (hp : pus xs = true) (h : F xs = .ex (.mk c []) []) : cX F xs m = .ex (.mk c []) m := by unfold cX; rw [if_pos hp, h]; rfl
theorem kget_ap {fd fk fx : SE} {s : Sl} {m : Mm} {n : Nat} {k x : PV} {kvs : List (PV × PV)} (h1 : fd s m = .ok (.ref n, m)) (h2 : fk s m = .ok (k, m)) (h3 : fx s m = .ok (x, m)) (h : kdOf m n = some kvs) (ht : isTup k = true) (hk : k.ky 8 = true) : eKGetD fd fk fx s m = .ok ((kFind kvs k).getD x, m) := by
  unfold eKGetD
  simp [h1, h2, h3, h, ht, hk]
theorem kset_ap {m : Mm} {n : Nat} {k v : PV} {kvs : List (PV × PV)} (h : m[n]? = some (.kd kvs)) (ht : isTup k = true) (hk : k.ky 8 = true) (hl : kvs.length < LINE) : oKSet (.ref n) k v m = .ok (m.set n (.kd (kPut kvs k v))) := by
  unfold oKSet
  simp [h, ht, hk, hl]
theorem kin_ap {m : Mm} {n : Nat} {k : PV} {kvs : List (PV × PV)} (h : kdOf m n = some kvs) (ht : isTup k = true) (hk : k.ky 8 = true) : oKIn2 false k (.ref n) m = .ok (.bl (kHas kvs k), m) := by
  unfold oKIn2
  simp [h, ht, hk]
theorem knin_ap {m : Mm} {n : Nat} {k : PV} {kvs : List (PV × PV)} (h : kdOf m n = some kvs) (ht : isTup k = true) (hk : k.ky 8 = true) : oKIn2 true k (.ref n) m = .ok (.bl (!kHas kvs k), m) := by
  unfold oKIn2
  simp [h, ht, hk]
theorem kix_ap {m : Mm} {n : Nat} {k v : PV} {kvs : List (PV × PV)} (h : kdOf m n = some kvs) (ht : isTup k = true) (hk : k.ky 8 = true) (hv : kFind kvs k = some v) : oKIx (.ref n) k m = .ok (v, m) := by
  unfold oKIx
  simp [h, ht, hk, hv]
theorem kd_of {m : Mm} {n : Nat} {kvs : List (PV × PV)} (h : m[n]? = some (.kd kvs)) : kdOf m n = some kvs := by unfold kdOf; rw [h]
theorem kl_of {m : Mm} {n : Nat} {kvs : List (PV × PV)} (h : m[n]? = some (.kl kvs)) : kdOf m n = some kvs := by unfold kdOf; rw [h]
theorem line_small {n : Nat} (hn : n ≤ 1000000) : n ≤ LINE := by
  unfold LINE; omega
theorem line_lt' {n : Nat} (hn : n ≤ 1000000) : n < LINE := by
  unfold LINE; omega
theorem kvals_ok {s : Sl} {m : Mm} {i j : Nat} {kvs : List (PV × PV)} (hs : s[i]? = some (some (.ref j))) (h : kdOf m j = some kvs) (hl : kvs.length ≤ LINE) : eKVals (eVar i) s m = .ok (.vl (kvs.map (·.2)), m) := by
  unfold eKVals
  simp [hs, h, hl]
theorem kkeys_ok {s : Sl} {m : Mm} {i j : Nat} {kvs : List (PV × PV)} (hs : s[i]? = some (some (.ref j))) (h : kdOf m j = some kvs) (hl : kvs.length ≤ LINE) : eKKeys (eVar i) s m = .ok (.vl (kvs.map (·.1)), m) := by
  unfold eKKeys
  simp [hs, h, hl]
theorem p62_small {n : Nat} (hn : n ≤ 1000) : -P62 ≤ (n : Int) ∧ (n : Int) < P62 := by
  have : P62 = 4611686018427387904 := rfl
  omega
theorem rng1_ok {s : Sl} {m : Mm} {i : Nat} {x : Int} (hs : s[i]? = some (some (.int x))) (h : -P62 ≤ x ∧ x < P62) : TT.iRng1 (eVar i) s m = .ok (rngL 0 x.toNat, m) := by
  unfold TT.iRng1
  simp only [eVar_ap, hs, Rs.bind_ok]
  rw [if_pos (by simp [h])]
theorem rng1_nat {s : Sl} {m : Mm} {i n : Nat} (hs : s[i]? = some (some (.int n))) (hn : n ≤ 1000) : TT.iRng1 (eVar i) s m = .ok (rngL ((0 : Nat) : Int) n, m) := by
  have h := p62_small hn
  generalize hx : (n : Int) = x at hs h
  rw [rng1_ok hs h, show x.toNat = n by omega]
  rfl
/-- min(len(..), c) + d turns -/
theorem span_ok (c d : Nat) (hc : c ≤ 500) (hd : d ≤ 400) (ns : List Int) (hl : ns.length ≤ 63) (s : Sl) (hs : s[0]? = some (some (.fz (ns.map PV.int)))) (m : Mm) : ∃ n : Nat, n ≤ c + d ∧ (TT.iRng1 (e2 oAdd (eN fMin (aCons (eN fLen (aCons (eVar 0) aNil)) (aCons (eC (.int c)) aNil))) (eC (.int d)))) s m = .ok (rngL 0 n, m) := by
  refine ⟨min ns.length c + d, by omega, ?_⟩
  have hz : (if (c : Int) < ns.length then (c : Int) else (ns.length : Int)) = ((min ns.length c : Nat) : Int) := by split <;> omega
  have q1 : (eN fLen (aCons (eVar 0) aNil)) s m = .ok (.int ns.length, m) := by
    simp [hs, fLen]
  have q2 : fMin [.int ns.length, .int c] m = .ok (.int (min ns.length c : Nat), m) := by
    simp only [fMin, hz]
  have q3 : (e2 oAdd (eN fMin (aCons (eN fLen (aCons (eVar 0) aNil)) (aCons (eC (.int c)) aNil))) (eC (.int d))) s m = .ok (.int ((min ns.length c : Nat) + (d : Int)), m) := by
    generalize eN fLen (aCons (eVar 0) aNil) = L at q1
    simp [q1, q2]
  have h := p62_small (n := min ns.length c + d) (by omega)
  have hx : (((min ns.length c : Nat) : Int) + (d : Int)) = ((min ns.length c + d : Nat) : Int) := by omega
  rw [hx] at q3
  generalize hg : ((min ns.length c + d : Nat) : Int) = x at q3 h
  unfold TT.iRng1
  rw [q3, Rs.bind_ok]
  show (if (decide (-P62 ≤ x) && decide (x < P62)) = true then Rs.ok (rngL 0 x.toNat, m) else .no) = _
  rw [if_pos (by simp [h]), show x.toNat = min ns.length c + d by omega]
theorem told_ex {P : Nat} {t : Told} {els cs : List Nat} {B : SE} {s : Sl} {m m' : Mm} {q : List Nat} {c : Nat} (h0 : m[0]? = some (.tab P q)) (hB : B s m = .ex (.mk c []) m') (hc : cs.contains c = true) : eTold P q t els cs B s m = .ok (.str (t.ev c), m') := by
  unfold eTold
  rw [h0]
  simp only [and_self, if_true, hB, hc]
/-- a loop that leaves all but its own slot -/
theorem each_ok (i : Nat) (b : SS) (m : Mm) (s0 : Sl) (hi : i < s0.length) : ∀ (vs : List PV), (∀ v ∈ vs, ∀ s' : Sl, s'.length = s0.length → (∀ j, j ≠ i → s'[j]? = s0[j]?) → s'[i]? = some (some v) → b s' m = .ok (.nx, s', m)) → ∀ s : Sl, s.length = s0.length → (∀ j, j ≠ i → s[j]? = s0[j]?) →
    ∃ s', s'.length = s0.length ∧ (∀ j, j ≠ i → s'[j]? = s0[j]?) ∧ forL (gName i) b vs s m = .ok (.nx, s', m)
  | [], _, s, h1, h2 => ⟨s, h1, h2, rfl⟩
  | v :: vs, hb, s, h1, h2 => by
    obtain ⟨s', e1, e2, e3⟩ := each_ok i b m s0 hi vs (fun u hu => hb u (List.mem_cons_of_mem _ hu)) (s.set i (some v)) (by simp [h1]) (fun j hj => by rw [List.getElem?_set_ne (Ne.symm hj)]; exact h2 j hj)
    refine ⟨s', e1, e2, ?_⟩
    rw [forL_cons, gName_ap, Rs.bind_ok]
    show Rs.bind (b (s.set i (some v)) m) _ = _
    rw [hb v List.mem_cons_self (s.set i (some v)) (by simp [h1]) (fun j hj => by rw [List.getElem?_set_ne (Ne.symm hj)]; exact h2 j hj) (List.getElem?_set_self (by rw [h1]; exact hi))]
    exact e3
/-- one turn of a while -/
theorem while_step {t : ST} {b : SS} {n : Nat} {s s1 : Sl} {m m1 : Mm} (ht : t s m = .ok (true, m)) (hb : b s m = .ok (.nx, s1, m1) ∨ b s m = .ok (.ct, s1, m1)) : whileF t b (n + 1) s m = whileF t b n s1 m1 := by
  conv => lhs; unfold whileF
  rw [ht]
  simp only [Rs.bind_ok, if_true]
  rcases hb with hb | hb <;> rw [hb] <;> rfl
theorem while_rt {t : ST} {b : SS} {n : Nat} {s s1 : Sl} {m m1 : Mm} {v : PV} (ht : t s m = .ok (true, m)) (hb : b s m = .ok (.rt v, s1, m1)) : whileF t b (n + 1) s m = .ok (.rt v, s1, m1) := by
  conv => lhs; unfold whileF
  rw [ht]
  simp only [Rs.bind_ok, if_true]
  rw [hb]; rfl
theorem while_end {t : ST} {b : SS} {n : Nat} {s : Sl} {m : Mm} (ht : t s m = .ok (false, m)) : whileF t b (n + 1) s m = .ok (.nx, s, m) := by
  conv => lhs; unfold whileF
  rw [ht]; rfl
end TT
end

section
set_option linter.all false
set_option autoImplicit false
namespace TT
/-! ### walks over a graph, fault by fault -/
structure Gr (α : Type) where
  start : α
  safe : α → List α
  fault : α → List α
  bad : α → Bool
section
variable {α : Type} [DecidableEq α] (G : Gr α)
/-- met with at most so many faults -/
inductive Rch : Nat → α → Prop
  | start (i : Nat) : Rch i G.start
  | safe {i : Nat} {n m : α} : Rch i n → G.bad n = false → m ∈ G.safe n → Rch i m
  | fault {i : Nat} {n m : α} : Rch i n → G.bad n = false → m ∈ G.fault n → Rch (i + 1) m
/-- all that come without a fault: known ones, those that wait, those that were met -/
inductive Sp (K : List α) : List α → List α → List α × Bool → Prop
  | done (N : List α) : Sp K [] N (N, false)
  | skip {n : α} {P N : List α} {r : List α × Bool} : n ∈ K ∨ n ∈ N → Sp K P N r → Sp K (n :: P) N r
  | bad {n : α} {P N : List α} : ¬ (n ∈ K ∨ n ∈ N) → G.bad n = true → Sp K (n :: P) N (N ++ [n], true)
  | go {n : α} {P N : List α} {r : List α × Bool} : ¬ (n ∈ K ∨ n ∈ N) → G.bad n = false → Sp K (P ++ G.safe n) (N ++ [n]) r → Sp K (n :: P) N r
variable {G}
theorem Rch.mono {i j : Nat} {n : α} (h : Rch G i n) (hj : i ≤ j) : Rch G j n := by
  induction h generalizing j with
  | start i => exact .start j
  | safe h1 h2 h3 ih => exact .safe (ih hj) h2 h3
  | @fault i n m h1 h2 h3 ih =>
    obtain ⟨k, rfl⟩ : ∃ k, j = k + 1 := ⟨j - 1, by omega⟩
    exact .fault (ih (by omega)) h2 h3
theorem Sp.sub {K P N : List α} {r : List α × Bool} (h : Sp G K P N r) : ∀ n ∈ N, n ∈ r.1 := by
  induction h with
  | done N => exact fun n h => h
  | skip _ _ ih => exact ih
  | bad _ _ => exact fun n h => List.mem_append_left _ h
  | go _ _ _ ih => exact fun n h => ih n (List.mem_append_left _ h)
theorem Sp.nodup {K P N : List α} {r : List α × Bool} (h : Sp G K P N r) (nd : N.Nodup) : r.1.Nodup := by
  have ap : ∀ {N : List α} {n : α}, N.Nodup → ¬ n ∈ N → (N ++ [n]).Nodup := fun {N n} nd hn => by
    rw [List.nodup_append]
    refine ⟨nd, by simp, fun a ha b hb => ?_⟩
    cases List.mem_singleton.mp hb
    exact fun z => hn (by rw [← z]; exact ha)
  induction h with
  | done N => exact nd
  | skip _ _ ih => exact ih nd
  | bad h1 _ => exact ap nd fun z => h1 (.inr z)
  | go h1 _ _ ih => exact ih (ap nd fun z => h1 (.inr z))
/-- what holds of all that wait and goes on, holds of all that are met -/
theorem Sp.all {K P N : List α} {r : List α × Bool} {T : α → Prop} (h : Sp G K P N r) (hP : ∀ n ∈ P, T n) (hN : ∀ n ∈ N, T n) (st : ∀ n m, T n → G.bad n = false → m ∈ G.safe n → T m) : ∀ n ∈ r.1, T n := by
  induction h with
  | done N => exact hN
  | skip _ _ ih => exact ih (fun n h => hP n (List.mem_cons_of_mem _ h)) hN
  | bad _ _ =>
    intro n hn
    rcases List.mem_append.mp hn with hn | hn
    · exact hN n hn
    · cases List.mem_singleton.mp hn; exact hP _ List.mem_cons_self
  | @go n P N r _ hb _ ih =>
    refine ih (fun m hm => ?_) (fun m hm => ?_)
    · rcases List.mem_append.mp hm with hm | hm
      · exact hP m (List.mem_cons_of_mem _ hm)
      · exact st n m (hP n List.mem_cons_self) hb hm
    · rcases List.mem_append.mp hm with hm | hm
      · exact hN m hm
      · cases List.mem_singleton.mp hm; exact hP _ List.mem_cons_self
theorem Sp.hit {K P N : List α} {M : List α} (h : Sp G K P N (M, true)) : ∃ n ∈ M, G.bad n = true := by
  generalize hr : (M, true) = r at h
  induction h with
  | done N => cases hr
  | skip _ _ ih => exact ih hr
  | @bad n P N _ hb => cases hr; exact ⟨n, by simp, hb⟩
  | go _ _ _ ih => exact ih hr
/-- where nothing bad was met: all is closed -/
theorem Sp.closed {K P N : List α} {M : List α} (h : Sp G K P N (M, false)) : (∀ n ∈ P, n ∈ K ∨ n ∈ M) ∧ ∀ n ∈ M, n ∈ N ∨ (G.bad n = false ∧ ∀ m ∈ G.safe n, m ∈ K ∨ m ∈ M) := by
  generalize hr : (M, false) = r at h
  induction h with
  | done N => cases hr; exact ⟨fun n h => (nomatch h), fun n h => .inl h⟩
  | @skip n P N r h1 h2 ih =>
    obtain ⟨i1, i2⟩ := ih hr
    subst hr
    refine ⟨fun m hm => ?_, i2⟩
    rcases List.mem_cons.mp hm with rfl | hm
    · exact h1.imp id fun z => h2.sub _ z
    · exact i1 m hm
  | bad _ _ => cases hr
  | @go n P N r h1 hb h2 ih =>
    obtain ⟨i1, i2⟩ := ih hr
    subst hr
    have nm : n ∈ M := h2.sub n (by simp)
    refine ⟨fun m hm => ?_, fun m hm => ?_⟩
    · rcases List.mem_cons.mp hm with rfl | hm
      · exact .inr nm
      · exact i1 m (List.mem_append_left _ hm)
    · rcases i2 m hm with z | z
      · rcases List.mem_append.mp z with z | z
        · exact .inl z
        · cases List.mem_singleton.mp z
          exact .inr ⟨hb, fun k hk => i1 k (List.mem_append_right _ hk)⟩
      · exact .inr z
/-- it ends -/
theorem Sp.ends {T : α → Prop} {U : List α} (hU : ∀ n, T n → n ∈ U) (K : List α) (st : ∀ n m, T n → G.bad n = false → m ∈ G.safe n → T m) : ∀ (k : Nat) (P N : List α), (∀ n ∈ P, T n) → (∀ n ∈ N, T n) → N.Nodup → U.length - N.length ≤ k → ∃ r, Sp G K P N r := by
  have len : ∀ {N : List α}, N.Nodup → (∀ n ∈ N, T n) → N.length ≤ U.length := fun {N} nd h => by
    have aux : ∀ (N U : List α), N.Nodup → (∀ x ∈ N, x ∈ U) → N.length ≤ U.length := by
      intro N
      induction N with
      | nil => intros; exact Nat.zero_le _
      | cons a N ih =>
        intro U nd hh
        have ha := hh a List.mem_cons_self
        obtain ⟨n1, n2⟩ := List.nodup_cons.mp nd
        have := ih (U.erase a) n2 fun x hx => (List.mem_erase_of_ne (fun z => n1 (by rw [← z]; exact hx))).mpr (hh x (List.mem_cons_of_mem _ hx))
        rw [List.length_erase_of_mem ha] at this
        have hp : 0 < U.length := List.length_pos_of_mem ha
        simp only [List.length_cons]
        omega
    exact aux N U nd fun x hx => hU x (h x hx)
  intro k
  induction k with
  | zero =>
    intro P
    induction P with
    | nil => intro N _ _ _ _; exact ⟨_, .done N⟩
    | cons n P ih =>
      intro N hP hN nd hk
      by_cases hn : n ∈ K ∨ n ∈ N
      · obtain ⟨r, hr⟩ := ih N (fun m hm => hP m (List.mem_cons_of_mem _ hm)) hN nd hk
        exact ⟨r, .skip hn hr⟩
      · exfalso
        have nd2 : (n :: N).Nodup := List.nodup_cons.mpr ⟨fun z => hn (.inr z), nd⟩
        have := len nd2 (fun m hm => by
          rcases List.mem_cons.mp hm with rfl | hm
          · exact hP _ List.mem_cons_self
          · exact hN m hm)
        simp only [List.length_cons] at this
        omega
  | succ k ihk =>
    intro P
    induction P with
    | nil => intro N _ _ _ _; exact ⟨_, .done N⟩
    | cons n P ih =>
      intro N hP hN nd hk
      by_cases hn : n ∈ K ∨ n ∈ N
      · obtain ⟨r, hr⟩ := ih N (fun m hm => hP m (List.mem_cons_of_mem _ hm)) hN nd hk
        exact ⟨r, .skip hn hr⟩
      · cases hb : G.bad n with
        | true => exact ⟨_, .bad hn hb⟩
        | false =>
          have tn := hP n List.mem_cons_self
          have nd2 : (N ++ [n]).Nodup := by
            rw [List.nodup_append]
            refine ⟨nd, by simp, fun a ha b hb => ?_⟩
            cases List.mem_singleton.mp hb
            exact fun z => hn (.inr (by rw [← z]; exact ha))
          have hN2 : ∀ m ∈ N ++ [n], T m := fun m hm => by
            rcases List.mem_append.mp hm with hm | hm
            · exact hN m hm
            · cases List.mem_singleton.mp hm; exact tn
          have hl := len nd2 hN2
          simp only [List.length_append, List.length_singleton] at hl
          obtain ⟨r, hr⟩ := ihk (P ++ G.safe n) (N ++ [n]) (fun m hm => by
            rcases List.mem_append.mp hm with hm | hm
            · exact hP m (List.mem_cons_of_mem _ hm)
            · exact st n m tn hb hm) hN2 nd2 (by simp only [List.length_append, List.length_singleton]; omega)
          exact ⟨r, .go hn hb hr⟩
/-! level by level -/
variable (G)
/-- what is to be told -/
def Tells : Option Nat → Prop
  | some f => (∃ n, G.bad n = true ∧ Rch G f n) ∧ ∀ j, j < f → ∀ n, Rch G j n → G.bad n = false
  | none => ∀ j n, Rch G j n → G.bad n = false
theorem tells_unique {a b : Option Nat} (ha : Tells G a) (hb : Tells G b) : a = b := by
  cases a with
  | none =>
    cases b with
    | none => rfl
    | some f =>
      obtain ⟨n, h1, h2⟩ := hb.1
      rw [ha f n h2] at h1; cases h1
  | some f =>
    cases b with
    | none =>
      obtain ⟨n, h1, h2⟩ := ha.1
      rw [hb f n h2] at h1; cases h1
    | some g =>
      rcases Nat.lt_trichotomy f g with h | h | h
      · obtain ⟨n, h1, h2⟩ := ha.1
        rw [hb.2 f h n h2] at h1; cases h1
      · rw [h]
      · obtain ⟨n, h1, h2⟩ := hb.1
        rw [ha.2 g h n h2] at h1; cases h1
/-- what stands ahead of a level: K is done, S comes next -/
structure Lv (f : Nat) (K S : List α) : Prop where
  good : ∀ n ∈ K, G.bad n = false
  cl : ∀ n ∈ K, ∀ m ∈ G.safe n, m ∈ K
  fl : ∀ n ∈ K, ∀ m ∈ G.fault n, m ∈ K ∨ m ∈ S
  rS : ∀ n ∈ S, Rch G f n
  st : G.start ∈ K ∨ G.start ∈ S
  old : ∀ j, j < f → ∀ n, Rch G j n → n ∈ K
variable {G}
theorem lv_start : Lv G 0 [] [G.start] :=
  ⟨fun n h => (nomatch h), fun n h => (nomatch h), fun n h => (nomatch h), fun n h => by cases List.mem_singleton.mp h; exact .start 0, .inr (List.mem_singleton.mpr rfl), fun j h => absurd h (Nat.not_lt_zero j)⟩
/-- all of a level is in K and what comes of S -/
theorem lv_all {f : Nat} {K S M : List α} (h : Lv G f K S) (hS : ∀ n ∈ S, n ∈ K ∨ n ∈ M) (hM : ∀ n ∈ M, G.bad n = false ∧ ∀ m ∈ G.safe n, m ∈ K ∨ m ∈ M) : ∀ n, Rch G f n → n ∈ K ∨ n ∈ M := by
  intro n hn
  generalize hj : f = j at hn
  induction hn with
  | start i => exact h.st.elim .inl (hS _)
  | @safe i n m h1 h2 h3 ih =>
    rcases ih hj with z | z
    · exact .inl (h.cl n z m h3)
    · exact (hM n z).2 m h3
  | @fault i n m h1 h2 h3 ih =>
    have hk := h.old i (by omega) n h1
    exact (h.fl n hk m h3).elim .inl (hS m)
theorem lv_next {f : Nat} {K S M K' S' : List α} (h : Lv G f K S) (hS : ∀ n ∈ S, n ∈ K ∨ n ∈ M) (hM : ∀ n ∈ M, G.bad n = false ∧ ∀ m ∈ G.safe n, m ∈ K ∨ m ∈ M) (hR : ∀ n ∈ M, Rch G f n)
    (hK' : ∀ n, n ∈ K' ↔ n ∈ K ∨ n ∈ M) (f1 : ∀ n ∈ M, n ∈ K ∨ ∀ m ∈ G.fault n, m ∈ S') (f2 : ∀ m ∈ S', ∃ n ∈ M, m ∈ G.fault n) : Lv G (f + 1) K' S' := by
  have all := lv_all h hS hM
  refine ⟨fun n hn => ?_, fun n hn m hm => ?_, fun n hn m hm => ?_, fun m hm => ?_, ?_, fun j hj n hn => ?_⟩
  · exact ((hK' n).mp hn).elim (h.good n) fun z => (hM n z).1
  · rcases (hK' n).mp hn with z | z
    · exact (hK' m).mpr (.inl (h.cl n z m hm))
    · exact (hK' m).mpr ((hM n z).2 m hm)
  · have old : n ∈ K → m ∈ K' ∨ m ∈ S' := fun z => .inl ((hK' m).mpr ((h.fl n z m hm).elim .inl (hS m)))
    rcases (hK' n).mp hn with z | z
    · exact old z
    · exact (f1 n z).elim old fun q => .inr (q m hm)
  · obtain ⟨n, hn, hq⟩ := f2 m hm
    exact .fault (hR n hn) (hM n hn).1 hq
  · exact .inl ((hK' _).mpr (all _ (.start f)))
  · exact (hK' n).mpr (all n (hn.mono (by omega)))
theorem lv_hit {f : Nat} {K S : List α} {n : α} (h : Lv G f K S) (hb : G.bad n = true) (hn : Rch G f n) : Tells G (some f) :=
  ⟨⟨n, hb, hn⟩, fun j hj m hm => h.good m (h.old j hj m hm)⟩
theorem lv_none {f : Nat} {K : List α} (h : Lv G f K []) : Tells G none := by
  have all : ∀ j n, Rch G j n → n ∈ K := fun j n hn => by
    induction hn with
    | start i => exact h.st.elim id fun z => nomatch z
    | @safe i n m h1 h2 h3 ih => exact h.cl n ih m h3
    | @fault i n m h1 h2 h3 ih => exact (h.fl n ih m h3).elim id fun z => nomatch z
  exact fun j n hn => h.good n (all j n hn)
end
/-! ### a graph over another -/
section
variable {α β : Type} {G : Gr α} {L : Gr β} {φ : β → α}
structure Over (G : Gr α) (L : Gr β) (φ : β → α) : Prop where
  start : φ L.start = G.start
  bad : ∀ b, L.bad b = G.bad (φ b)
  s1 : ∀ b c, L.bad b = false → c ∈ L.safe b → φ c ∈ G.safe (φ b) ∨ φ c = φ b
  f1 : ∀ b c, L.bad b = false → c ∈ L.fault b → φ c ∈ G.fault (φ b)
  s2 : ∀ b a, L.bad b = false → a ∈ G.safe (φ b) → a = φ b ∨ ∃ c ∈ L.safe b, φ c = a
  f2 : ∀ b a, L.bad b = false → a ∈ G.fault (φ b) → ∃ c ∈ L.fault b, φ c = a
theorem Over.down (o : Over G L φ) {i : Nat} {b : β} (h : Rch L i b) : Rch G i (φ b) := by
  induction h with
  | start i => rw [o.start]; exact .start i
  | @safe i b c h1 h2 h3 ih =>
    rcases o.s1 b c h2 h3 with z | z
    · exact .safe ih (by rw [← o.bad]; exact h2) z
    · rw [z]; exact ih
  | @fault i b c h1 h2 h3 ih => exact .fault ih (by rw [← o.bad]; exact h2) (o.f1 b c h2 h3)
theorem Over.up (o : Over G L φ) {i : Nat} {a : α} (h : Rch G i a) : ∃ b, Rch L i b ∧ φ b = a := by
  induction h with
  | start i => exact ⟨L.start, .start i, o.start⟩
  | @safe i n m h1 h2 h3 ih =>
    obtain ⟨b, hb, rfl⟩ := ih
    have hbad : L.bad b = false := by rw [o.bad]; exact h2
    rcases o.s2 b m hbad h3 with z | ⟨c, hc, rfl⟩
    · exact ⟨b, hb, z.symm⟩
    · exact ⟨c, .safe hb hbad hc, rfl⟩
  | @fault i n m h1 h2 h3 ih =>
    obtain ⟨b, hb, rfl⟩ := ih
    have hbad : L.bad b = false := by rw [o.bad]; exact h2
    obtain ⟨c, hc, rfl⟩ := o.f2 b m hbad h3
    exact ⟨c, .fault hb hbad hc, rfl⟩
theorem Over.tells (o : Over G L φ) {r : Option Nat} (h : Tells L r) : Tells G r := by
  cases r with
  | none =>
    intro j n hn
    obtain ⟨b, hb, rfl⟩ := o.up hn
    rw [← o.bad]; exact h j b hb
  | some f =>
    obtain ⟨⟨b, h1, h2⟩, h3⟩ := h
    refine ⟨⟨φ b, by rw [← o.bad]; exact h1, o.down h2⟩, fun j hj n hn => ?_⟩
    obtain ⟨b, hb, rfl⟩ := o.up hn
    rw [← o.bad]; exact h3 j hj b hb
end
end TT
end

section
set_option linter.all false
set_option autoImplicit false
namespace TT
/-! ### fewest faults, by the program -/
def movedA (R : Rule) (c : Bool) (n : An) (e : AEv) : An := if (c && decide (e = .ask)) = true then { (aloneN R n e).2 with wait := none } else (aloneN R n e).2
def safeE : List AEv := [.ask, .got, .tick]
def faultE : List AEv := [.drop, .late]
def grP (R : Rule) (c : Bool) : Gr An := ⟨firstA R, fun n => safeE.map (movedA R c n), fun n => faultE.map (movedA R c n), fun n => (aloneN R n .ask).1⟩
structure PN (R : Rule) (n : An) : Prop where
  ao : AOk R n
  bd : ABd R n
theorem pn_first {R : Rule} (ok : R.Ok) : PN R (firstA R) := ⟨firstA_ok ok, abd_first ok⟩
theorem pn_moved {R : Rule} (ok : R.Ok) (c : Bool) {n : An} (h : PN R n) (e : AEv) : PN R (movedA R c n e) := by
  have a := h.ao.next ok e
  have b := h.bd.next ok e
  unfold movedA
  split
  · exact ⟨⟨a.al, a.a0, a.m0, fun o ho => nomatch ho⟩, ⟨b.st, b.o, fun o ho => nomatch ho⟩⟩
  · exact ⟨a, b⟩
theorem alone_c {R : Rule} (ok : R.Ok) {n : An} (h : AOk R n) (e : AEv) (m : Mm) : cP f_alone [R.enc, n.enc, e.enc] m = .ok (.tup [.bl (aloneN R n e).1, (aloneN R n e).2.enc], m) :=
  cP_ok (by simp [enc_pu, an_pu, AEv.enc]) (alone_ok ok h e)
theorem moved_ok {R : Rule} (ok : R.Ok) (c : Bool) {n : An} (h : PN R n) (e : AEv) (m : Mm) : cP f_moved [R.enc, n.enc, e.enc, .bl c] m = .ok ((movedA R c n e).enc, m) := by
  refine cP_ok (by simp [enc_pu, an_pu, AEv.enc]) ?_
  have al := fun m => alone_c ok h.ao e m
  unfold movedA
  generalize aloneN R n e = q at al
  obtain ⟨r, k⟩ := q
  simp only at al
  have sl : ∀ m, oSlice none (some 2) k.enc m = .ok (.tup [k.stand.enc, .int k.old], m) := fun m => rfl
  have ad : ∀ m, oAdd (.tup [k.stand.enc, .int k.old]) (.tup [.non]) m = .ok (An.enc { k with wait := none }, m) := fun m => by
    simp [oAdd, look1, LINE, An.enc, encO]
  have ix : ∀ m, oIx (.tup [.bl r, k.enc]) (.int 1) m = .ok (k.enc, m) := fun m => rfl
  have fz : ∀ k : An, ∀ m, frz 4 m k.enc = some k.enc := fun k m => frz_pu (an_pu k)
  have ex : ∀ m, oEq e.enc (.str [33]) m = .ok (.bl (decide (e = .ask)), m) := fun m => by
    cases e <;> rfl
  cases c with
  | false => simp [f_moved, bodyP, bodyI, s_moved, startS, al, ix, endF, fz]
  | true =>
    by_cases he : e = .ask
    · subst he
      simp [f_moved, bodyP, bodyI, s_moved, startS, al, ix, ex, sl, ad, endF, fz]
    · simp [f_moved, bodyP, bodyI, s_moved, startS, al, ix, ex, he, endF, fz]
def encK (K : List An) : List (PV × PV) := K.map fun n => (n.enc, .bl true)
theorem khas_an (K : List An) (n : An) : kHas (encK K) n.enc = decide (n ∈ K) := by
  unfold kHas encK
  rw [List.any_map, Bool.eq_iff_iff, List.any_eq_true, decide_eq_true_eq]
  constructor
  · rintro ⟨q, hq, e⟩
    simp only [Function.comp, eqv_an, decide_eq_true_eq] at e
    subst e; exact hq
  · intro h
    exact ⟨n, h, by simp [Function.comp, eqv_an]⟩
theorem kput_an {K : List An} {n : An} (h : ¬ n ∈ K) : kPut (encK K) n.enc (.bl true) = encK (K ++ [n]) := by
  unfold kPut
  rw [khas_an, if_neg (by simpa using h)]
  simp [encK]
theorem keys_an (K : List An) : (encK K).map (·.1) = K.map An.enc := by unfold encK; rw [List.map_map]; rfl
def spT : ST := (tV (e2 oLt (eVar 6) (eN fLen (aCons (eVar 4) aNil))))
def spA : SS := (sExpr (eM .list mAppend (eVar 4) (aCons (eN (cP f_moved) (aCons (eVar 0) (aCons (eVar 7) (aCons (eVar 8) (aCons (eVar 1) aNil))))) aNil)))
def spB : SS := (sSeq (sAsg (e2 oIx (eVar 4) (eVar 6)) (TT.gName 7))
  (sSeq (sAsg (e2 oAdd (eVar 6) (eC (.int 1))) (TT.gName 6))
  (sSeq (sIf (tOr (tV (e2 (oKIn2 false) (eVar 7) (eVar 2))) (tV (e2 (oKIn2 false) (eVar 7) (eVar 5)))) sCont sSkip)
  (sSeq (sAsg (eC (.bl true)) (gKSub (eVar 5) (eVar 7)))
  (sSeq (sIf (tT (e2 oIx (eN (cP f_alone) (aCons (eVar 0) (aCons (eVar 7) (aCons (eC (.str [33])) aNil)))) (eC (.int 0)))) (sRet (eTup (aCons (eVar 5) (aCons (eC (.bl true)) aNil)))) sSkip)
  (sFor (iT (eC c_SAFE)) (TT.gName 8) spA))))))
def spL : SS := (sExpr (eM .list mAppend (eVar 4) (aCons (eVar 7) aNil)))
theorem sp_eq : s_spread = (sSeq (sAsg (eLstM aNil) (TT.gName 4))
  (sSeq (sAsg eKNew (TT.gName 5))
  (sSeq (sAsg (eC (.int 0)) (TT.gName 6))
  (sSeq (sFor (iL (eVar 3)) (TT.gName 7) spL)
  (sSeq (sWhile spT spB)
  (sRet (eTup (aCons (eVar 5) (aCons (eC (.bl false)) aNil))))))))) := rfl
/-- the memory while it spreads: K known, at kc -/
def spM (m0 : Mm) (L N : List An) : Mm := m0 ++ [.lst (L.map An.enc), .kd (encK N)]
section
variable {R : Rule} {c : Bool} {K : List An} {m0 : Mm} {kc : Nat}
theorem spm_a (L N : List An) : (spM m0 L N)[m0.length]? = some (.lst (L.map An.enc)) := by simp [spM]
theorem spm_b (L N : List An) : (spM m0 L N)[m0.length + 1]? = some (.kd (encK N)) := by simp [spM]
theorem spm_k (hk : m0[kc]? = some (.kd (encK K))) (L N : List An) : (spM m0 L N)[kc]? = some (.kd (encK K)) := by
  rw [spM, List.getElem?_append_left (List.getElem?_eq_some_iff.mp hk).1]; exact hk
theorem spm_seta (L L' N : List An) : (spM m0 L N).set m0.length (.lst (L'.map An.enc)) = spM m0 L' N := by
  simp [spM, List.set_append]
theorem spm_setb (L N N' : List An) : (spM m0 L N).set (m0.length + 1) (.kd (encK N')) = spM m0 L N' := by
  simp [spM, List.set_append]
theorem spm_app (L N : List An) (n : An) (hl : L.length ≤ 900000) : mAppend (.ref m0.length) [n.enc] (spM m0 L N) = .ok (.non, spM m0 (L ++ [n]) N) := by
  rw [mAppend_ref (spm_a L N) (by rw [List.length_map]; exact line_lt' (by omega)), ← spm_seta L (L ++ [n]) N]
  simp
theorem spm_ty (L N : List An) : tyOk (spM m0 L N) .list (.ref m0.length) = true := by
  show (match (spM m0 L N)[m0.length]? with | some (.lst xs) => true | _ => false) = true
  rw [spm_a]
theorem sp_moves (ok : R.Ok) {n : An} (hn : PN R n) (s2 s3 s5 s6 : Option PV) (N : List An) : ∀ (es : List AEv) (L : List An) (x8 : Option PV), L.length + es.length ≤ 900000 →
    ∃ y8, forL (gName 8) spA (es.map AEv.enc) [some R.enc, some (.bl c), s2, s3, some (.ref m0.length), s5, s6, some n.enc, x8] (spM m0 L N) = .ok (.nx, [some R.enc, some (.bl c), s2, s3, some (.ref m0.length), s5, s6, some n.enc, y8], spM m0 (L ++ es.map (movedA R c n)) N)
  | [], L, x8, _ => ⟨x8, by simp⟩
  | e :: es, L, x8, hl => by
    simp only [List.length_cons] at hl
    obtain ⟨y8, h2⟩ := sp_moves ok hn s2 s3 s5 s6 N es (L ++ [movedA R c n e]) (some e.enc) (by rw [List.length_append, List.length_singleton]; omega)
    refine ⟨y8, ?_⟩
    rw [List.map_cons, forL_cons]
    simp only [gName_ap, Rs.bind_ok]
    have h1 : spA [some R.enc, some (.bl c), s2, s3, some (.ref m0.length), s5, s6, some n.enc, some e.enc] (spM m0 L N) = .ok (.nx, [some R.enc, some (.bl c), s2, s3, some (.ref m0.length), s5, s6, some n.enc, some e.enc], spM m0 (L ++ [movedA R c n e]) N) := by
      have mv := fun m => moved_ok ok c hn e m
      simp [spA, spm_ty, mv, spm_app L N (movedA R c n e) (by omega)]
    show Rs.bind (spA [some R.enc, some (.bl c), s2, s3, some (.ref m0.length), s5, s6, some n.enc, some e.enc] (spM m0 L N)) _ = _
    rw [h1]
    simp only [Rs.bind_ok]
    rw [h2]; simp
theorem sp_loop (ok : R.Ok) (hk : m0[kc]? = some (.kd (encK K))) (s3 : Option PV) {P N : List An} {r : List An × Bool} (h : Sp (grP R c) K P N r) : ∀ (L : List An) (at_ : Nat) (x7 x8 : Option PV) (F : Nat), P = L.drop at_ → at_ ≤ L.length → (∀ n ∈ L, PN R n) → (∀ n ∈ N, PN R n) → N.Nodup → L.length + 3 * (100000 - N.length) ≤ 800000 → P.length + 4 * (100000 - N.length) + 1 ≤ F →
    ∃ L' s' , whileF spT spB F [some R.enc, some (.bl c), some (.ref kc), s3, some (.ref m0.length), some (.ref (m0.length + 1)), some (.int at_), x7, x8] (spM m0 L N) = .ok ((if r.2 = true then .rt (.tup [.ref (m0.length + 1), .bl true]) else .nx), s', spM m0 L' r.1) ∧ s'[5]? = some (some (.ref (m0.length + 1))) ∧ (∀ n ∈ r.1, PN R n) := by
  have tst : ∀ (L N : List An) (at_ : Nat) (x7 x8 : Option PV), spT [some R.enc, some (.bl c), some (.ref kc), s3, some (.ref m0.length), some (.ref (m0.length + 1)), some (.int at_), x7, x8] (spM m0 L N) = .ok (decide ((at_ : Int) < L.length), spM m0 L N) := fun L N at_ x7 x8 => by
    have fl : fLen [.ref m0.length] (spM m0 L N) = .ok (.int L.length, spM m0 L N) := by
      simp [fLen, look1, spm_a]
    unfold spT
    simp [fl]
  have few' : ∀ {N : List An}, N.Nodup → (∀ n ∈ N, PN R n) → N.length ≤ 100000 := fun nd hN => few ok nd fun x hx => (hN x hx).bd
  have head : ∀ {n : An} {P L : List An} {at_ : Nat}, n :: P = L.drop at_ → L[at_]? = some n ∧ P = L.drop (at_ + 1) ∧ at_ < L.length := fun {n P L at_} e => by
    have h1 : at_ < L.length := by
      by_cases h : at_ < L.length
      · exact h
      · rw [List.drop_eq_nil_of_le (by omega)] at e; cases e
    rw [List.drop_eq_getElem_cons h1] at e
    simp only [List.cons.injEq] at e
    exact ⟨by rw [List.getElem?_eq_getElem h1, e.1], e.2, h1⟩
  -- the first steps of a turn
  have top : ∀ {n : An} {L N : List An} {at_ : Nat} (x7 x8 : Option PV), L[at_]? = some n →
      spB [some R.enc, some (.bl c), some (.ref kc), s3, some (.ref m0.length), some (.ref (m0.length + 1)), some (.int at_), x7, x8] (spM m0 L N) =
      (if n ∈ K ∨ n ∈ N then .ok (.ct, [some R.enc, some (.bl c), some (.ref kc), s3, some (.ref m0.length), some (.ref (m0.length + 1)), some (.int (at_ + 1 : Nat)), some n.enc, x8], spM m0 L N)
       else (sSeq (sAsg (eC (.bl true)) (gKSub (eVar 5) (eVar 7)))
  (sSeq (sIf (tT (e2 oIx (eN (cP f_alone) (aCons (eVar 0) (aCons (eVar 7) (aCons (eC (.str [33])) aNil)))) (eC (.int 0)))) (sRet (eTup (aCons (eVar 5) (aCons (eC (.bl true)) aNil)))) sSkip)
  (sFor (iT (eC c_SAFE)) (TT.gName 8) spA))) [some R.enc, some (.bl c), some (.ref kc), s3, some (.ref m0.length), some (.ref (m0.length + 1)), some (.int (at_ + 1 : Nat)), some n.enc, x8] (spM m0 L N)) := fun {n L N at_} x7 x8 hn => by
    have ix : oIx (.ref m0.length) (.int (at_ : Int)) (spM m0 L N) = .ok (n.enc, spM m0 L N) := oIx_ref (spm_a L N) (atI_nat (by rw [List.getElem?_map, hn]; rfl))
    have a1 : (sAsg (e2 oIx (eVar 4) (eVar 6)) (TT.gName 7)) [some R.enc, some (.bl c), some (.ref kc), s3, some (.ref m0.length), some (.ref (m0.length + 1)), some (.int at_), x7, x8] (spM m0 L N) = .ok (.nx, [some R.enc, some (.bl c), some (.ref kc), s3, some (.ref m0.length), some (.ref (m0.length + 1)), some (.int at_), some n.enc, x8], spM m0 L N) := by
      simp [ix]
    have a2 : (sAsg (e2 oAdd (eVar 6) (eC (.int 1))) (TT.gName 6)) [some R.enc, some (.bl c), some (.ref kc), s3, some (.ref m0.length), some (.ref (m0.length + 1)), some (.int at_), some n.enc, x8] (spM m0 L N) = .ok (.nx, [some R.enc, some (.bl c), some (.ref kc), s3, some (.ref m0.length), some (.ref (m0.length + 1)), some (.int (at_ + 1 : Nat)), some n.enc, x8], spM m0 L N) := by
      simp
    have k1 := kin_ap (kd_of (spm_k hk L N)) (show isTup n.enc = true from rfl) (an_ky n)
    have k2 := kin_ap (kd_of (spm_b (m0 := m0) L N)) (show isTup n.enc = true from rfl) (an_ky n)
    rw [khas_an] at k1 k2
    have a3 : (sIf (tOr (tV (e2 (oKIn2 false) (eVar 7) (eVar 2))) (tV (e2 (oKIn2 false) (eVar 7) (eVar 5)))) sCont sSkip) [some R.enc, some (.bl c), some (.ref kc), s3, some (.ref m0.length), some (.ref (m0.length + 1)), some (.int (at_ + 1 : Nat)), some n.enc, x8] (spM m0 L N) = .ok ((if n ∈ K ∨ n ∈ N then .ct else .nx), [some R.enc, some (.bl c), some (.ref kc), s3, some (.ref m0.length), some (.ref (m0.length + 1)), some (.int (at_ + 1 : Nat)), some n.enc, x8], spM m0 L N) := by
      generalize ((at_ + 1 : Nat) : Int) = A
      by_cases h1 : n ∈ K
      · simp [k1, h1]
      · by_cases h2 : n ∈ N
        · simp [k1, k2, h1, h2]
        · simp [k1, k2, h1, h2]
    unfold spB
    rw [seq_nx a1, seq_nx a2]
    by_cases hc : n ∈ K ∨ n ∈ N
    · rw [if_pos hc] at a3 ⊢
      rw [seq_ct a3]
    · rw [if_neg hc] at a3 ⊢
      rw [seq_nx a3]
  -- a new node
  have new : ∀ {n : An} {L N : List An} (at_ : Nat) (x8 : Option PV), PN R n → ¬ n ∈ N → N.length ≤ 100000 →
      (sAsg (eC (.bl true)) (gKSub (eVar 5) (eVar 7))) [some R.enc, some (.bl c), some (.ref kc), s3, some (.ref m0.length), some (.ref (m0.length + 1)), some (.int (at_ + 1 : Nat)), some n.enc, x8] (spM m0 L N) = .ok (.nx, [some R.enc, some (.bl c), some (.ref kc), s3, some (.ref m0.length), some (.ref (m0.length + 1)), some (.int (at_ + 1 : Nat)), some n.enc, x8], spM m0 L (N ++ [n])) ∧
      (sIf (tT (e2 oIx (eN (cP f_alone) (aCons (eVar 0) (aCons (eVar 7) (aCons (eC (.str [33])) aNil)))) (eC (.int 0)))) (sRet (eTup (aCons (eVar 5) (aCons (eC (.bl true)) aNil)))) sSkip) [some R.enc, some (.bl c), some (.ref kc), s3, some (.ref m0.length), some (.ref (m0.length + 1)), some (.int (at_ + 1 : Nat)), some n.enc, x8] (spM m0 L (N ++ [n])) =
        .ok ((if (aloneN R n .ask).1 = true then .rt (.tup [.ref (m0.length + 1), .bl true]) else .nx), [some R.enc, some (.bl c), some (.ref kc), s3, some (.ref m0.length), some (.ref (m0.length + 1)), some (.int (at_ + 1 : Nat)), some n.enc, x8], spM m0 L (N ++ [n])) := fun {n L N} at_ x8 hn hnn hl => by
    have st := kset_ap (v := .bl true) (spm_b (m0 := m0) L N) (show isTup n.enc = true from rfl) (an_ky n) (by unfold encK; rw [List.length_map]; exact line_lt' (by omega))
    rw [kput_an hnn, spm_setb] at st
    have al := fun m => alone_c ok hn.ao .ask m
    simp only [AEv.enc, AEv.code] at al
    generalize ((at_ + 1 : Nat) : Int) = A
    refine ⟨by simp [gKSub, st], ?_⟩
    have ix : ∀ b v m, oIx (.tup [.bl b, v]) (.int 0) m = .ok (.bl b, m) := fun b v m => rfl
    generalize (aloneN R n .ask).1 = bb at al ⊢
    cases bb <;> simp [al, ix]
  induction h with
  | done N =>
    intro L at_ x7 x8 F hP ha hL hN nd hl hF
    obtain ⟨F, rfl⟩ : ∃ f, F = f + 1 := ⟨F - 1, by omega⟩
    have : L.length ≤ at_ := by
      have := congrArg List.length hP
      rw [List.length_drop, List.length_nil] at this; omega
    have ht := tst L N at_ x7 x8
    rw [decide_eq_false (by omega)] at ht
    exact ⟨L, _, while_end ht, rfl, hN⟩
  | @skip n P N r hq _ ih =>
    intro L at_ x7 x8 F hP ha hL hN nd hl hF
    obtain ⟨F, rfl⟩ : ∃ f, F = f + 1 := ⟨F - 1, by omega⟩
    obtain ⟨h1, h2, h3⟩ := head hP
    have ht := tst L N at_ x7 x8
    rw [decide_eq_true (by omega)] at ht
    have hb := top (N := N) x7 x8 h1
    rw [if_pos hq] at hb
    rw [while_step ht (.inr hb)]
    exact ih L (at_ + 1) (some n.enc) x8 F h2 (by omega) hL hN nd hl (by simp only [List.length_cons] at hF; omega)
  | @bad n P N hq hbad =>
    intro L at_ x7 x8 F hP ha hL hN nd hl hF
    obtain ⟨F, rfl⟩ : ∃ f, F = f + 1 := ⟨F - 1, by omega⟩
    obtain ⟨h1, h2, h3⟩ := head hP
    have pn := hL n (List.mem_of_getElem? h1)
    have ht := tst L N at_ x7 x8
    rw [decide_eq_true (by omega)] at ht
    have hb := top (N := N) x7 x8 h1
    rw [if_neg hq] at hb
    obtain ⟨n1, n2⟩ := new (L := L) at_ x8 pn (fun z => hq (.inr z)) (few' nd hN)
    have hbad' : (aloneN R n .ask).1 = true := hbad
    rw [if_pos hbad'] at n2
    rw [seq_nx n1, seq_rt n2] at hb
    refine ⟨L, _, while_rt ht hb, rfl, fun m hm => ?_⟩
    rcases List.mem_append.mp hm with hm | hm
    · exact hN m hm
    · cases List.mem_singleton.mp hm; exact pn
  | @go n P N r hq hbad _ ih =>
    intro L at_ x7 x8 F hP ha hL hN nd hl hF
    obtain ⟨F, rfl⟩ : ∃ f, F = f + 1 := ⟨F - 1, by omega⟩
    obtain ⟨h1, h2, h3⟩ := head hP
    have pn := hL n (List.mem_of_getElem? h1)
    have ht := tst L N at_ x7 x8
    rw [decide_eq_true (by omega)] at ht
    have hb := top (N := N) x7 x8 h1
    rw [if_neg hq] at hb
    obtain ⟨n1, n2⟩ := new (L := L) at_ x8 pn (fun z => hq (.inr z)) (few' nd hN)
    have hbad' : ¬ (aloneN R n .ask).1 = true := by
      have : (aloneN R n .ask).1 = false := hbad
      simp [this]
    rw [if_neg hbad'] at n2
    rw [seq_nx n1, seq_nx n2] at hb
    have nd2 : (N ++ [n]).Nodup := by
      rw [List.nodup_append]
      refine ⟨nd, by simp, fun a ha b hb => ?_⟩
      cases List.mem_singleton.mp hb
      exact fun z => hq (.inr (by rw [← z]; exact ha))
    have hN2 : ∀ m ∈ N ++ [n], PN R m := fun m hm => by
      rcases List.mem_append.mp hm with hm | hm
      · exact hN m hm
      · cases List.mem_singleton.mp hm; exact pn
    have hl2 := few' nd2 hN2
    simp only [List.length_append, List.length_singleton] at hl2
    obtain ⟨y8, mv⟩ := sp_moves (c := c) (m0 := m0) ok pn (some (.ref kc)) s3 (some (.ref (m0.length + 1))) (some (.int (at_ + 1 : Nat))) (N ++ [n]) safeE L x8 (by simp only [safeE, List.length_cons, List.length_nil]; omega)
    have fr : (sFor (iT (eC c_SAFE)) (TT.gName 8) spA) [some R.enc, some (.bl c), some (.ref kc), s3, some (.ref m0.length), some (.ref (m0.length + 1)), some (.int (at_ + 1 : Nat)), some n.enc, x8] (spM m0 L (N ++ [n])) = .ok (.nx, [some R.enc, some (.bl c), some (.ref kc), s3, some (.ref m0.length), some (.ref (m0.length + 1)), some (.int (at_ + 1 : Nat)), some n.enc, y8], spM m0 (L ++ safeE.map (movedA R c n)) (N ++ [n])) := by
      have it : iT (eC c_SAFE) [some R.enc, some (.bl c), some (.ref kc), s3, some (.ref m0.length), some (.ref (m0.length + 1)), some (.int (at_ + 1 : Nat)), some n.enc, x8] (spM m0 L (N ++ [n])) = .ok (safeE.map AEv.enc, spM m0 L (N ++ [n])) := rfl
      rw [sFor_ap, it, Rs.bind_ok]; exact mv
    rw [fr] at hb
    rw [while_step ht (.inl hb)]
    refine ih (L ++ safeE.map (movedA R c n)) (at_ + 1) (some n.enc) y8 F ?_ (by rw [List.length_append]; omega) (fun m hm => ?_) hN2 nd2 ?_ ?_
    · rw [h2, List.drop_append_of_le_length (by omega)]; rfl
    · rcases List.mem_append.mp hm with hm | hm
      · exact hL m hm
      · obtain ⟨e, _, rfl⟩ := List.mem_map.mp hm
        exact pn_moved ok c pn e
    · simp only [List.length_append, List.length_map, List.length_singleton, safeE, List.length_cons, List.length_nil]; omega
    · simp only [grP, List.length_append, List.length_map, List.length_singleton, safeE, List.length_cons, List.length_nil] at hF ⊢; omega
end
end TT
end

section
set_option linter.all false
set_option autoImplicit false
namespace TT
theorem Sp.disj {α : Type} [DecidableEq α] {G : Gr α} {K P N : List α} {r : List α × Bool} (h : Sp G K P N r) (hN : ∀ n ∈ N, ¬ n ∈ K) : ∀ n ∈ r.1, ¬ n ∈ K := by
  have ap : ∀ {N : List α} {n : α}, (∀ n ∈ N, ¬ n ∈ K) → ¬ n ∈ K → ∀ m ∈ N ++ [n], ¬ m ∈ K := fun hN hn m hm => by
    rcases List.mem_append.mp hm with hm | hm
    · exact hN m hm
    · cases List.mem_singleton.mp hm; exact hn
  induction h with
  | done N => exact hN
  | skip _ _ ih => exact ih hN
  | bad h1 _ => exact ap hN fun z => h1 (.inl z)
  | go h1 _ _ ih => exact ih (ap hN fun z => h1 (.inl z))
section
variable {R : Rule} {c : Bool} {K : List An} {m0 : Mm} {kc : Nat}
theorem sp_lines (s0 s1 s2 s3 s5 s6 s8 : Option PV) (N : List An) : ∀ (S L : List An) (x7 : Option PV), L.length + S.length ≤ 800000 →
    ∃ y7, forL (gName 7) spL (S.map An.enc) [s0, s1, s2, s3, some (.ref m0.length), s5, s6, x7, s8] (spM m0 L N) = .ok (.nx, [s0, s1, s2, s3, some (.ref m0.length), s5, s6, y7, s8], spM m0 (L ++ S) N)
  | [], L, x7, _ => ⟨x7, by simp⟩
  | n :: S, L, x7, hl => by
    simp only [List.length_cons] at hl
    obtain ⟨y7, h2⟩ := sp_lines s0 s1 s2 s3 s5 s6 s8 N S (L ++ [n]) (some n.enc) (by rw [List.length_append, List.length_singleton]; omega)
    refine ⟨y7, ?_⟩
    rw [List.map_cons, forL_cons]
    simp only [gName_ap, Rs.bind_ok]
    have h1 : spL [s0, s1, s2, s3, some (.ref m0.length), s5, s6, some n.enc, s8] (spM m0 L N) = .ok (.nx, [s0, s1, s2, s3, some (.ref m0.length), s5, s6, some n.enc, s8], spM m0 (L ++ [n]) N) := by
      simp [spL, spm_ty, spm_app L N n (by omega)]
    show Rs.bind (spL [s0, s1, s2, s3, some (.ref m0.length), s5, s6, some n.enc, s8] (spM m0 L N)) _ = _
    rw [h1]
    simp only [Rs.bind_ok]
    rw [h2]; simp
theorem spread_ok (ok : R.Ok) (hk : m0[kc]? = some (.kd (encK K))) {S : List An} {r : List An × Bool} (h : Sp (grP R c) K S [] r) (hS : ∀ n ∈ S, PN R n) (hl : S.length ≤ 400000) :
    ∃ L', i_spread [R.enc, .bl c, .ref kc, .vl (S.map An.enc)] m0 = .ok (.tup [.ref (m0.length + 1), .bl r.2], spM m0 L' r.1) ∧ ∀ n ∈ r.1, PN R n := by
  obtain ⟨y7, l1⟩ := sp_lines (m0 := m0) (some R.enc) (some (.bl c)) (some (.ref kc)) (some (.vl (S.map An.enc))) (some (.ref (m0.length + 1))) (some (.int (0 : Nat))) none [] S [] none (by simp; omega)
  rw [List.nil_append] at l1
  obtain ⟨L', s', w1, w2, w3⟩ := sp_loop ok hk (some (.vl (S.map An.enc))) h S 0 y7 none FUEL rfl (Nat.zero_le _) hS (fun n h => nomatch h) List.nodup_nil (by simp; omega) (by unfold FUEL; simp; omega)
  refine ⟨L', ?_, w3⟩
  unfold i_spread bodyI
  rw [if_pos (show [R.enc, PV.bl c, PV.ref kc, PV.vl (S.map An.enc)].length = 4 from rfl), sp_eq]
  have e1 : startS 9 [R.enc, PV.bl c, PV.ref kc, PV.vl (S.map An.enc)] = [some R.enc, some (.bl c), some (.ref kc), some (.vl (S.map An.enc)), none, none, none, none, none] := rfl
  rw [e1]
  have a1 : (sAsg (eLstM aNil) (TT.gName 4)) [some R.enc, some (.bl c), some (.ref kc), some (.vl (S.map An.enc)), none, none, none, none, none] m0 = .ok (.nx, [some R.enc, some (.bl c), some (.ref kc), some (.vl (S.map An.enc)), some (.ref m0.length), none, none, none, none], m0 ++ [.lst []]) := rfl
  have a2 : (sAsg eKNew (TT.gName 5)) [some R.enc, some (.bl c), some (.ref kc), some (.vl (S.map An.enc)), some (.ref m0.length), none, none, none, none] (m0 ++ [.lst []]) = .ok (.nx, [some R.enc, some (.bl c), some (.ref kc), some (.vl (S.map An.enc)), some (.ref m0.length), some (.ref (m0.length + 1)), none, none, none], spM m0 [] []) := by
    have kn : ∀ s m, eKNew s m = .ok (.ref m.length, m ++ [.kd []]) := fun s m => rfl
    simp [kn, spM, encK]
  have a3 : (sAsg (eC (.int 0)) (TT.gName 6)) [some R.enc, some (.bl c), some (.ref kc), some (.vl (S.map An.enc)), some (.ref m0.length), some (.ref (m0.length + 1)), none, none, none] (spM m0 [] []) = .ok (.nx, [some R.enc, some (.bl c), some (.ref kc), some (.vl (S.map An.enc)), some (.ref m0.length), some (.ref (m0.length + 1)), some (.int (0 : Nat)), none, none], spM m0 [] []) := rfl
  have a4 : (sFor (iL (eVar 3)) (TT.gName 7) spL) [some R.enc, some (.bl c), some (.ref kc), some (.vl (S.map An.enc)), some (.ref m0.length), some (.ref (m0.length + 1)), some (.int (0 : Nat)), none, none] (spM m0 [] []) = .ok (.nx, [some R.enc, some (.bl c), some (.ref kc), some (.vl (S.map An.enc)), some (.ref m0.length), some (.ref (m0.length + 1)), some (.int (0 : Nat)), y7, none], spM m0 S []) := by
    have il : iL (eVar 3) [some R.enc, some (.bl c), some (.ref kc), some (.vl (S.map An.enc)), some (.ref m0.length), some (.ref (m0.length + 1)), some (.int (0 : Nat)), none, none] (spM m0 [] []) = .ok (S.map An.enc, spM m0 [] []) := rfl
    rw [sFor_ap, il, Rs.bind_ok]; exact l1
  rw [seq_nx a1, seq_nx a2, seq_nx a3, seq_nx a4]
  cases hb : r.2 with
  | true =>
    rw [hb, if_pos rfl] at w1
    have a5 : (sWhile spT spB) [some R.enc, some (.bl c), some (.ref kc), some (.vl (S.map An.enc)), some (.ref m0.length), some (.ref (m0.length + 1)), some (.int (0 : Nat)), y7, none] (spM m0 S []) = .ok (.rt (.tup [.ref (m0.length + 1), .bl true]), s', spM m0 L' r.1) := w1
    rw [seq_rt a5]; rfl
  | false =>
    rw [hb, if_neg (by decide)] at w1
    have a5 : (sWhile spT spB) [some R.enc, some (.bl c), some (.ref kc), some (.vl (S.map An.enc)), some (.ref m0.length), some (.ref (m0.length + 1)), some (.int (0 : Nat)), y7, none] (spM m0 S []) = .ok (.nx, s', spM m0 L' r.1) := w1
    rw [seq_nx a5]
    simp [w2, endF]
/-! ### level by level -/
def fwE : SE := (eN (cP f_moved) (aCons (eVar 0) (aCons (eVar 7) (aCons (eVar 8) (aCons (eVar 1) aNil)))))
def fwT : ST := (tV (e2 oNe (eVar 3) (eLst aNil)))
def fwK : SS := (sAsg (eC (.bl true)) (gKSub (eVar 2) (eVar 7)))
def fwB : SS := (sSeq (sAsg (eN (cI i_spread) (aCons (eVar 0) (aCons (eVar 1) (aCons (eVar 2) (aCons (eVar 3) aNil))))) (TT.gTup [5, 6]))
  (sSeq (sIf (tT (eVar 6)) (sRet (eVar 4)) sSkip)
  (sSeq (sLock 5) (sSeq (sAsg (eLc2 [7, 8] [8] (iKl (eVar 5)) (TT.gName 7) tYes (iT (eC c_FAULTS)) (TT.gName 8) tYes fwE) (TT.gName 3))
  (sSeq (sFor (iKl (eVar 5)) (TT.gName 7) fwK)
  (sAsg (e2 oAdd (eVar 4) (eC (.int 1))) (TT.gName 4)))))))
theorem fw_eq : s_fewest = (sSeq (sAsg eKNew (TT.gName 2))
  (sSeq (sPar2 3 4 (aCons (eLst (aCons (eN (cP f_first_node) (aCons (eVar 0) aNil)) aNil)) (aCons (eC (.int 0)) aNil)))
  (sSeq (sWhile fwT fwB)
  (sRet (eC .non))))) := rfl
def nextF (R : Rule) (c : Bool) (n : An) : List An := faultE.map (movedA R c n)
theorem lc2_faults (ok : R.Ok) (s : Sl) (h0 : s[0]? = some (some R.enc)) (h1 : s[1]? = some (some (.bl c))) (hl : s.length = 9) (m : Mm) : ∀ (Ms acc : List An), (∀ n ∈ Ms, PN R n) → acc.length + 2 * Ms.length ≤ 900000 →
    lc2L (TT.gName 7) tYes (iT (eC c_FAULTS)) [8] (TT.gName 8) tYes fwE s (Ms.map An.enc) m (acc.map An.enc) = .ok ((acc ++ Ms.flatMap (nextF R c)).map An.enc, m)
  | [], acc, _, _ => by simp [lc2L]
  | n :: Ms, acc, hp, ha => by
    simp only [List.length_cons] at ha
    have pn := hp n List.mem_cons_self
    have mv := fun e m => moved_ok ok c pn e m
    have e1 := mv .drop
    have e2 := mv .late
    simp only [AEv.enc, AEv.code] at e1 e2
    have g7 : (s.set 7 (some n.enc))[7]? = some (some n.enc) := List.getElem?_set_self (by omega)
    have ih := lc2_faults ok s h0 h1 hl m Ms (acc ++ nextF R c n) (fun k hk => hp k (List.mem_cons_of_mem _ hk)) (by simp [nextF, faultE]; omega)
    have l1 : acc.length < LINE := line_lt' (by omega)
    have l2 : acc.length + 1 < LINE := line_lt' (by omega)
    have it : iT (eC c_FAULTS) (s.set 7 (some n.enc)) m = .ok ([.str [45], .str [126]], m) := rfl
    -- one element of the inner walk
    have el : ∀ (x : PV) (v : PV), (∀ m, cP f_moved [R.enc, n.enc, x, .bl c] m = .ok (v, m)) → fwE ((wipe (s.set 7 (some n.enc)) [8]).set 8 (some x)) m = .ok (v, m) := fun x v hv => by
      have q : (wipe (s.set 7 (some n.enc)) [8]).set 8 (some x) = (s.set 7 (some n.enc)).set 8 (some x) := by
        show ((s.set 7 (some n.enc)).set 8 none).set 8 (some x) = _
        rw [List.set_set]
      rw [q]
      have i0 : ((s.set 7 (some n.enc)).set 8 (some x))[0]? = some (some R.enc) := by rw [List.getElem?_set_ne (by decide), List.getElem?_set_ne (by decide)]; exact h0
      have i1 : ((s.set 7 (some n.enc)).set 8 (some x))[1]? = some (some (.bl c)) := by rw [List.getElem?_set_ne (by decide), List.getElem?_set_ne (by decide)]; exact h1
      have i7 : ((s.set 7 (some n.enc)).set 8 (some x))[7]? = some (some n.enc) := by rw [List.getElem?_set_ne (by decide)]; exact g7
      have i8 : ((s.set 7 (some n.enc)).set 8 (some x))[8]? = some (some x) := List.getElem?_set_self (by rw [List.length_set]; omega)
      unfold fwE
      simp only [eN_ap, aCons_ap, aNil_ap, eVar_ap, i0, i1, i7, i8, Rs.bind_ok, hv]
    have inner : lcL (TT.gName 8) tYes fwE (wipe (s.set 7 (some n.enc)) [8]) [.str [45], .str [126]] m (acc.map An.enc) = .ok ((acc ++ nextF R c n).map An.enc, m) := by
      have q1 := el _ _ e1
      have q2 := el _ _ e2
      simp only [lcL, gName_ap, Rs.nx_ok, Rs.bind_ok, tYes_ap, if_true, q1, q2, List.length_map, List.length_append, List.length_singleton, if_pos l1, if_pos l2]
      simp [nextF, faultE]
    rw [List.map_cons]
    unfold lc2L
    simp only [gName_ap, Rs.nx_ok, Rs.bind_ok, tYes_ap, if_true, it, inner]
    rw [ih, List.flatMap_cons, List.append_assoc]
theorem fw_knows (s0 s1 s3 s4 s5 s6 s8 : Option PV) : ∀ (Ms K : List An) (x7 : Option PV) (m : Mm), m[0]? = some (.kd (encK K)) → K.length + Ms.length ≤ 900000 → Ms.Nodup → (∀ n ∈ Ms, ¬ n ∈ K) →
    ∃ y7, forL (gName 7) fwK (Ms.map An.enc) [s0, s1, some (.ref 0), s3, s4, s5, s6, x7, s8] m = .ok (.nx, [s0, s1, some (.ref 0), s3, s4, s5, s6, y7, s8], m.set 0 (.kd (encK (K ++ Ms))))
  | [], K, x7, m, hm, _, _, _ => ⟨x7, by simp [set_self hm]⟩
  | n :: Ms, K, x7, m, hm, hl, nd, hd => by
    simp only [List.length_cons] at hl
    obtain ⟨n1, n2⟩ := List.nodup_cons.mp nd
    have st := kset_ap (v := .bl true) hm (show isTup n.enc = true from rfl) (an_ky n) (by unfold encK; rw [List.length_map]; exact line_lt' (by omega))
    rw [kput_an (hd n List.mem_cons_self)] at st
    have h0 : 0 < m.length := (List.getElem?_eq_some_iff.mp hm).1
    obtain ⟨y7, h2⟩ := fw_knows s0 s1 s3 s4 s5 s6 s8 Ms (K ++ [n]) (some n.enc) (m.set 0 (.kd (encK (K ++ [n])))) (List.getElem?_set_self h0) (by rw [List.length_append, List.length_singleton]; omega) n2 (fun k hk z => by
      rcases List.mem_append.mp z with z | z
      · exact hd k (List.mem_cons_of_mem _ hk) z
      · cases List.mem_singleton.mp z; exact n1 hk)
    refine ⟨y7, ?_⟩
    rw [List.map_cons, forL_cons]
    simp only [gName_ap, Rs.bind_ok]
    have h1 : fwK [s0, s1, some (.ref 0), s3, s4, s5, s6, some n.enc, s8] m = .ok (.nx, [s0, s1, some (.ref 0), s3, s4, s5, s6, some n.enc, s8], m.set 0 (.kd (encK (K ++ [n])))) := by
      simp [fwK, gKSub, st]
    show Rs.bind (fwK [s0, s1, some (.ref 0), s3, s4, s5, s6, some n.enc, s8] m) _ = _
    rw [h1]
    simp only [Rs.bind_ok]
    rw [h2, List.set_set]; simp
def encF : Option Nat → PV
  | none => .non
  | some f => .int f
def flF : Option Nat → Fl
  | none => .nx
  | some f => .rt (.int f)
theorem an_sh (n : An) : n.enc.sh 11 = true := by
  have intsSh : ∀ (xs : List Int) (k : Nat), (xs.map PV.int).all (PV.sh k) = true := fun xs k => by
    rw [List.all_map, List.all_eq_true]
    intro x _
    cases k <;> rfl
  have o : ∀ (x : Option Int) k, (encO x).sh k = true := fun x k => by cases x <;> cases k <;> rfl
  simp [An.enc, Stand.enc, Stand.items, PV.sh, intsSh, o]
theorem fw_loop (ok : R.Ok) : ∀ (k : Nat) (K S : List An) (f : Nat) (m : Mm) (x5 x6 x7 x8 : Option PV) (F : Nat), 2 * (100000 - K.length) + (if S = [] then 0 else 1) < k → k ≤ F → Lv (grP R c) f K S → K.Nodup → (∀ n ∈ K, PN R n) → (∀ n ∈ S, PN R n) → S.length ≤ 200000 → m[0]? = some (.kd (encK K)) →
    ∃ r s' m', Tells (grP R c) r ∧ whileF fwT fwB F [some R.enc, some (.bl c), some (.ref 0), some (.vl (S.map An.enc)), some (.int f), x5, x6, x7, x8] m = .ok (flF r, s', m')
  | 0, _, _, _, _, _, _, _, _, _, h, _, _, _, _, _, _, _ => absurd h (Nat.not_lt_zero _)
  | k + 1, K, S, f, m, x5, x6, x7, x8, F, hk, hF, lv, nd, pK, pS, hl, hm => by
    obtain ⟨F, rfl⟩ : ∃ g, F = g + 1 := ⟨F - 1, by omega⟩
    have tst : fwT [some R.enc, some (.bl c), some (.ref 0), some (.vl (S.map An.enc)), some (.int f), x5, x6, x7, x8] m = .ok (!S.isEmpty, m) := by
      have sh : (PV.vl (S.map An.enc)).sh DEP = true := by
        show ((S.map An.enc).all (PV.sh 11)) = true
        rw [List.all_map, List.all_eq_true]
        exact fun n _ => an_sh n
      have ne : oNe (.vl (S.map An.enc)) (.vl []) m = .ok (.bl (!S.isEmpty), m) := by
        refine (oNe_of (v := .vl (S.map An.enc)) (w := .vl []) (m := m) sh rfl).trans ?_
        cases S <;> rfl
      unfold fwT
      simp [ne]
    have km : K.length ≤ 100000 := few ok nd fun x hx => (pK x hx).bd
    cases S with
    | nil =>
      exact ⟨none, _, _, lv_none lv, while_end tst⟩
    | cons s0 S0 =>
      obtain ⟨S, hS⟩ : ∃ S, S = s0 :: S0 := ⟨_, rfl⟩
      rw [← hS] at hk lv pS hl tst ⊢
      have hne : ¬ S = [] := by rw [hS]; exact fun z => nomatch z
      have tst : fwT [some R.enc, some (.bl c), some (.ref 0), some (.vl (S.map An.enc)), some (.int f), x5, x6, x7, x8] m = .ok (true, m) := by rw [tst, hS]; rfl
      rw [if_neg hne] at hk
      have stp : ∀ n m, PN R n → (grP R c).bad n = false → m ∈ (grP R c).safe n → PN R m := fun n m h _ hm => by
        obtain ⟨e, _, rfl⟩ := List.mem_map.mp hm
        exact pn_moved ok c h e
      obtain ⟨r, hr⟩ := Sp.ends (G := grP R c) (T := PN R) (U := anU) (fun n h => mem_anU ok h.bd) K stp anU.length S [] pS (fun n h => nomatch h) List.nodup_nil (by simp)
      obtain ⟨L', e1, pM⟩ := spread_ok ok hm hr pS (by omega)
      obtain ⟨M, b⟩ := r
      simp only at e1 pM
      have rM : ∀ n ∈ M, Rch (grP R c) f n := Sp.all hr lv.rS (fun n h => nomatch h) fun n m h hb hm => .safe h hb hm
      have a1 : (sAsg (eN (cI i_spread) (aCons (eVar 0) (aCons (eVar 1) (aCons (eVar 2) (aCons (eVar 3) aNil))))) (TT.gTup [5, 6])) [some R.enc, some (.bl c), some (.ref 0), some (.vl (S.map An.enc)), some (.int f), x5, x6, x7, x8] m = .ok (.nx, [some R.enc, some (.bl c), some (.ref 0), some (.vl (S.map An.enc)), some (.int f), some (.ref (m.length + 1)), some (.bl b), x7, x8], spM m L' M) := by
        simp [cI, e1]
      cases b with
      | true =>
        have a2 : (sIf (tT (eVar 6)) (sRet (eVar 4)) sSkip) [some R.enc, some (.bl c), some (.ref 0), some (.vl (S.map An.enc)), some (.int f), some (.ref (m.length + 1)), some (.bl true), x7, x8] (spM m L' M) = .ok (.rt (.int f), [some R.enc, some (.bl c), some (.ref 0), some (.vl (S.map An.enc)), some (.int f), some (.ref (m.length + 1)), some (.bl true), x7, x8], spM m L' M) := rfl
        have hb : fwB [some R.enc, some (.bl c), some (.ref 0), some (.vl (S.map An.enc)), some (.int f), x5, x6, x7, x8] m = .ok (.rt (.int f), [some R.enc, some (.bl c), some (.ref 0), some (.vl (S.map An.enc)), some (.int f), some (.ref (m.length + 1)), some (.bl true), x7, x8], spM m L' M) := by
          unfold fwB
          rw [seq_nx a1, seq_rt a2]
        obtain ⟨n, hn, hbad⟩ := Sp.hit hr
        exact ⟨some f, _, _, lv_hit lv hbad (rM n hn), while_rt tst hb⟩
      | false =>
        have dj := Sp.disj hr (fun n h => nomatch h)
        have ndM := Sp.nodup hr List.nodup_nil
        simp only at dj ndM
        have mm : M.length ≤ 100000 := few ok ndM fun x hx => (pM x hx).bd
        obtain ⟨q1, q2⟩ := Sp.closed hr
        have q2' : ∀ n ∈ M, (grP R c).bad n = false ∧ ∀ m ∈ (grP R c).safe n, m ∈ K ∨ m ∈ M := fun n hn => (q2 n hn).elim (fun z => nomatch z) id
        have a2 : (sIf (tT (eVar 6)) (sRet (eVar 4)) sSkip) [some R.enc, some (.bl c), some (.ref 0), some (.vl (S.map An.enc)), some (.int f), some (.ref (m.length + 1)), some (.bl false), x7, x8] (spM m L' M) = .ok (.nx, [some R.enc, some (.bl c), some (.ref 0), some (.vl (S.map An.enc)), some (.int f), some (.ref (m.length + 1)), some (.bl false), x7, x8], spM m L' M) := rfl
        obtain ⟨m2, hm2⟩ : ∃ m2, m2 = (spM m L' M).set (m.length + 1) (.kl (encK M)) := ⟨_, rfl⟩
        have hb1 := spm_b (m0 := m) L' M
        have hblt := (List.getElem?_eq_some_iff.mp hb1).1
        have a3 : (sLock 5) [some R.enc, some (.bl c), some (.ref 0), some (.vl (S.map An.enc)), some (.int f), some (.ref (m.length + 1)), some (.bl false), x7, x8] (spM m L' M) = .ok (.nx, [some R.enc, some (.bl c), some (.ref 0), some (.vl (S.map An.enc)), some (.int f), some (.ref (m.length + 1)), some (.bl false), x7, x8], m2) := by
          unfold sLock
          simp [hb1, hm2]
        have k1 : m2[m.length + 1]? = some (.kl (encK M)) := by rw [hm2]; exact List.getElem?_set_self hblt
        have k0 : m2[0]? = some (.kd (encK K)) := by rw [hm2, List.getElem?_set_ne (by omega)]; exact spm_k hm L' M
        have ikl : ∀ s : Sl, s[5]? = some (some (.ref (m.length + 1))) → iKl (eVar 5) s m2 = .ok (M.map An.enc, m2) := fun s hs => by
          unfold iKl
          simp [hs, k1, keys_an]
        obtain ⟨S', hS'⟩ : ∃ S', S' = M.flatMap (nextF R c) := ⟨_, rfl⟩
        have a4 : (sAsg (eLc2 [7, 8] [8] (iKl (eVar 5)) (TT.gName 7) tYes (iT (eC c_FAULTS)) (TT.gName 8) tYes fwE) (TT.gName 3)) [some R.enc, some (.bl c), some (.ref 0), some (.vl (S.map An.enc)), some (.int f), some (.ref (m.length + 1)), some (.bl false), x7, x8] m2 = .ok (.nx, [some R.enc, some (.bl c), some (.ref 0), some (.vl (S'.map An.enc)), some (.int f), some (.ref (m.length + 1)), some (.bl false), x7, x8], m2) := by
          have l2 := lc2_faults (c := c) ok (wipe [some R.enc, some (.bl c), some (.ref 0), some (.vl (S.map An.enc)), some (.int f), some (.ref (m.length + 1)), some (.bl false), x7, x8] [7, 8]) rfl rfl rfl m2 M [] pM (by simp; omega)
          have el : eLc2 [7, 8] [8] (iKl (eVar 5)) (TT.gName 7) tYes (iT (eC c_FAULTS)) (TT.gName 8) tYes fwE [some R.enc, some (.bl c), some (.ref 0), some (.vl (S.map An.enc)), some (.int f), some (.ref (m.length + 1)), some (.bl false), x7, x8] m2 = .ok (.vl (S'.map An.enc), m2) := by
            unfold eLc2
            rw [ikl _ rfl, Rs.bind_ok]
            show Rs.bind (lc2L _ _ _ _ _ _ _ (wipe [some R.enc, some (.bl c), some (.ref 0), some (.vl (S.map An.enc)), some (.int f), some (.ref (m.length + 1)), some (.bl false), x7, x8] [7, 8]) (M.map An.enc) m2 []) _ = _
            rw [show ([] : List PV) = ([] : List An).map An.enc from rfl, l2, List.nil_append, ← hS']
            rfl
          rw [sAsg_ap, el, Rs.bind_ok, gName_ap, Rs.bind_ok]
          rfl
        obtain ⟨y7, l5⟩ := fw_knows (some R.enc) (some (.bl c)) (some (.vl (S'.map An.enc))) (some (.int f)) (some (.ref (m.length + 1))) (some (.bl false)) x8 M K x7 m2 k0 (by omega) ndM dj
        have a5 : (sFor (iKl (eVar 5)) (TT.gName 7) fwK) [some R.enc, some (.bl c), some (.ref 0), some (.vl (S'.map An.enc)), some (.int f), some (.ref (m.length + 1)), some (.bl false), x7, x8] m2 = .ok (.nx, [some R.enc, some (.bl c), some (.ref 0), some (.vl (S'.map An.enc)), some (.int f), some (.ref (m.length + 1)), some (.bl false), y7, x8], m2.set 0 (.kd (encK (K ++ M)))) := by
          rw [sFor_ap, ikl _ rfl, Rs.bind_ok]; exact l5
        have hb : fwB [some R.enc, some (.bl c), some (.ref 0), some (.vl (S.map An.enc)), some (.int f), x5, x6, x7, x8] m = .ok (.nx, [some R.enc, some (.bl c), some (.ref 0), some (.vl (S'.map An.enc)), some (.int (f + 1 : Nat)), some (.ref (m.length + 1)), some (.bl false), y7, x8], m2.set 0 (.kd (encK (K ++ M)))) := by
          unfold fwB
          rw [seq_nx a1, seq_nx a2, seq_nx a3, seq_nx a4, seq_nx a5]
          rfl
        rw [while_step tst (.inl hb)]
        have lv' : Lv (grP R c) (f + 1) (K ++ M) S' := lv_next lv q1 q2' rM (fun n => List.mem_append) (fun n hn => .inr fun m hm => by
          rw [hS']; exact List.mem_flatMap.mpr ⟨n, hn, hm⟩) (fun m hm => by
          rw [hS'] at hm
          obtain ⟨n, hn, hq⟩ := List.mem_flatMap.mp hm
          exact ⟨n, hn, hq⟩)
        have nd' : (K ++ M).Nodup := by
          rw [List.nodup_append]
          exact ⟨nd, ndM, fun a ha b hb z => dj b hb (by rw [← z]; exact ha)⟩
        have pK' : ∀ n ∈ K ++ M, PN R n := fun n hn => (List.mem_append.mp hn).elim (pK n) (pM n)
        have km' : (K ++ M).length ≤ 100000 := few ok nd' fun x hx => (pK' x hx).bd
        rw [List.length_append] at km'
        refine fw_loop ok k (K ++ M) S' (f + 1) _ _ _ _ _ F ?_ (by omega) lv' nd' pK' (fun n hn => ?_) ?_ (List.getElem?_set_self (by rw [hm2, List.length_set]; exact Nat.lt_of_le_of_lt (Nat.zero_le _) hblt))
        · rw [List.length_append]
          cases M with
          | nil =>
            have : S' = [] := by rw [hS']; rfl
            rw [if_pos this]; simp; omega
          | cons a M => simp only [List.length_cons] at km' ⊢; split <;> omega
        · rw [hS'] at hn
          obtain ⟨x, hx, hq⟩ := List.mem_flatMap.mp hn
          obtain ⟨e, _, rfl⟩ := List.mem_map.mp hq
          exact pn_moved ok c (pM x hx) e
        · rw [hS', List.length_flatMap]
          have : M.map (fun n => (nextF R c n).length) = M.map fun _ => 2 := List.map_congr_left fun n _ => rfl
          rw [this, List.map_const', List.sum_replicate_nat]
          omega
theorem fewest_ok (ok : R.Ok) (c : Bool) : ∃ r, Tells (grP R c) r ∧ f_fewest [R.enc, .bl c] = .ok (encF r) := by
  obtain ⟨r, s', m', h1, h2⟩ := fw_loop (c := c) ok 300000 [] [firstA R] 0 [.kd []] none none none none FUEL (by simp) (by unfold FUEL; omega) lv_start List.nodup_nil (fun n h => nomatch h) (fun n hn => by cases List.mem_singleton.mp hn; exact pn_first ok) (by simp) rfl
  refine ⟨r, h1, ?_⟩
  have a1 : (sAsg eKNew (TT.gName 2)) [some R.enc, some (.bl c), none, none, none, none, none, none, none] [] = .ok (.nx, [some R.enc, some (.bl c), some (.ref 0), none, none, none, none, none, none], [.kd []]) := rfl
  have a2 : (sPar2 3 4 (aCons (eLst (aCons (eN (cP f_first_node) (aCons (eVar 0) aNil)) aNil)) (aCons (eC (.int 0)) aNil))) [some R.enc, some (.bl c), some (.ref 0), none, none, none, none, none, none] [.kd []] = .ok (.nx, [some R.enc, some (.bl c), some (.ref 0), some (.vl ([firstA R].map An.enc)), some (.int (0 : Nat)), none, none, none, none], [.kd []]) := by
    have f1 := fun m => first_node_ok ok m
    simp [f1]
  have b : bodyI 9 2 s_fewest [R.enc, .bl c] [] = .ok (encF r, m') := by
    unfold bodyI
    rw [if_pos (show [R.enc, PV.bl c].length = 2 from rfl), fw_eq]
    have e1 : startS 9 [R.enc, PV.bl c] = [some R.enc, some (.bl c), none, none, none, none, none, none, none] := rfl
    rw [e1, seq_nx a1, seq_nx a2]
    cases r with
    | none =>
      have a3 : (sWhile fwT fwB) [some R.enc, some (.bl c), some (.ref 0), some (.vl ([firstA R].map An.enc)), some (.int (0 : Nat)), none, none, none, none] [.kd []] = .ok (.nx, s', m') := h2
      rw [seq_nx a3]; rfl
    | some f =>
      have a3 : (sWhile fwT fwB) [some R.enc, some (.bl c), some (.ref 0), some (.vl ([firstA R].map An.enc)), some (.int (0 : Nat)), none, none, none, none] [.kd []] = .ok (.rt (.int f), s', m') := h2
      rw [seq_rt a3]; rfl
  exact body_fin b (by cases r <;> rfl)
end
end TT
end

section
set_option linter.all false
set_option autoImplicit false
namespace TT
/-! ### nodes of the law: is the waiting answer's token still the one that is held -/
structure LN where
  an : An
  fl : Bool
  deriving DecidableEq
def lstep (R : Rule) (c : Bool) (b : LN) : AEv → LN
  | .ask => ⟨(aloneN R b.an .ask).2, (aloneN R b.an .ask).2.wait.isNone⟩
  | .drop => ⟨(aloneN R b.an .drop).2, b.fl⟩
  | .tick => ⟨(aloneN R b.an .tick).2, b.fl⟩
  | .late => ⟨(aloneN R b.an .late).2, true⟩
  | .got => ⟨if (c && !b.fl) = true then { b.an with wait := none } else (aloneN R b.an .got).2, true⟩
def lsafe (b : LN) : List AEv := [.ask, .tick] ++ if b.an.wait.isSome = true then [.got] else []
def grL (R : Rule) (c : Bool) : Gr LN := ⟨⟨firstA R, true⟩, fun b => (lsafe b).map (lstep R c b), fun b => faultE.map (lstep R c b), fun b => (aloneN R b.an .ask).1⟩
def phi (c : Bool) (b : LN) : An := if (c && !b.fl) = true then { b.an with wait := none } else b.an
theorem askA_bad {R : Rule} {n : An} {f g : Int → Option Int → Int × Option Int} : (askA R n f).1 = (askA R n g).1 := by
  unfold askA
  split <;> rfl
theorem ask_of {R : Rule} {n : An} (h : (aloneN R n .ask).1 = false) : ∃ S k, R.req n.stand n.old = (S, k) ∧ k ≠ .refused := by
  unfold aloneN askA at h
  generalize R.req n.stand n.old = q at h
  obtain ⟨S, k⟩ := q
  cases k with
  | refused => cases h
  | made => exact ⟨S, .made, rfl, fun z => by cases z⟩
  | newest => exact ⟨S, .newest, rfl, fun z => by cases z⟩
theorem askA_ne {R : Rule} {n : An} {S : Stand} {k : Rule.Kind} (h : R.req n.stand n.old = (S, k)) (hk : k ≠ .refused) (f : Int → Option Int → Int × Option Int) : askA R n f = (false, ⟨S, (f (oldI R n.old k) (oldO R n.wait k)).1, (f (oldI R n.old k) (oldO R n.wait k)).2⟩) := by
  unfold askA
  rw [h]
  cases k with
  | refused => exact absurd rfl hk
  | made => rfl
  | newest => rfl
theorem phi_st (c : Bool) (b : LN) : (phi c b).stand = b.an.stand ∧ (phi c b).old = b.an.old := by
  unfold phi
  split <;> exact ⟨rfl, rfl⟩
theorem over_pl (R : Rule) (c : Bool) : Over (grP R c) (grL R c) (phi c) := by
  have hb : ∀ b : LN, (aloneN R b.an .ask).1 = (aloneN R (phi c b) .ask).1 := fun b => by
    obtain ⟨h1, h2⟩ := phi_st c b
    unfold aloneN askA
    simp only [h1, h2]
    split <;> rfl
  -- each step
  have ask : ∀ b : LN, (aloneN R b.an .ask).1 = false → phi c (lstep R c b .ask) = movedA R c (phi c b) .ask := fun b h => by
    obtain ⟨S, k, hq, hk⟩ := ask_of h
    obtain ⟨h1, h2⟩ := phi_st c b
    have e1 : aloneN R b.an .ask = _ := askA_ne hq hk fun _ y => (0, y)
    have e2 : aloneN R (phi c b) .ask = _ := askA_ne (by rw [h1, h2]; exact hq) hk fun _ y => (0, y)
    cases c with
    | false => 
      have : phi false b = b.an := rfl
      rw [this]
      simp [lstep, movedA, phi]
    | true =>
      simp only [lstep, movedA, e1, e2, decide_true, Bool.and_true, if_true]
      unfold phi
      simp only
      cases hw : oldO R b.an.wait k <;> simp [hw]
  have drop : ∀ b : LN, (aloneN R b.an .ask).1 = false → phi c (lstep R c b .drop) = movedA R c (phi c b) .drop := fun b h => by
    obtain ⟨S, k, hq, hk⟩ := ask_of h
    obtain ⟨h1, h2⟩ := phi_st c b
    have e1 : aloneN R b.an .drop = _ := askA_ne hq hk fun x y => (x, y)
    have e2 : aloneN R (phi c b) .drop = _ := askA_ne (by rw [h1, h2]; exact hq) hk fun x y => (x, y)
    have hd : movedA R c (phi c b) .drop = (aloneN R (phi c b) .drop).2 := by unfold movedA; rw [if_neg (by simp)]
    rw [hd, e2, h2]
    simp only [lstep, e1]
    unfold phi
    by_cases hc : (c && !b.fl) = true
    · simp [hc, oldO]
    · simp [hc]
  have tick : ∀ b : LN, phi c (lstep R c b .tick) = movedA R c (phi c b) .tick := fun b => by
    have hd : movedA R c (phi c b) .tick = (aloneN R (phi c b) .tick).2 := by unfold movedA; rw [if_neg (by simp)]
    rw [hd]
    simp only [lstep, aloneN]
    unfold phi
    by_cases hc : (c && !b.fl) = true
    · simp [hc]
    · simp [hc]
  have late : ∀ b : LN, (aloneN R b.an .ask).1 = false → phi c (lstep R c b .late) = movedA R c (phi c b) .late := fun b h => by
    obtain ⟨S, k, hq, hk⟩ := ask_of h
    obtain ⟨h1, h2⟩ := phi_st c b
    have e1 : aloneN R b.an .late = _ := askA_ne hq hk fun x _ => (x, some 0)
    have e2 : aloneN R (phi c b) .late = _ := askA_ne (by rw [h1, h2]; exact hq) hk fun x _ => (x, some 0)
    have hd : movedA R c (phi c b) .late = (aloneN R (phi c b) .late).2 := by unfold movedA; rw [if_neg (by simp)]
    rw [hd, e2, h2]
    simp only [lstep, e1]
    unfold phi
    simp
  have hg : ∀ b : LN, movedA R c (phi c b) .got = ⟨(phi c b).stand, (phi c b).wait.getD (phi c b).old, none⟩ := fun b => by
    unfold movedA; rw [if_neg (by simp)]; rfl
  have got1 : ∀ b : LN, (c && !b.fl) = true → phi c (lstep R c b .got) = phi c b ∧ movedA R c (phi c b) .got = phi c b := fun b h => by
    have hp : phi c b = { b.an with wait := none } := by unfold phi; rw [if_pos h]
    refine ⟨?_, by rw [hg, hp]; rfl⟩
    rw [hp]
    show phi c ⟨if (c && !b.fl) = true then { b.an with wait := none } else (aloneN R b.an .got).2, true⟩ = _
    rw [if_pos h]
    unfold phi
    simp
  have got2 : ∀ b : LN, ¬ (c && !b.fl) = true → phi c (lstep R c b .got) = movedA R c (phi c b) .got := fun b h => by
    have hp : phi c b = b.an := by unfold phi; rw [if_neg h]
    rw [hg, hp]
    show phi c ⟨if (c && !b.fl) = true then { b.an with wait := none } else (aloneN R b.an .got).2, true⟩ = _
    rw [if_neg h]
    unfold phi
    simp [aloneN]
  refine ⟨?_, hb, fun b d hbad hd => ?_, fun b d hbad hd => ?_, fun b a hbad ha => ?_, fun b a hbad ha => ?_⟩
  · unfold phi; simp [grL, grP]
  · obtain ⟨e, he, rfl⟩ := List.mem_map.mp hd
    have mem : ∀ e ∈ safeE, movedA R c (phi c b) e ∈ (grP R c).safe (phi c b) := fun e h => List.mem_map.mpr ⟨e, h, rfl⟩
    rcases List.mem_append.mp he with he | he
    · simp only [List.mem_cons, List.mem_nil_iff, or_false] at he
      rcases he with rfl | rfl
      · exact .inl (by rw [ask b hbad]; exact mem _ (by decide))
      · exact .inl (by rw [tick b]; exact mem _ (by decide))
    · split at he
      · cases List.mem_singleton.mp he
        by_cases hc : (c && !b.fl) = true
        · exact .inr (got1 b hc).1
        · exact .inl (by rw [got2 b hc]; exact mem _ (by decide))
      · cases he
  · obtain ⟨e, he, rfl⟩ := List.mem_map.mp hd
    have mem : ∀ e ∈ faultE, movedA R c (phi c b) e ∈ (grP R c).fault (phi c b) := fun e h => List.mem_map.mpr ⟨e, h, rfl⟩
    simp only [faultE, List.mem_cons, List.mem_nil_iff, or_false] at he
    rcases he with rfl | rfl
    · rw [drop b hbad]; exact mem _ (by decide)
    · rw [late b hbad]; exact mem _ (by decide)
  · obtain ⟨e, he, rfl⟩ := List.mem_map.mp ha
    have mem : ∀ e ∈ lsafe b, lstep R c b e ∈ (grL R c).safe b := fun e h => List.mem_map.mpr ⟨e, h, rfl⟩
    simp only [safeE, List.mem_cons, List.mem_nil_iff, or_false] at he
    rcases he with rfl | rfl | rfl
    · exact .inr ⟨_, mem .ask (by simp [lsafe]), ask b hbad⟩
    · by_cases hc : (c && !b.fl) = true
      · exact .inl (got1 b hc).2
      · by_cases hw : b.an.wait.isSome = true
        · exact .inr ⟨_, mem .got (by simp [lsafe, hw]), got2 b hc⟩
        · refine .inl ?_
          have hp : phi c b = b.an := by unfold phi; rw [if_neg hc]
          have hn : b.an.wait = none := by simpa using hw
          rw [hg, hp, hn]
          obtain ⟨⟨st, o, w⟩, fl⟩ := b
          simp only at hn
          subst hn
          rfl
    · exact .inr ⟨_, mem .tick (by simp [lsafe]), tick b⟩
  · obtain ⟨e, he, rfl⟩ := List.mem_map.mp ha
    have mem : ∀ e ∈ faultE, lstep R c b e ∈ (grL R c).fault b := fun e h => List.mem_map.mpr ⟨e, h, rfl⟩
    simp only [faultE, List.mem_cons, List.mem_nil_iff, or_false] at he
    rcases he with rfl | rfl
    · exact ⟨_, mem .drop (by decide), drop b hbad⟩
    · exact ⟨_, mem .late (by decide), late b hbad⟩
/-! ### worlds -/
structure Lw (R : Rule) (b : LN) (x : Wd) : Prop where
  sim : Sim R b.an.stand x.srv
  old : b.an.old = cutD R (x.srv.newest - x.tok)
  t0 : 0 ≤ x.tok
  t1 : x.tok ≤ x.srv.newest
  w : (b.an.wait = none ∧ x.wait = none ∧ b.fl = true) ∨ ∃ sh a, x.wait = some (sh, some a) ∧ b.an.wait = some (cutD R (x.srv.newest - a)) ∧ 0 ≤ a ∧ a ≤ x.srv.newest ∧ sh < x.srv.newest ∧ b.fl = (sh == x.tok)
  tidy : Tidy R b.an.stand
  live : x.srv.over = false
theorem lw_first {R : Rule} (ok : R.Ok) : Lw R ⟨firstA R, true⟩ ⟨R.server, 0, none⟩ := by
  have h := lk_first ok
  exact ⟨h.sim, h.old, h.t0, h.t1, .inl ⟨rfl, rfl, rfl⟩, h.tidy, h.live⟩
theorem lw_wok {R : Rule} {b : LN} {x : Wd} (h : Lw R b x) (hn : x.srv.newest ≤ 14000000) : WOk R x :=
  ⟨h.sim.cred, by have := h.sim.tl; omega, (sim_ages h.sim h.t0 h.t1).2⟩
theorem ask_core {R : Rule} (ok : R.Ok) {b : LN} {x : Wd} (h : Lw R b x) :
    ((aloneN R b.an .ask).1 = true ∧ (R.askL x.srv x.tok).1 = none) ∨
    ∃ S k y, R.req b.an.stand b.an.old = (S, k) ∧ k ≠ .refused ∧ R.askL x.srv x.tok = (some y.newest, y) ∧ Sim R S y ∧ Tidy R S ∧ y.over = false ∧ ((k = .made ∧ y.newest = x.srv.newest + 1) ∨ (k = .newest ∧ y.newest = x.srv.newest ∧ x.tok < x.srv.newest)) := by
  obtain ⟨a1, a2, a3, a4, a5, a6⟩ := sim_ask ok h.sim h.t0 h.t1
  have hoo : b.an.old = if R.keep + 1 < x.srv.newest - x.tok then R.keep + 1 else x.srv.newest - x.tok := h.old
  have k0 := ok.keep.1
  have t1 := h.t1
  have o0 : 0 ≤ b.an.old := by rw [hoo]; split <;> omega
  have hso : b.an.stand.over = false := h.sim.over.trans h.live
  have td := tidy_req ok h.tidy o0
  have ro := req_over (R := R) (o := b.an.old) hso
  unfold Rule.answer at a1 a2 a3
  simp only [← hoo] at a1 a2 a3
  have nk : (R.req b.an.stand b.an.old).2 = .newest → b.an.old ≠ 0 := fun z z0 => by
    unfold Rule.req at z
    rw [z0] at z
    simp only [if_true] at z
    split at z
    · split at z <;> cases z
    · cases z
  generalize hq : R.req b.an.stand b.an.old = q at a1 a2 a3 td ro nk
  obtain ⟨S, k⟩ := q
  generalize hz : R.askL x.srv x.tok = z at a1 a2 a3 a6
  obtain ⟨an, y⟩ := z
  simp only at a1 a2 a3 a6
  cases k with
  | refused =>
    left
    refine ⟨?_, a2.symm⟩
    unfold aloneN askA
    rw [hq]
  | made =>
    right
    simp only at a1 a2 a3 td ro
    rcases ro with ⟨S', z⟩ | ro
    · cases z
    exact ⟨S, .made, y, rfl, fun z => (nomatch z), by rw [← a2, a1], a3, td, a3.over.symm.trans ro, .inl ⟨rfl, a1.symm⟩⟩
  | newest =>
    right
    simp only at a1 a2 a3 td ro
    rcases ro with ⟨S', z⟩ | ro
    · cases z
    have := nk rfl
    refine ⟨S, .newest, y, rfl, fun z => (nomatch z), by rw [← a2, a1], a3, td, a3.over.symm.trans ro, .inr ⟨rfl, a1.symm, ?_⟩⟩
    rw [hoo] at this
    by_cases hh : x.tok < x.srv.newest
    · exact hh
    · exfalso; apply this
      rw [if_neg (by omega)]; omega
theorem lw_bad {R : Rule} (ok : R.Ok) {b : LN} {x : Wd} (c : Bool) (h : Lw R b x) : refusedL (tryL R c x .ask).1 = (grL R c).bad b := by
  show refusedL (some (x.tok, (R.askL x.srv x.tok).1)) = (aloneN R b.an .ask).1
  rcases ask_core ok h with ⟨h1, h2⟩ | ⟨S, k, y, h1, h2, h3, _⟩
  · rw [h1, h2]; rfl
  · have e1 : aloneN R b.an .ask = _ := askA_ne h1 h2 fun _ y => (0, y)
    rw [e1, h3]; rfl
theorem cutD_0 {R : Rule} (ok : R.Ok) {d : Int} (h : d = 0) : cutD R d = 0 := by
  have := ok.keep.1
  unfold cutD; rw [if_neg (by omega)]; exact h
theorem lw_step {R : Rule} (ok : R.Ok) {b : LN} {x : Wd} (c : Bool) (h : Lw R b x) (hb : (grL R c).bad b = false) (e : AEv) (he : e = .got → b.an.wait.isSome = true) :
    Lw R (lstep R c b e) (tryL R c x e).2 ∧ (tryL R c x e).2.srv.newest ≤ x.srv.newest + 1 := by
  have hb : (aloneN R b.an .ask).1 = false := hb
  have n0 := h.sim.n0
  have k0 := ok.keep.1
  have t0 := h.t0
  have t1 := h.t1
  rcases ask_core ok h with ⟨h1, _⟩ | ⟨S, k, y, h1, h2, h3, h4, h5, h6, h7⟩
  · rw [h1] at hb; cases hb
  have up : y.newest ≤ x.srv.newest + 1 ∧ x.srv.newest ≤ y.newest := by rcases h7 with ⟨_, z⟩ | ⟨_, z, _⟩ <;> omega
  have adv : ∀ t : Int, t ≤ x.srv.newest → oldI R (cutD R (x.srv.newest - t)) k = cutD R (y.newest - t) := fun t ht => by
    rcases h7 with ⟨rfl, z⟩ | ⟨rfl, z, _⟩
    · show cutO R (cutD R (x.srv.newest - t)) = _
      rw [cutD_up ok (by omega), z]; congr 1; omega
    · rw [z]; rfl
  -- what waits, moved on
  have wt : ∀ tok' : Int, ∀ fl' : Bool, (∀ sh a, x.wait = some (sh, some a) → sh < x.srv.newest → b.fl = (sh == x.tok) → fl' = (sh == tok')) → (x.wait = none → fl' = true) →
      (oldO R b.an.wait k = none ∧ x.wait = none ∧ fl' = true) ∨ ∃ sh a, x.wait = some (sh, some a) ∧ oldO R b.an.wait k = some (cutD R (y.newest - a)) ∧ 0 ≤ a ∧ a ≤ y.newest ∧ sh < y.newest ∧ fl' = (sh == tok') := fun tok' fl' hf hn => by
    rcases h.w with ⟨w1, w2, w3⟩ | ⟨sh, a, w1, w2, w3, w4, w5, w6⟩
    · exact .inl ⟨by rw [w1]; rfl, w2, hn w2⟩
    · refine .inr ⟨sh, a, w1, ?_, w3, by omega, by omega, hf sh a w1 w5 w6⟩
      rw [w2]
      show some (oldI R (cutD R (x.srv.newest - a)) k) = _
      rw [adv a w4]
  cases e with
  | ask =>
    have e1 : aloneN R b.an .ask = _ := askA_ne h1 h2 fun _ y => (0, y)
    simp only [lstep, tryL, e1, h3, Option.getD_some]
    refine ⟨⟨h4, ?_, by show 0 ≤ y.newest; omega, Int.le_refl _, ?_, h5, h6⟩, up.1⟩
    · exact (cutD_0 ok (by show y.newest - y.newest = 0; omega)).symm
    · have := wt y.newest (oldO R b.an.wait k).isNone (fun sh a q1 q2 q3 => ?_) (fun q => ?_)
      · exact this
      · rcases h.w with ⟨w1, w2, w3⟩ | ⟨sh', a', w1, w2, _⟩
        · rw [w2] at q1; cases q1
        · rw [w2]
          show false = _
          exact (beq_eq_false_iff_ne.mpr (by omega)).symm
      · rcases h.w with ⟨w1, w2, w3⟩ | ⟨sh', a', w1, w2, _⟩
        · rw [w1]; rfl
        · rw [q] at w1; cases w1
  | drop =>
    have e1 : aloneN R b.an .drop = _ := askA_ne h1 h2 fun x y => (x, y)
    simp only [lstep, tryL, e1, h3]
    refine ⟨⟨h4, ?_, t0, by show x.tok ≤ y.newest; omega, ?_, h5, h6⟩, up.1⟩
    · show oldI R b.an.old k = _
      rw [h.old]; exact adv x.tok t1
    · refine wt x.tok b.fl (fun sh a q1 q2 q3 => q3) fun q => ?_
      rcases h.w with ⟨w1, w2, w3⟩ | ⟨sh', a', w1, w2, _⟩
      · exact w3
      · rw [q] at w1; cases w1
  | late =>
    have e1 : aloneN R b.an .late = _ := askA_ne h1 h2 fun x _ => (x, some 0)
    simp only [lstep, tryL, e1, h3]
    refine ⟨⟨h4, ?_, t0, by show x.tok ≤ y.newest; omega, ?_, h5, h6⟩, up.1⟩
    · show oldI R b.an.old k = _
      rw [h.old]; exact adv x.tok t1
    · refine .inr ⟨x.tok, y.newest, rfl, ?_, by omega, Int.le_refl _, ?_, ?_⟩
      · show some (0 : Int) = some (cutD R (y.newest - y.newest))
        rw [cutD_0 ok (by omega)]
      · show x.tok < y.newest
        rcases h7 with ⟨_, z⟩ | ⟨_, z, z2⟩ <;> omega
      · show true = (x.tok == x.tok)
        simp
  | tick =>
    refine ⟨⟨sim_tick h.sim, h.old, h.t0, h.t1, h.w, tidy_tick h.tidy, h.live⟩, by show x.srv.newest ≤ _; omega⟩
  | got =>
    rcases h.w with ⟨w1, w2, w3⟩ | ⟨sh, a, w1, w2, w3, w4, w5, w6⟩
    · have := he rfl
      rw [w1] at this; cases this
    · have e2 : (tryL R c x .got).2 = ⟨x.srv, if (!c || sh == x.tok) = true then a else x.tok, none⟩ := by
        unfold tryL; simp only [w1]
      rw [e2]
      refine ⟨?_, by show x.srv.newest ≤ _; omega⟩
      by_cases hc : (c && !b.fl) = true
      · have hn : (!c || sh == x.tok) = false := by
          rw [← w6]
          cases c <;> cases hf : b.fl <;> rw [hf] at hc <;> first | rfl | cases hc
        have e3 : lstep R c b .got = ⟨{ b.an with wait := none }, true⟩ := by unfold lstep; simp only [if_pos hc]
        rw [e3, hn]
        exact ⟨h.sim, h.old, h.t0, h.t1, .inl ⟨rfl, rfl, rfl⟩, h.tidy, h.live⟩
      · have hn : (!c || sh == x.tok) = true := by
          rw [← w6]
          cases c <;> cases hf : b.fl <;> rw [hf] at hc <;> first | rfl | exact absurd rfl hc
        have e3 : lstep R c b .got = ⟨⟨b.an.stand, b.an.wait.getD b.an.old, none⟩, true⟩ := by unfold lstep; simp only [if_neg hc]; rfl
        rw [e3, hn]
        refine ⟨h.sim, ?_, w3, w4, .inl ⟨rfl, rfl, rfl⟩, h.tidy, h.live⟩
        show b.an.wait.getD b.an.old = cutD R (x.srv.newest - a)
        rw [w2]; rfl
end TT
end

section
set_option linter.all false
set_option autoImplicit false
namespace TT
/-! ### what the law tells of a world -/
def waitV (b : LN) : PV := match b.an.wait with | none => .non | some a => .tup [.int a, .bl b.fl]
def lnV (R : Rule) (b : LN) : PV := .tup [keyV R b.an.stand, .int b.an.old, waitV b, .non, .non]
theorem waitV_pu (b : LN) : (waitV b).pu = true := by unfold waitV; cases b.an.wait <;> rfl
theorem lnV_pu (R : Rule) (b : LN) : (lnV R b).pu = true := by simp [lnV, keyV_pu, waitV_pu]
theorem lnV_tup (R : Rule) (b : LN) : isTup (lnV R b) = true := rfl
theorem waitV_ky (b : LN) (k : Nat) : (waitV b).ky (k + 1) = true := by
  unfold waitV
  cases b.an.wait with
  | none => rfl
  | some a => cases k <;> rfl
theorem lnV_ky (R : Rule) (b : LN) : (lnV R b).ky 8 = true := by
  have h := waitV_ky b 6
  simp only [Nat.reduceAdd] at h
  simp [lnV, keyV, PV.ky, ints_ky, encO_ky, h]
structure PL (R : Rule) (b : LN) : Prop where
  tidy : Tidy R b.an.stand
  live : b.an.stand.over = false
  fl : b.an.wait = none → b.fl = true
  bd : ABd R b.an
  nl : R.leeway = none → b.an.stand.ages = []
theorem lw_pl {R : Rule} {b : LN} {x : Wd} (h : Lw R b x) (hb : ABd R b.an) : PL R b := by
  refine ⟨h.tidy, h.sim.over.trans h.live, fun z => ?_, hb, (h.sim.live h.live).none⟩
  rcases h.w with ⟨_, _, w3⟩ | ⟨_, _, _, w2, _⟩
  · exact w3
  · rw [z] at w2; cases w2
theorem abd_step {R : Rule} (ok : R.Ok) (c : Bool) {b : LN} (h : ABd R b.an) (e : AEv) : ABd R (lstep R c b e).an := by
  cases e with
  | ask => exact h.next ok .ask
  | drop => exact h.next ok .drop
  | late => exact h.next ok .late
  | tick => exact h.next ok .tick
  | got =>
    show ABd R (if (c && !b.fl) = true then { b.an with wait := none } else (aloneN R b.an .got).2)
    split
    · exact ⟨h.st, h.o, fun x z => nomatch z⟩
    · exact h.next ok .got
theorem eqv_ln {R : Rule} {a b : LN} (ha : PL R a) (hb : PL R b) : PV.eqv (lnV R a) (lnV R b) = decide (a = b) := by
  obtain ⟨⟨⟨a1, a2, a3, a4, a5⟩, a6, a7⟩, af⟩ := a
  obtain ⟨⟨⟨b1, b2, b3, b4, b5⟩, b6, b7⟩, bf⟩ := b
  obtain ⟨ta, oa, fa, _, _⟩ := ha
  obtain ⟨tb, ob, fb, _, _⟩ := hb
  simp only at oa ob fa fb ta tb
  subst oa ob
  have hw : PV.eqv (waitV ⟨⟨⟨false, a2, a3, a4, a5⟩, a6, a7⟩, af⟩) (waitV ⟨⟨⟨false, b2, b3, b4, b5⟩, b6, b7⟩, bf⟩) = (decide (a7 = b7) && decide (af = bf)) := by
    cases a7 with
    | none =>
      have := fa rfl
      subst this
      cases b7 with
      | none =>
        have := fb rfl
        subst this
        rfl
      | some y => rfl
    | some x =>
      cases b7 with
      | none => rfl
      | some y =>
        simp only [waitV, PV.eqv, PV.eqvs]
        rw [Bool.eq_iff_iff]
        simp
  simp only [lnV, keyV, PV.eqv, PV.eqvs, eqv_ints, eqv_encO, credO, LN.mk.injEq, An.mk.injEq, Stand.mk.injEq, hw]
  rw [Bool.eq_iff_iff]
  cases hs : R.spare with
  | none =>
    obtain ⟨p1, p2⟩ := ta.spare hs
    obtain ⟨q1, q2⟩ := tb.spare hs
    simp only at p1 p2 q1 q2
    subst p1 p2 q1 q2
    simp [and_assoc]
  | some p => simp [and_assoc]
set_option maxHeartbeats 4000000 in
theorem ln_ok {R : Rule} (ok : R.Ok) {b : LN} {x : Wd} (h : Lw R b x) (m : Mm) : cP f_law_node [R.enc, x.V] m = .ok (lnV R b, m) := by
  have hk := fun m => key_ok ok h.sim h.tidy h.live m
  have o1 := fun m => old_ok R x.srv (some x.tok) m
  have o2 := fun m => old_ok R x.srv none m
  simp only [encO, Option.map_some, Option.map_none, ← h.old] at o1 o2
  have gu : ∀ sl m, gUnp [2, 3, 4] x.V sl m = .ok (((sl.set 2 (some (.vl x.srv.items))).set 3 (some (.vl [.int x.tok, .non]))).set 4 (some (.vl [encW x.wait, .non])), m) := fun sl m => rfl
  have t0 : ∀ m, oIx (.vl [.int x.tok, .non]) (.int 0) m = .ok (.int x.tok, m) := fun m => rfl
  have t1 : ∀ m, oIx (.vl [.int x.tok, .non]) (.int 1) m = .ok (.non, m) := fun m => rfl
  have w0 : ∀ v m, oIx (.vl [v, .non]) (.int 0) m = .ok (v, m) := fun v m => rfl
  have w1 : ∀ v m, oIx (.vl [v, .non]) (.int 1) m = .ok (.non, m) := fun v m => rfl
  have ty : ∀ xs, tyOk [.lst xs] .list (.ref 0) = true := fun xs => rfl
  have ap : ∀ (x : PV) xs, xs.length < 10 → mAppend (.ref 0) [x] [.lst xs] = .ok (.non, [.lst (xs ++ [x])]) := fun x xs hx => by
    have : ([Ob.lst xs] : Mm)[0]? = some (.lst xs) := rfl
    rw [mAppend_ref this (Nat.lt_trans hx (by decide))]; rfl
  have ft : ∀ xs, fTuple [.ref 0] [.lst xs] = .ok (.tup xs, [.lst xs]) := fun xs => rfl
  have this : f_law_node [R.enc, x.V] = .ok (lnV R b) := by
    rcases h.w with ⟨a1, a2, a3⟩ | ⟨sh, a, a1, a2, a3, a4, a5, a6⟩
    · have fz : ∀ m, frz 4 m (.tup [keyV R b.an.stand, .int b.an.old, .non, .non, .non]) = some (lnV R b) := fun m => by
        have e : lnV R b = .tup [keyV R b.an.stand, .int b.an.old, .non, .non, .non] := by simp [lnV, waitV, a1]
        rw [← e]; exact frz_pu (lnV_pu R b)
      rw [a2] at gu
      simp only [encW] at gu
      simp [f_law_node, bodyP, bodyI, s_law_node, startS, gu, hk, sFor_ap, forL_cons, rngL, P62, ty, ap, t0, t1, w0, w1, o1, o2, ft, endF, fz]
    · have fz : ∀ m, frz 4 m (.tup [keyV R b.an.stand, .int b.an.old, .tup [.int (cutD R (x.srv.newest - a)), .bl (sh == x.tok)], .non, .non]) = some (lnV R b) := fun m => by
        have e : lnV R b = .tup [keyV R b.an.stand, .int b.an.old, .tup [.int (cutD R (x.srv.newest - a)), .bl (sh == x.tok)], .non, .non] := by simp [lnV, waitV, a2, a6]
        rw [← e]; exact frz_pu (lnV_pu R b)
      have o3 := fun m => old_ok R x.srv (some a) m
      simp only [encO, Option.map_some] at o3
      have e0 : ∀ m, oIx (.tup [.int sh, .int a]) (.int 0) m = .ok (.int sh, m) := fun m => rfl
      have e1 : ∀ m, oIx (.tup [.int sh, .int a]) (.int 1) m = .ok (.int a, m) := fun m => rfl
      rw [a1] at gu
      simp only [encW, encO] at gu
      simp [f_law_node, bodyP, bodyI, s_law_node, startS, gu, hk, sFor_ap, forL_cons, rngL, P62, ty, ap, t0, t1, w0, w1, o1, o2, o3, e0, e1, ft, endF, fz]
  unfold cP
  rw [if_pos (by simp [enc_pu, wd_pu]), this]
/-! ### they are few, where the rule is easy -/
def wfU : List (Option Int × Bool) := (none, true) :: (i4.flatMap fun a => [(some a, false), (some a, true)])
def lnU1 : List LN := i4.flatMap fun la => i3.flatMap fun sp => i3.flatMap fun co => i4.flatMap fun o => wfU.map fun w => ⟨⟨⟨false, la, [], sp, co⟩, o, w.1⟩, w.2⟩
def lnU2 : List LN := i4.flatMap fun la => agU.flatMap fun ag => i4.flatMap fun o => wfU.map fun w => ⟨⟨⟨false, la, ag, 0, 0⟩, o, w.1⟩, w.2⟩
def lnU (R : Rule) : List LN := if R.leeway.isNone = true then lnU1 else lnU2
theorem lnU_le (R : Rule) : (lnU R).length ≤ 3024 := by
  have w9 : wfU.length = 9 := rfl
  unfold lnU
  split
  · have h1 : ∀ la sp co o, (wfU.map fun w => (⟨⟨⟨false, la, [], sp, co⟩, o, w.1⟩, w.2⟩ : LN)).length ≤ 9 := fun la sp co o => by rw [List.length_map, w9]; exact Nat.le_refl _
    have h2 : ∀ la sp co, (i4.flatMap fun o => wfU.map fun w => (⟨⟨⟨false, la, [], sp, co⟩, o, w.1⟩, w.2⟩ : LN)).length ≤ 36 := fun la sp co => flat_le _ 9 i4 fun o => h1 la sp co o
    have h3 : ∀ la sp, (i3.flatMap fun co => i4.flatMap fun o => wfU.map fun w => (⟨⟨⟨false, la, [], sp, co⟩, o, w.1⟩, w.2⟩ : LN)).length ≤ 108 := fun la sp => flat_le _ 36 i3 fun co => h2 la sp co
    have h4 : ∀ la, (i3.flatMap fun sp => i3.flatMap fun co => i4.flatMap fun o => wfU.map fun w => (⟨⟨⟨false, la, [], sp, co⟩, o, w.1⟩, w.2⟩ : LN)).length ≤ 324 := fun la => flat_le _ 108 i3 fun sp => h3 la sp
    have h5 : lnU1.length ≤ 1296 := flat_le _ 324 i4 fun la => h4 la
    omega
  · have h1 : ∀ la ag o, (wfU.map fun w => (⟨⟨⟨false, la, ag, 0, 0⟩, o, w.1⟩, w.2⟩ : LN)).length ≤ 9 := fun la ag o => by rw [List.length_map, w9]; exact Nat.le_refl _
    have h2 : ∀ la ag, (i4.flatMap fun o => wfU.map fun w => (⟨⟨⟨false, la, ag, 0, 0⟩, o, w.1⟩, w.2⟩ : LN)).length ≤ 36 := fun la ag => flat_le _ 9 i4 fun o => h1 la ag o
    have h3 : ∀ la, (agU.flatMap fun ag => i4.flatMap fun o => wfU.map fun w => (⟨⟨⟨false, la, ag, 0, 0⟩, o, w.1⟩, w.2⟩ : LN)).length ≤ 756 := fun la => flat_le _ 36 agU fun ag => h2 la ag
    exact flat_le _ 756 i4 fun la => h3 la
theorem mem_lnU {R : Rule} (ok : R.Ok) (ez : R.leeway = none ∨ R.spare = none) {b : LN} (h : PL R b) : b ∈ lnU R := by
  obtain ⟨⟨⟨ov, la, ag, sp, co⟩, o, w⟩, fl⟩ := b
  obtain ⟨td, lv, hf, ⟨⟨s1, s2, s3, s4, s5, s6⟩, h2, h3⟩, nl⟩ := h
  simp only at td lv hf s1 s2 s3 s4 s5 s6 h2 h3 nl
  subst lv
  have := ok.keep
  have hl : la ∈ i4 := mem_i4 ⟨s1, by omega⟩
  have hw : (w, fl) ∈ wfU := by
    cases w with
    | none => rw [hf rfl]; exact List.mem_cons_self
    | some x =>
      refine List.mem_cons_of_mem _ (List.mem_flatMap.mpr ⟨x, mem_i4 (h3 x rfl), ?_⟩)
      cases fl <;> simp
  unfold lnU
  by_cases hn : R.leeway.isNone = true
  · rw [if_pos hn]
    have hn : R.leeway = none := by simpa using hn
    have := nl hn
    subst this
    exact List.mem_flatMap.mpr ⟨la, hl, List.mem_flatMap.mpr ⟨sp, mem_i3 s5, List.mem_flatMap.mpr ⟨co, mem_i3 s6, List.mem_flatMap.mpr ⟨o, mem_i4 h2, List.mem_map.mpr ⟨(w, fl), hw, rfl⟩⟩⟩⟩⟩
  · rw [if_neg hn]
    have hs : R.spare = none := ez.elim (fun z => absurd (by rw [z]; rfl) hn) id
    obtain ⟨z1, z2⟩ := td.spare hs
    simp only at z1 z2
    subst z1 z2
    refine List.mem_flatMap.mpr ⟨la, hl, List.mem_flatMap.mpr ⟨ag, ?_, List.mem_flatMap.mpr ⟨o, mem_i4 h2, List.mem_map.mpr ⟨(w, fl), hw, rfl⟩⟩⟩⟩
    match ag, s3, s4 with
    | [], _, _ => exact List.mem_cons_self
    | [a], _, s4 => exact List.mem_cons_of_mem _ (List.mem_append_left _ (List.mem_map.mpr ⟨a, mem_i4 (s4 a (by simp)), rfl⟩))
    | [a, b], _, s4 => exact List.mem_cons_of_mem _ (List.mem_append_right _ (List.mem_flatMap.mpr ⟨a, mem_i4 (s4 a (by simp)), List.mem_map.mpr ⟨b, mem_i4 (s4 b (by simp)), rfl⟩⟩))
    | a :: b :: c :: r, s3, _ => simp at s3
theorem nodup_le {α : Type} [DecidableEq α] : ∀ {L U : List α}, L.Nodup → (∀ x ∈ L, x ∈ U) → L.length ≤ U.length
  | [], _, _, _ => Nat.zero_le _
  | a :: L, U, nd, h => by
    have ha := h a List.mem_cons_self
    obtain ⟨n1, n2⟩ := List.nodup_cons.mp nd
    have := nodup_le (L := L) (U := U.erase a) n2 (fun x hx => (List.mem_erase_of_ne (fun z => n1 (by rw [← z]; exact hx))).mpr (h x (List.mem_cons_of_mem _ hx)))
    rw [List.length_erase_of_mem ha] at this
    have hp : 0 < U.length := List.length_pos_of_mem ha
    simp only [List.length_cons]
    omega
theorem fewL {R : Rule} (ok : R.Ok) (ez : R.leeway = none ∨ R.spare = none) {L : List LN} (nd : L.Nodup) (h : ∀ x ∈ L, PL R x) : L.length ≤ 3024 := Nat.le_trans (nodup_le nd fun x hx => mem_lnU ok ez (h x hx)) (lnU_le R)
end TT
end

section
set_option linter.all false
set_option autoImplicit false
namespace TT
/-! ### shortest walks by a line and a dict of costs -/
structure Bg (α ε : Type) where
  start : α
  mv : α → List (ε × α × Nat)
  bad : α → Bool
inductive Wlk {α ε : Type} (G : Bg α ε) : α → Nat → List ε → Prop
  | nil : Wlk G G.start 0 []
  | step {n m : α} {f w : Nat} {p : List ε} {e : ε} : Wlk G n f p → G.bad n = false → (e, m, w) ∈ G.mv n → Wlk G m (f + w) (p ++ [e])
section
variable {α ε : Type} [DecidableEq α]
def dget (K : List (α × Nat)) (n : α) : Option Nat := (K.find? fun q => decide (q.1 = n)).map (·.2)
def dput (K : List (α × Nat)) (n : α) (v : Nat) : List (α × Nat) := if n ∈ K.map (·.1) then K.map (fun q => if q.1 = n then (q.1, v) else q) else K ++ [(n, v)]
theorem dget_none {K : List (α × Nat)} {n : α} (h : ¬ n ∈ K.map (·.1)) : dget K n = none := by
  unfold dget
  rw [List.find?_eq_none.mpr fun q hq => by
    simp only [decide_eq_true_eq]
    exact fun z => h (List.mem_map.mpr ⟨q, hq, z⟩)]
  rfl
theorem dget_cons {q : α × Nat} {K : List (α × Nat)} {m : α} : dget (q :: K) m = if q.1 = m then some q.2 else dget K m := by
  unfold dget
  rw [List.find?_cons]
  by_cases h : q.1 = m <;> simp [h]
theorem dget_map {n : α} {v : Nat} : ∀ {K : List (α × Nat)} {m : α}, dget (K.map (fun q => if q.1 = n then (q.1, v) else q)) m = if m = n ∧ n ∈ K.map (·.1) then some v else dget K m
  | [], m => by simp [dget]
  | q :: K, m => by
    have ih := dget_map (n := n) (v := v) (K := K) (m := m)
    rw [List.map_cons, dget_cons, dget_cons, ih]
    by_cases h1 : q.1 = n
    · subst h1
      by_cases h2 : q.1 = m
      · subst h2; simp
      · have h3 : ¬ m = q.1 := fun z => h2 z.symm
        simp [h2, h3]
    · by_cases h2 : q.1 = m
      · subst h2
        rw [if_neg h1, if_pos rfl, if_neg (fun z => h1 z.1)]; simp [h1]
      · have e : (n = q.1 ∨ n ∈ K.map (·.1)) ↔ n ∈ K.map (·.1) := ⟨fun z => z.elim (fun z => absurd z.symm h1) id, .inr⟩
        simp only [if_neg h1, if_neg h2, List.map_cons, List.mem_cons, e]
theorem dget_app {K : List (α × Nat)} {n m : α} {v : Nat} (h : ¬ n ∈ K.map (·.1)) : dget (K ++ [(n, v)]) m = if m = n then some v else dget K m := by
  induction K with
  | nil =>
    rw [List.nil_append, dget_cons]
    by_cases h2 : m = n
    · subst h2; simp
    · have : ¬ n = m := fun z => h2 z.symm
      simp [h2, this]
  | cons q K ih =>
    rw [List.map_cons, List.mem_cons] at h
    have h1 : ¬ n = q.1 := fun z => h (.inl z)
    rw [List.cons_append, dget_cons, dget_cons, ih fun z => h (.inr z)]
    by_cases h2 : m = n
    · subst h2
      have : ¬ q.1 = m := fun z => h1 z.symm
      simp [this]
    · simp [h2]
theorem dget_put {K : List (α × Nat)} {n m : α} {v : Nat} : dget (dput K n v) m = if m = n then some v else dget K m := by
  unfold dput
  by_cases h : n ∈ K.map (·.1)
  · rw [if_pos h, dget_map]
    by_cases h2 : m = n
    · rw [if_pos ⟨h2, h⟩, if_pos h2]
    · rw [if_neg (fun z => h2 z.1), if_neg h2]
  · rw [if_neg h, dget_app h]
abbrev En (α ε : Type) := α × Nat × List ε
structure Bs (α ε : Type) where
  L : List (En α ε)
  K : List (α × Nat)
def push (most : Nat) (x : En α ε) (s : Bs α ε) (v : ε × α × Nat) : Bs α ε :=
  if x.2.1 + v.2.2 ≤ most ∧ x.2.1 + v.2.2 < (dget s.K v.2.1).getD (most + 1) then ⟨s.L ++ [(v.2.1, x.2.1 + v.2.2, x.2.2 ++ [v.1])], dput s.K v.2.1 (x.2.1 + v.2.2)⟩ else s
variable (G : Bg α ε) (most : Nat)
def Cov (s : Bs α ε) (x : En α ε) (v : ε × α × Nat) : Prop := x.2.1 + v.2.2 ≤ most → ∃ y ∈ s.L, y.1 = v.2.1 ∧ y.2.1 ≤ x.2.1 + v.2.2 ∧ y.2.2.length ≤ x.2.2.length + 1
structure Bi (s : Bs α ε) (at_ : Nat) : Prop where
  hd : s.L[0]? = some (G.start, 0, [])
  wk : ∀ x ∈ s.L, Wlk G x.1 x.2.1 x.2.2 ∧ x.2.1 ≤ most
  mono : ∀ (i j : Nat) (x y : En α ε), i ≤ j → s.L[i]? = some x → s.L[j]? = some y → x.2.2.length ≤ y.2.2.length
  kn : ∀ n v, dget s.K n = some v → ∃ p, (n, v, p) ∈ s.L.tail
  lo : ∀ x ∈ s.L.tail, ∃ v, dget s.K x.1 = some v ∧ v ≤ x.2.1
  nd : (s.L.tail.map fun x => (x.1, x.2.1)).Nodup
  cl : ∀ (i : Nat) (x : En α ε), i < at_ → s.L[i]? = some x → G.bad x.1 = false ∧ ∀ v ∈ G.mv x.1, Cov most s x v
  near : ∀ x y : En α ε, s.L[at_]? = some x → y ∈ s.L → y.2.2.length ≤ x.2.2.length + 1
variable {G most}
theorem bi_start : Bi G most ⟨[(G.start, 0, [])], []⟩ 0 where
  hd := rfl
  wk := fun x hx => by cases List.mem_singleton.mp hx; exact ⟨.nil, Nat.zero_le _⟩
  mono := fun i j x y _ h1 h2 => by
    have := List.mem_singleton.mp (List.mem_of_getElem? h1)
    have q := List.mem_singleton.mp (List.mem_of_getElem? h2)
    rw [this, q]; exact Nat.le_refl _
  kn := fun n v h => by cases h
  lo := fun x hx => nomatch hx
  nd := List.nodup_nil
  cl := fun i x h => absurd h (Nat.not_lt_zero i)
  near := fun x y _ hy => by cases List.mem_singleton.mp hy; exact Nat.zero_le _
/-- one move -/
theorem push_ok {s : Bs α ε} {at_ : Nat} (h : Bi G most s at_) {x : En α ε} (hx : s.L[at_]? = some x) (hb : G.bad x.1 = false) {v : ε × α × Nat} (hv : v ∈ G.mv x.1) :
    Bi G most (push most x s v) at_ ∧ (push most x s v).L[at_]? = some x ∧ Cov most (push most x s v) x v ∧ ∀ y ∈ s.L, y ∈ (push most x s v).L := by
  have hat : at_ < s.L.length := (List.getElem?_eq_some_iff.mp hx).1
  obtain ⟨wx, mx⟩ := h.wk x (List.mem_of_getElem? hx)
  unfold push
  by_cases hc : x.2.1 + v.2.2 ≤ most ∧ x.2.1 + v.2.2 < (dget s.K v.2.1).getD (most + 1)
  · rw [if_pos hc]
    obtain ⟨c1, c2⟩ := hc
    obtain ⟨y, hy⟩ : ∃ y : En α ε, y = (v.2.1, x.2.1 + v.2.2, x.2.2 ++ [v.1]) := ⟨_, rfl⟩
    rw [← hy]
    have tl : (s.L ++ [y]).tail = s.L.tail ++ [y] := List.tail_append_of_ne_nil fun z => by rw [z] at hat; exact absurd hat (Nat.not_lt_zero _)
    have up : ∀ i z, s.L[i]? = some z → (s.L ++ [y])[i]? = some z := fun i z e => by
      rw [List.getElem?_append_left (List.getElem?_eq_some_iff.mp e).1]; exact e
    have dn : ∀ i z, (s.L ++ [y])[i]? = some z → s.L[i]? = some z ∨ (i = s.L.length ∧ z = y) := fun i z e => by
      by_cases hi : i < s.L.length
      · rw [List.getElem?_append_left hi] at e; exact .inl e
      · rw [List.getElem?_append_right (by omega)] at e
        have := (List.getElem?_eq_some_iff.mp e).1
        simp only [List.length_singleton] at this
        have hi2 : i = s.L.length := by omega
        subst hi2
        simp only [Nat.sub_self, List.getElem?_cons_zero, Option.some.injEq] at e
        exact .inr ⟨rfl, e.symm⟩
    have cov : ∀ z w, Cov most s z w → Cov most ⟨s.L ++ [y], dput s.K v.2.1 (x.2.1 + v.2.2)⟩ z w := fun z w q l => by
      obtain ⟨u, hu, q1⟩ := q l
      exact ⟨u, List.mem_append_left _ hu, q1⟩
    have ly : y.2.2.length = x.2.2.length + 1 := by rw [hy]; simp
    refine ⟨⟨up _ _ h.hd, fun z hz => ?_, fun i j z u hij hi hj => ?_, fun n w hn => ?_, fun z hz => ?_, ?_, fun i z hi hz => ?_, fun z u hz hu => ?_⟩, up _ _ hx, fun _ => ⟨y, List.mem_append_right _ (List.mem_singleton.mpr rfl), by rw [hy], by rw [hy]; exact Nat.le_refl _, by rw [ly]; exact Nat.le_refl _⟩, fun z hz => List.mem_append_left _ hz⟩
    · rcases List.mem_append.mp hz with hz | hz
      · exact h.wk z hz
      · cases List.mem_singleton.mp hz
        rw [hy]
        exact ⟨.step wx hb hv, c1⟩
    · rcases dn i z hi with hi' | ⟨ei, ez⟩
      · rcases dn j u hj with hj' | ⟨ej, eu⟩
        · exact h.mono i j z u hij hi' hj'
        · rw [eu, ly]
          exact h.near x z hx (List.mem_of_getElem? hi')
      · rcases dn j u hj with hj' | ⟨ej, eu⟩
        · have := (List.getElem?_eq_some_iff.mp hj').1
          omega
        · rw [ez, eu]; exact Nat.le_refl _
    · simp only [dget_put] at hn
      simp only [tl]
      by_cases he : n = v.2.1
      · rw [if_pos he] at hn
        cases hn
        exact ⟨x.2.2 ++ [v.1], List.mem_append_right _ (List.mem_singleton.mpr (by rw [hy, he]))⟩
      · rw [if_neg he] at hn
        obtain ⟨p, hp⟩ := h.kn n w hn
        exact ⟨p, List.mem_append_left _ hp⟩
    · simp only [dget_put]
      simp only [tl] at hz
      rcases List.mem_append.mp hz with hz | hz
      · obtain ⟨w, w1, w2⟩ := h.lo z hz
        by_cases he : z.1 = v.2.1
        · rw [if_pos he]
          rw [← he, w1] at c2
          simp only [Option.getD_some] at c2
          exact ⟨_, rfl, by omega⟩
        · rw [if_neg he]
          exact ⟨w, w1, w2⟩
      · cases List.mem_singleton.mp hz
        rw [if_pos (by rw [hy])]
        exact ⟨_, rfl, by rw [hy]; exact Nat.le_refl _⟩
    · simp only [tl]
      rw [List.map_append, List.nodup_append]
      refine ⟨h.nd, by simp, fun a ha b hb' => ?_⟩
      simp only [List.map_cons, List.map_nil, List.mem_singleton] at hb'
      intro e
      rw [e] at ha
      obtain ⟨z, hz, ez⟩ := List.mem_map.mp ha
      rw [hb', hy] at ez
      simp only [Prod.mk.injEq] at ez
      obtain ⟨w, w1, w2⟩ := h.lo z hz
      rw [ez.1] at w1
      rw [w1] at c2
      simp only [Option.getD_some] at c2
      omega
    · rcases dn i z hz with hz | ⟨ei, _⟩
      · obtain ⟨q1, q2⟩ := h.cl i z hi hz
        exact ⟨q1, fun w hw => cov z w (q2 w hw)⟩
      · omega
    · have ez : z = x := by
        have := up _ _ hx
        rw [this] at hz
        exact (Option.some.inj hz).symm
      subst ez
      rcases List.mem_append.mp hu with hu | hu
      · exact h.near _ u hx hu
      · cases List.mem_singleton.mp hu; rw [ly]; exact Nat.le_refl _
  · rw [if_neg hc]
    refine ⟨h, hx, fun l => ?_, fun y hy => hy⟩
    cases hd : dget s.K v.2.1 with
    | none =>
      rw [hd] at hc
      exact absurd ⟨l, by simp only [Option.getD_none]; omega⟩ hc
    | some w =>
      rw [hd] at hc
      simp only [Option.getD_some] at hc
      obtain ⟨p, hp⟩ := h.kn _ _ hd
      have hm := List.mem_of_mem_tail hp
      exact ⟨_, hm, rfl, by show w ≤ _; omega, h.near x _ hx hm⟩
theorem cov_mono {s s' : Bs α ε} (hs : ∀ y ∈ s.L, y ∈ s'.L) {x : En α ε} {v : ε × α × Nat} (h : Cov most s x v) : Cov most s' x v := fun l => by
  obtain ⟨y, h1, h2⟩ := h l
  exact ⟨y, hs y h1, h2⟩
theorem pushes_ok {at_ : Nat} {x : En α ε} (hb : G.bad x.1 = false) : ∀ (vs : List (ε × α × Nat)) {s : Bs α ε}, Bi G most s at_ → s.L[at_]? = some x → (∀ v ∈ vs, v ∈ G.mv x.1) →
    Bi G most (vs.foldl (push most x) s) at_ ∧ (vs.foldl (push most x) s).L[at_]? = some x ∧ (∀ v ∈ vs, Cov most (vs.foldl (push most x) s) x v) ∧ ∀ y ∈ s.L, y ∈ (vs.foldl (push most x) s).L
  | [], s, h, hx, _ => ⟨h, hx, fun v hv => (nomatch hv), fun y hy => hy⟩
  | v :: vs, s, h, hx, hv => by
    obtain ⟨a1, a2, a3, a4⟩ := push_ok h hx hb (hv v List.mem_cons_self)
    obtain ⟨b1, b2, b3, b4⟩ := pushes_ok hb vs a1 a2 fun w hw => hv w (List.mem_cons_of_mem _ hw)
    rw [List.foldl_cons]
    refine ⟨b1, b2, fun w hw => ?_, fun y hy => b4 y (a4 y hy)⟩
    rcases List.mem_cons.mp hw with rfl | hw
    · exact cov_mono b4 a3
    · exact b3 w hw
def expand (G : Bg α ε) (most : Nat) (s : Bs α ε) (x : En α ε) : Bs α ε := (G.mv x.1).foldl (push most x) s
/-- one node, all its moves -/
theorem expand_ok {s : Bs α ε} {at_ : Nat} (h : Bi G most s at_) {x : En α ε} (hx : s.L[at_]? = some x) (hb : G.bad x.1 = false) : Bi G most (expand G most s x) (at_ + 1) := by
  obtain ⟨b1, b2, b3, b4⟩ := pushes_ok hb (G.mv x.1) h hx fun v hv => hv
  refine ⟨b1.hd, b1.wk, b1.mono, b1.kn, b1.lo, b1.nd, fun i y hi hy => ?_, fun z y hz hy => ?_⟩
  · by_cases he : i = at_
    · subst he
      have : y = x := Option.some.inj (hy.symm.trans b2)
      subst this
      exact ⟨hb, b3⟩
    · exact b1.cl i y (by omega) hy
  · have q1 := b1.near x y b2 hy
    have q2 := b1.mono at_ (at_ + 1) x z (by omega) b2 hz
    omega
/-- who is met -/
theorem bi_all {s : Bs α ε} {at_ : Nat} (h : Bi G most s at_) {d : Nat} (hd : ∀ i y, s.L[i]? = some y → y.2.2.length < d → i < at_) : ∀ {n : α} {f : Nat} {p : List ε}, Wlk G n f p → f ≤ most → p.length ≤ d → ∃ y ∈ s.L, y.1 = n ∧ y.2.1 ≤ f ∧ y.2.2.length ≤ p.length := by
  intro n f p hw
  induction hw with
  | nil => exact fun _ _ => ⟨_, List.mem_of_getElem? h.hd, rfl, Nat.le_refl _, Nat.le_refl _⟩
  | @step n m f w p e h1 h2 h3 ih =>
    intro l1 l2
    simp only [List.length_append, List.length_singleton] at l2 ⊢
    obtain ⟨y, y1, y2, y3, y4⟩ := ih (by omega) (by omega)
    obtain ⟨i, hi⟩ := List.getElem?_of_mem y1
    obtain ⟨_, q2⟩ := h.cl i y (hd i y hi (by omega)) hi
    obtain ⟨z, z1, z2, z3, z4⟩ := q2 (e, m, w) (by rw [y2]; exact h3) (by show y.2.1 + w ≤ most; omega)
    simp only at z2 z3 z4
    exact ⟨z, z1, z2, by omega, by omega⟩
/-- the first bad one that is met is as near as any -/
theorem bi_first {s : Bs α ε} {at_ : Nat} (h : Bi G most s at_) {x : En α ε} (hx : s.L[at_]? = some x) {n : α} {f : Nat} {p : List ε} (hw : Wlk G n f p) (hf : f ≤ most) (hb : G.bad n = true) : x.2.2.length ≤ p.length := by
  by_cases hl : x.2.2.length ≤ p.length
  · exact hl
  · exfalso
    have idx : ∀ i y, s.L[i]? = some y → y.2.2.length < x.2.2.length → i < at_ := fun i y hi hy => by
      by_cases hh : i < at_
      · exact hh
      · have := h.mono at_ i x y (by omega) hx hi
        omega
    obtain ⟨y, y1, y2, y3, y4⟩ := bi_all h idx hw hf (by omega)
    obtain ⟨i, hi⟩ := List.getElem?_of_mem y1
    obtain ⟨q1, _⟩ := h.cl i y (idx i y hi (by omega)) hi
    rw [y2, hb] at q1; cases q1
/-- the line does not run out ahead of a bad one -/
theorem bi_more {s : Bs α ε} {at_ : Nat} (h : Bi G most s at_) {n : α} {f : Nat} {p : List ε} (hw : Wlk G n f p) (hf : f ≤ most) (hb : G.bad n = true) : at_ < s.L.length := by
  by_cases hl : at_ < s.L.length
  · exact hl
  · exfalso
    have idx : ∀ i y, s.L[i]? = some y → y.2.2.length < p.length + 1 → i < at_ := fun i y hi _ => by
      have := (List.getElem?_eq_some_iff.mp hi).1
      omega
    obtain ⟨y, y1, y2, y3, y4⟩ := bi_all h idx hw hf (by omega)
    obtain ⟨i, hi⟩ := List.getElem?_of_mem y1
    obtain ⟨q1, _⟩ := h.cl i y (idx i y hi (by omega)) hi
    rw [y2, hb] at q1; cases q1
theorem nodup_le' {β : Type} [DecidableEq β] : ∀ {L U : List β}, L.Nodup → (∀ x ∈ L, x ∈ U) → L.length ≤ U.length
  | [], _, _, _ => Nat.zero_le _
  | a :: L, U, nd, h => by
    have ha := h a List.mem_cons_self
    obtain ⟨n1, n2⟩ := List.nodup_cons.mp nd
    have := nodup_le' (L := L) (U := U.erase a) n2 (fun x hx => (List.mem_erase_of_ne (fun z => n1 (by rw [← z]; exact hx))).mpr (h x (List.mem_cons_of_mem _ hx)))
    rw [List.length_erase_of_mem ha] at this
    have hp : 0 < U.length := List.length_pos_of_mem ha
    simp only [List.length_cons]
    omega
/-- the line stays short -/
theorem bi_len {s : Bs α ε} {at_ : Nat} (h : Bi G most s at_) {U : List α} (hU : ∀ x ∈ s.L, x.1 ∈ U) : s.L.length ≤ 1 + U.length * (most + 1) := by
  have hk := nodup_le' (U := U.flatMap fun n => (List.range (most + 1)).map fun f => (n, f)) h.nd fun q hq => by
    obtain ⟨x, hx, rfl⟩ := List.mem_map.mp hq
    have hm := List.mem_of_mem_tail hx
    refine List.mem_flatMap.mpr ⟨x.1, hU x hm, List.mem_map.mpr ⟨x.2.1, List.mem_range.mpr ?_, rfl⟩⟩
    have := (h.wk x hm).2
    omega
  have : (U.flatMap fun n => (List.range (most + 1)).map fun f => (n, f)).length = U.length * (most + 1) := by
    rw [List.length_flatMap]
    simp only [List.length_map, List.length_range]
    rw [List.map_const', List.sum_replicate_nat]
  rw [this, List.length_map, List.length_tail] at hk
  omega
end
end TT
end

section
set_option linter.all false
set_option autoImplicit false
namespace TT
/-! ### a shortest history, by the program -/
def evs6 : List AEv := [.ask, .got, .tick, .drop, .late]
def costE (e : AEv) : Nat := if e = .drop ∨ e = .late then 1 else 0
def mayE (w : Bool) (e : AEv) : Bool := decide (e ≠ .got) || w
def mvP (R : Rule) (c : Bool) (n : An) : List (AEv × An × Nat) := (evs6.filter (mayE n.wait.isSome)).map fun e => (e, movedA R c n e, costE e)
def gbP (R : Rule) (c : Bool) : Bg An AEv := ⟨firstA R, mvP R c, fun n => (aloneN R n .ask).1⟩
theorem wk_pn {R : Rule} (ok : R.Ok) {c : Bool} {n : An} {f : Nat} {p : List AEv} (h : Wlk (gbP R c) n f p) : PN R n := by
  induction h with
  | nil => exact pn_first ok
  | step h1 h2 h3 ih =>
    obtain ⟨e, _, he⟩ := List.mem_map.mp h3
    simp only [Prod.mk.injEq] at he
    rw [← he.2.1]
    exact pn_moved ok c ih e
def encP (p : List AEv) : PV := .tup (p.map AEv.lenc)
def encE (x : En An AEv) : PV := .tup [x.1.enc, .int x.2.1, encP x.2.2]
def encN (K : List (An × Nat)) : List (PV × PV) := K.map fun q => (q.1.enc, .int q.2)
theorem khas_n (K : List (An × Nat)) (n : An) : kHas (encN K) n.enc = decide (n ∈ K.map (·.1)) := by
  unfold kHas encN
  rw [List.any_map, Bool.eq_iff_iff, List.any_eq_true, decide_eq_true_eq]
  constructor
  · rintro ⟨q, hq, e⟩
    simp only [Function.comp, eqv_an, decide_eq_true_eq] at e
    exact List.mem_map.mpr ⟨q, hq, e⟩
  · intro h
    obtain ⟨q, hq, e⟩ := List.mem_map.mp h
    refine ⟨q, hq, ?_⟩
    show PV.eqv q.1.enc n.enc = true
    rw [eqv_an]; simp [e]
theorem kput_n (K : List (An × Nat)) (n : An) (v : Nat) : kPut (encN K) n.enc (.int v) = encN (dput K n v) := by
  unfold kPut dput
  rw [khas_n]
  by_cases h : n ∈ K.map (·.1)
  · rw [if_pos (by simpa using h), if_pos h]
    unfold encN
    rw [List.map_map, List.map_map]
    refine List.map_congr_left fun q _ => ?_
    show (if PV.eqv q.1.enc n.enc = true then (q.1.enc, PV.int v) else (q.1.enc, PV.int q.2)) = _
    rw [eqv_an]
    by_cases hq : q.1 = n <;> simp [hq]
  · rw [if_neg (by simpa using h), if_neg h]
    simp [encN]
theorem kfind_n (n : An) : ∀ K : List (An × Nat), kFind (encN K) n.enc = (dget K n).map fun v => PV.int v
  | [] => rfl
  | q :: K => by
    have ih := kfind_n n K
    unfold kFind encN at ih ⊢
    rw [dget_cons, List.map_cons, List.find?_cons]
    show Option.map _ (match PV.eqv q.1.enc n.enc with | true => some (q.1.enc, PV.int q.2) | false => _) = _
    rw [eqv_an]
    by_cases hq : q.1 = n
    · simp [hq]
    · simp only [hq, decide_false, if_false]
      exact ih
def shI : SS := (sSeq (sAsg (eVar 10) (gKSub (eVar 4) (eVar 11)))
  (sExpr (eM .list mAppend (eVar 3) (aCons (eTup (aCons (eVar 11) (aCons (eVar 10) (aCons (e2 oAdd (eVar 8) (eTup (aCons (eIf (tV (e2 oEq (eVar 9) (eC (.str [46, 46])))) (eC (.str [46, 46])) (e2 oAdd (eC (.str [97])) (eVar 9))) aNil))) aNil)))) aNil))))
def shE : SS := (sSeq (sAsg (e2 oAdd (eVar 7) (eN fInt (aCons (e2 (oIn false) (eVar 9) (eC c_FAULTS)) aNil))) (TT.gName 10))
  (sIf (tAnd (tV (e2 oLe (eVar 10) (eVar 2))) (tOr (tV (e2 oNe (eVar 9) (eC (.str [43])))) (tV (e1 (oIs true .non) (e2 oIx (eVar 6) (eC (.int 2))))))) (sSeq (sAsg (eN (cP f_moved) (aCons (eVar 0) (aCons (eVar 6) (aCons (eVar 9) (aCons (eVar 1) aNil))))) (TT.gName 11))
  (sIf (tV (e2 oGt (eKGetD (eVar 4) (eVar 11) (e2 oAdd (eVar 2) (eC (.int 1)))) (eVar 10))) shI sSkip)) sSkip))
def shT : ST := (tNot (tT (e2 oIx (eN (cP f_alone) (aCons (eVar 0) (aCons (e2 oIx (e2 oIx (eVar 3) (eVar 5)) (eC (.int 0))) (aCons (eC (.str [33])) aNil)))) (eC (.int 0)))))
def shB : SS := (sSeq (sAsg (e2 oIx (eVar 3) (eVar 5)) (TT.gTup [6, 7, 8]))
  (sSeq (sAsg (e2 oAdd (eVar 5) (eC (.int 1))) (TT.gName 5))
  (sFor (iT (e2 oAdd (eC c_SAFE) (eC c_FAULTS))) (TT.gName 9) shE)))
theorem sh_eq : s_shortest = (sSeq (sPar3 3 4 5 (aCons (eLstM (aCons (eTup (aCons (eN (cP f_first_node) (aCons (eVar 0) aNil)) (aCons (eC (.int 0)) (aCons (eTup aNil) aNil)))) aNil)) (aCons eKNew (aCons (eC (.int 0)) aNil))))
  (sSeq (sWhile shT shB)
  (sRet (e2 oAdd (e2 oIx (e2 oIx (eVar 3) (eVar 5)) (eC (.int 2))) (eTup (aCons (eC (.str [97, 33])) aNil)))))) := rfl
def shM (s : Bs An AEv) : Mm := [.lst (s.L.map encE), .kd (encN s.K)]
/-- a move, where it may be -/
def stepP (R : Rule) (c : Bool) (most : Nat) (x : En An AEv) (s : Bs An AEv) (e : AEv) : Bs An AEv := if mayE x.1.wait.isSome e = true then push most x s (e, movedA R c x.1 e, costE e) else s
theorem steps_eq (R : Rule) (c : Bool) (most : Nat) (x : En An AEv) : ∀ (es : List AEv) (s : Bs An AEv), es.foldl (stepP R c most x) s = ((es.filter (mayE x.1.wait.isSome)).map fun e => (e, movedA R c x.1 e, costE e)).foldl (push most x) s
  | [], _ => rfl
  | e :: es, s => by
    rw [List.foldl_cons, steps_eq R c most x es]
    unfold stepP
    by_cases h : mayE x.1.wait.isSome e = true
    · rw [if_pos h, List.filter_cons_of_pos h, List.map_cons, List.foldl_cons]
    · rw [if_neg h, List.filter_cons_of_neg h]
theorem sh_ev {R : Rule} (ok : R.Ok) (c : Bool) (most : Nat) {x : En An AEv} (hn : PN R x.1) (hp : x.2.2.length ≤ 900000) (s5 s10 s11 : Option PV) (s : Bs An AEv) (hl : s.L.length ≤ 900000) (hk : s.K.length ≤ 900000) (e : AEv) :
    ∃ y10 y11, shE [some R.enc, some (.bl c), some (.int most), some (.ref 0), some (.ref 1), s5, some x.1.enc, some (.int x.2.1), some (encP x.2.2), some e.enc, s10, s11] (shM s) = .ok (.nx, [some R.enc, some (.bl c), some (.int most), some (.ref 0), some (.ref 1), s5, some x.1.enc, some (.int x.2.1), some (encP x.2.2), some e.enc, y10, y11], shM (stepP R c most x s e)) := by
  obtain ⟨n, f, p⟩ := x
  simp only at hn hp ⊢
  have a1 : (sAsg (e2 oAdd (eVar 7) (eN fInt (aCons (e2 (oIn false) (eVar 9) (eC c_FAULTS)) aNil))) (TT.gName 10)) [some R.enc, some (.bl c), some (.int most), some (.ref 0), some (.ref 1), s5, some n.enc, some (.int f), some (encP p), some e.enc, s10, s11] (shM s) = .ok (.nx, [some R.enc, some (.bl c), some (.int most), some (.ref 0), some (.ref 1), s5, some n.enc, some (.int f), some (encP p), some e.enc, some (.int (f + costE e : Nat)), s11], shM s) := by
    have i1 : ∀ m, oIn false e.enc c_FAULTS m = .ok (.bl (decide (e = .drop ∨ e = .late)), m) := fun m => by cases e <;> rfl
    have i2 : ∀ m, fInt [.bl (decide (e = .drop ∨ e = .late))] m = .ok (.int (costE e : Nat), m) := fun m => by cases e <;> rfl
    have i3 : b2i (decide (e = .drop) || decide (e = .late)) = ((costE e : Nat) : Int) := by cases e <;> rfl
    simp [i1, i3]
  have tst : (tAnd (tV (e2 oLe (eVar 10) (eVar 2))) (tOr (tV (e2 oNe (eVar 9) (eC (.str [43])))) (tV (e1 (oIs true .non) (e2 oIx (eVar 6) (eC (.int 2))))))) [some R.enc, some (.bl c), some (.int most), some (.ref 0), some (.ref 1), s5, some n.enc, some (.int f), some (encP p), some e.enc, some (.int (f + costE e : Nat)), s11] (shM s) = .ok (decide (f + costE e ≤ most) && mayE n.wait.isSome e, shM s) := by
    have i2 : ∀ m, oIx n.enc (.int 2) m = .ok (encO n.wait, m) := fun m => rfl
    have i3 : ∀ m, oIs true .non (encO n.wait) m = .ok (.bl n.wait.isSome, m) := fun m => encO_nnon n.wait m
    have i4 : ∀ m, oNe e.enc (.str [43]) m = .ok (.bl (decide (e ≠ .got)), m) := fun m => by cases e <;> rfl
    have i5 : ∀ m, oLe (.int (f + costE e : Nat)) (.int most) m = .ok (.bl (decide (f + costE e ≤ most)), m) := fun m => by
      rw [oLe_int]; simp only [Int.ofNat_le]
    generalize ((f + costE e : Nat) : Int) = A at i5
    generalize n.wait.isSome = W at i3 ⊢
    by_cases hle : f + costE e ≤ most
    · rw [decide_eq_true hle] at i5 ⊢
      unfold mayE
      generalize decide (e ≠ .got) = B at i4 ⊢
      cases B <;> cases W <;> simp [i2, i3, i4, i5]
    · rw [decide_eq_false hle] at i5 ⊢
      simp [i5]
  unfold shE
  rw [seq_nx a1]
  unfold stepP
  by_cases hm : mayE n.wait.isSome e = true
  · by_cases hle : f + costE e ≤ most
    · rw [hm, decide_eq_true hle] at tst
      have mv := moved_ok ok c hn e (shM s)
      obtain ⟨k, hk'⟩ : ∃ k, k = movedA R c n e := ⟨_, rfl⟩
      rw [← hk'] at mv
      have kg : (eKGetD (eVar 4) (eVar 11) (e2 oAdd (eVar 2) (eC (.int 1)))) [some R.enc, some (.bl c), some (.int most), some (.ref 0), some (.ref 1), s5, some n.enc, some (.int f), some (encP p), some e.enc, some (.int (f + costE e : Nat)), some k.enc] (shM s) = .ok (.int ((dget s.K k).getD (most + 1) : Nat), shM s) := by
        have q := kget_ap (fd := eVar 4) (fk := eVar 11) (fx := e2 oAdd (eVar 2) (eC (.int 1))) (s := [some R.enc, some (.bl c), some (.int most), some (.ref 0), some (.ref 1), s5, some n.enc, some (.int f), some (encP p), some e.enc, some (.int (f + costE e : Nat)), some k.enc]) (m := shM s) (n := 1) (k := k.enc) (x := .int (most + 1 : Nat)) rfl rfl (by simp) (kd_of (show (shM s)[1]? = some (.kd (encN s.K)) from rfl)) rfl (an_ky k)
        rw [q, kfind_n]
        cases dget s.K k <;> rfl
      have gt : oGt (.int ((dget s.K k).getD (most + 1) : Nat)) (.int (f + costE e : Nat)) (shM s) = .ok (.bl (decide (f + costE e < (dget s.K k).getD (most + 1))), shM s) := by
        rw [oGt_int]; simp only [gt_iff_lt, Int.ofNat_lt]
      rw [if_pos hm, ← hk']
      unfold push
      simp only
      by_cases hlt : f + costE e < (dget s.K k).getD (most + 1)
      · rw [if_pos ⟨hle, hlt⟩]
        rw [decide_eq_true hlt] at gt
        have st := kset_ap (v := .int (f + costE e : Nat)) (show (shM s)[1]? = some (.kd (encN s.K)) from rfl) (show isTup k.enc = true from rfl) (an_ky k) (by unfold encN; rw [List.length_map]; exact line_lt' (by omega))
        rw [kput_n] at st
        have b1 : (sAsg (eVar 10) (gKSub (eVar 4) (eVar 11))) [some R.enc, some (.bl c), some (.int most), some (.ref 0), some (.ref 1), s5, some n.enc, some (.int f), some (encP p), some e.enc, some (.int (f + costE e : Nat)), some k.enc] (shM s) = .ok (.nx, [some R.enc, some (.bl c), some (.int most), some (.ref 0), some (.ref 1), s5, some n.enc, some (.int f), some (encP p), some e.enc, some (.int (f + costE e : Nat)), some k.enc], shM ⟨s.L, dput s.K k (f + costE e)⟩) := by
          generalize ((f + costE e : Nat) : Int) = A at st ⊢
          simp [gKSub, st]
          rfl
        have pa : (e2 oAdd (eVar 8) (eTup (aCons (eIf (tV (e2 oEq (eVar 9) (eC (.str [46, 46])))) (eC (.str [46, 46])) (e2 oAdd (eC (.str [97])) (eVar 9))) aNil))) [some R.enc, some (.bl c), some (.int most), some (.ref 0), some (.ref 1), s5, some n.enc, some (.int f), some (encP p), some e.enc, some (.int (f + costE e : Nat)), some k.enc] (shM ⟨s.L, dput s.K k (f + costE e)⟩) = .ok (encP (p ++ [e]), shM ⟨s.L, dput s.K k (f + costE e)⟩) := by
          have le : (eIf (tV (e2 oEq (eVar 9) (eC (.str [46, 46])))) (eC (.str [46, 46])) (e2 oAdd (eC (.str [97])) (eVar 9))) [some R.enc, some (.bl c), some (.int most), some (.ref 0), some (.ref 1), s5, some n.enc, some (.int f), some (encP p), some e.enc, some (.int (f + costE e : Nat)), some k.enc] (shM ⟨s.L, dput s.K k (f + costE e)⟩) = .ok (e.lenc, shM ⟨s.L, dput s.K k (f + costE e)⟩) := by
            cases e <;> rfl
          have ad : ∀ m, oAdd (encP p) (.tup [e.lenc]) m = .ok (encP (p ++ [e]), m) := fun m => by
            have : p.length + 1 ≤ LINE := line_small (by omega)
            simp [oAdd, look1, encP, this]
          generalize (eIf (tV (e2 oEq (eVar 9) (eC (.str [46, 46])))) (eC (.str [46, 46])) (e2 oAdd (eC (.str [97])) (eVar 9))) = IF at le ⊢
          generalize ((f + costE e : Nat) : Int) = A at le ⊢
          generalize shM ⟨s.L, dput s.K k (f + costE e)⟩ = M at le ⊢
          simp [le, ad]
        have ap : mAppend (.ref 0) [encE (k, f + costE e, p ++ [e])] (shM ⟨s.L, dput s.K k (f + costE e)⟩) = .ok (.non, shM ⟨s.L ++ [(k, f + costE e, p ++ [e])], dput s.K k (f + costE e)⟩) := by
          rw [mAppend_ref (show (shM ⟨s.L, dput s.K k (f + costE e)⟩)[0]? = some (.lst (s.L.map encE)) from rfl) (by rw [List.length_map]; exact line_lt' (by omega))]
          simp [shM]
        have b2 : (sExpr (eM .list mAppend (eVar 3) (aCons (eTup (aCons (eVar 11) (aCons (eVar 10) (aCons (e2 oAdd (eVar 8) (eTup (aCons (eIf (tV (e2 oEq (eVar 9) (eC (.str [46, 46])))) (eC (.str [46, 46])) (e2 oAdd (eC (.str [97])) (eVar 9))) aNil))) aNil)))) aNil))) [some R.enc, some (.bl c), some (.int most), some (.ref 0), some (.ref 1), s5, some n.enc, some (.int f), some (encP p), some e.enc, some (.int (f + costE e : Nat)), some k.enc] (shM ⟨s.L, dput s.K k (f + costE e)⟩) = .ok (.nx, [some R.enc, some (.bl c), some (.int most), some (.ref 0), some (.ref 1), s5, some n.enc, some (.int f), some (encP p), some e.enc, some (.int (f + costE e : Nat)), some k.enc], shM ⟨s.L ++ [(k, f + costE e, p ++ [e])], dput s.K k (f + costE e)⟩) := by
          have ty : tyOk (shM ⟨s.L, dput s.K k (f + costE e)⟩) .list (.ref 0) = true := rfl
          unfold encE at ap
          simp only at ap
          generalize (e2 oAdd (eVar 8) (eTup (aCons (eIf (tV (e2 oEq (eVar 9) (eC (.str [46, 46])))) (eC (.str [46, 46])) (e2 oAdd (eC (.str [97])) (eVar 9))) aNil))) = PA at pa
          generalize ((f + costE e : Nat) : Int) = A at pa ap ⊢
          generalize shM ⟨s.L ++ [(k, f + costE e, p ++ [e])], dput s.K k (f + costE e)⟩ = M2 at ap ⊢
          generalize shM ⟨s.L, dput s.K k (f + costE e)⟩ = M at *
          simp [ty, pa, ap]
        have b3 := (seq_nx (b := (sExpr (eM .list mAppend (eVar 3) (aCons (eTup (aCons (eVar 11) (aCons (eVar 10) (aCons (e2 oAdd (eVar 8) (eTup (aCons (eIf (tV (e2 oEq (eVar 9) (eC (.str [46, 46])))) (eC (.str [46, 46])) (e2 oAdd (eC (.str [97])) (eVar 9))) aNil))) aNil)))) aNil)))) b1).trans b2
        refine ⟨some (.int (f + costE e : Nat)), some k.enc, ?_⟩
        have b4 : shI [some R.enc, some (.bl c), some (.int most), some (.ref 0), some (.ref 1), s5, some n.enc, some (.int f), some (encP p), some e.enc, some (.int (f + costE e : Nat)), some k.enc] (shM s) = _ := b3
        generalize shI = SI at b4
        generalize (eKGetD (eVar 4) (eVar 11) (e2 oAdd (eVar 2) (eC (.int 1)))) = KG at kg
        generalize (tAnd (tV (e2 oLe (eVar 10) (eVar 2))) (tOr (tV (e2 oNe (eVar 9) (eC (.str [43])))) (tV (e1 (oIs true .non) (e2 oIx (eVar 6) (eC (.int 2))))))) = T at tst
        generalize shM ⟨s.L ++ [(k, f + costE e, p ++ [e])], dput s.K k (f + costE e)⟩ = M2 at b4 ⊢
        generalize ((f + costE e : Nat) : Int) = A at tst kg gt b4 ⊢
        simp [tst, mv, kg, gt, b4]
      · rw [if_neg (fun z => hlt z.2)]
        rw [decide_eq_false hlt] at gt
        refine ⟨some (.int (f + costE e : Nat)), some k.enc, ?_⟩
        generalize (eKGetD (eVar 4) (eVar 11) (e2 oAdd (eVar 2) (eC (.int 1)))) = KG at kg
        generalize (tAnd (tV (e2 oLe (eVar 10) (eVar 2))) (tOr (tV (e2 oNe (eVar 9) (eC (.str [43])))) (tV (e1 (oIs true .non) (e2 oIx (eVar 6) (eC (.int 2))))))) = T at tst
        generalize ((f + costE e : Nat) : Int) = A at tst kg gt ⊢
        simp [tst, mv, kg, gt]
    · rw [decide_eq_false hle] at tst
      rw [if_pos hm]
      unfold push
      simp only
      rw [if_neg (fun z => hle z.1)]
      refine ⟨some (.int (f + costE e : Nat)), s11, ?_⟩
      generalize (tAnd (tV (e2 oLe (eVar 10) (eVar 2))) (tOr (tV (e2 oNe (eVar 9) (eC (.str [43])))) (tV (e1 (oIs true .non) (e2 oIx (eVar 6) (eC (.int 2))))))) = T at tst
      generalize ((f + costE e : Nat) : Int) = A at tst ⊢
      simp [tst]
  · rw [if_neg hm]
    have hm' : mayE n.wait.isSome e = false := by simpa using hm
    rw [hm', Bool.and_false] at tst
    refine ⟨some (.int (f + costE e : Nat)), s11, ?_⟩
    generalize (tAnd (tV (e2 oLe (eVar 10) (eVar 2))) (tOr (tV (e2 oNe (eVar 9) (eC (.str [43])))) (tV (e1 (oIs true .non) (e2 oIx (eVar 6) (eC (.int 2))))))) = T at tst
    generalize ((f + costE e : Nat) : Int) = A at tst ⊢
    simp [tst]
end TT
end

section
set_option linter.all false
set_option autoImplicit false
namespace TT
structure Sz {α ε : Type} (s : Bs α ε) : Prop where
  k : s.K.length ≤ s.L.length
  p : ∀ y ∈ s.L, y.2.2.length ≤ s.L.length
theorem sz_push {α ε : Type} [DecidableEq α] {most : Nat} {x : En α ε} {s : Bs α ε} (v : ε × α × Nat) (h : Sz s) (hx : x.2.2.length ≤ s.L.length) : Sz (push most x s v) ∧ s.L.length ≤ (push most x s v).L.length ∧ (push most x s v).L.length ≤ s.L.length + 1 := by
  unfold push
  split
  · have hk := h.k
    refine ⟨⟨?_, fun y hy => ?_⟩, by simp, by simp⟩
    · show (dput s.K _ _).length ≤ (s.L ++ [_]).length
      rw [List.length_append, List.length_singleton]
      unfold dput
      split
      · rw [List.length_map]; omega
      · rw [List.length_append, List.length_singleton]; omega
    · show y.2.2.length ≤ (s.L ++ [_]).length
      rw [List.length_append, List.length_singleton]
      rcases List.mem_append.mp hy with hy | hy
      · have := h.p y hy; omega
      · cases List.mem_singleton.mp hy
        simp; omega
  · exact ⟨h, Nat.le_refl _, Nat.le_succ _⟩
theorem sz_step {R : Rule} {c : Bool} {most : Nat} {x : En An AEv} {s : Bs An AEv} (e : AEv) (h : Sz s) (hx : x.2.2.length ≤ s.L.length) : Sz (stepP R c most x s e) ∧ s.L.length ≤ (stepP R c most x s e).L.length ∧ (stepP R c most x s e).L.length ≤ s.L.length + 1 := by
  unfold stepP
  split
  · exact sz_push _ h hx
  · exact ⟨h, Nat.le_refl _, Nat.le_succ _⟩
theorem sh_evs {R : Rule} (ok : R.Ok) (c : Bool) (most : Nat) {x : En An AEv} (hn : PN R x.1) (s5 : Option PV) : ∀ (es : List AEv) (s : Bs An AEv) (s9 s10 s11 : Option PV), Sz s → x.2.2.length ≤ s.L.length → s.L.length + es.length ≤ 900000 →
    ∃ y9 y10 y11, forL (gName 9) shE (es.map AEv.enc) [some R.enc, some (.bl c), some (.int most), some (.ref 0), some (.ref 1), s5, some x.1.enc, some (.int x.2.1), some (encP x.2.2), s9, s10, s11] (shM s) = .ok (.nx, [some R.enc, some (.bl c), some (.int most), some (.ref 0), some (.ref 1), s5, some x.1.enc, some (.int x.2.1), some (encP x.2.2), y9, y10, y11], shM (es.foldl (stepP R c most x) s)) ∧ Sz (es.foldl (stepP R c most x) s)
  | [], s, s9, s10, s11, h, _, _ => ⟨s9, s10, s11, rfl, h⟩
  | e :: es, s, s9, s10, s11, h, hx, hl => by
    simp only [List.length_cons] at hl
    have hk := h.k
    obtain ⟨z10, z11, e1⟩ := sh_ev ok c most hn (by omega) s5 s10 s11 s (by omega) (by omega) e
    obtain ⟨z1, z2, z3⟩ := sz_step (R := R) (c := c) (most := most) e h hx
    obtain ⟨y9, y10, y11, e2, e3⟩ := sh_evs ok c most hn s5 es (stepP R c most x s e) (some e.enc) z10 z11 z1 (by omega) (by omega)
    refine ⟨y9, y10, y11, ?_, e3⟩
    rw [List.map_cons, forL_cons]
    simp only [gName_ap, Rs.bind_ok]
    show Rs.bind (shE [some R.enc, some (.bl c), some (.int most), some (.ref 0), some (.ref 1), s5, some x.1.enc, some (.int x.2.1), some (encP x.2.2), some e.enc, s10, s11] (shM s)) _ = _
    rw [e1]
    simp only [Rs.bind_ok]
    rw [e2, List.foldl_cons]
theorem sh_loop {R : Rule} (ok : R.Ok) (c : Bool) {most : Nat} (hm : most ≤ 6) {n0 : An} {f0 : Nat} {p0 : List AEv} (w0 : Wlk (gbP R c) n0 f0 p0) (hf0 : f0 ≤ most) (hb0 : (gbP R c).bad n0 = true) : ∀ (k : Nat) (s : Bs An AEv) (at_ : Nat) (x6 x7 x8 x9 x10 x11 : Option PV) (F : Nat), 800000 - at_ < k → k ≤ F → Bi (gbP R c) most s at_ → Sz s →
    ∃ s' at' x y6 y7 y8 y9 y10 y11, whileF shT shB F [some R.enc, some (.bl c), some (.int most), some (.ref 0), some (.ref 1), some (.int at_), x6, x7, x8, x9, x10, x11] (shM s) = .ok (.nx, [some R.enc, some (.bl c), some (.int most), some (.ref 0), some (.ref 1), some (.int (at' : Nat)), y6, y7, y8, y9, y10, y11], shM s') ∧ Bi (gbP R c) most s' at' ∧ Sz s' ∧ s'.L[at']? = some x ∧ (gbP R c).bad x.1 = true ∧ s'.L.length ≤ 700001
  | 0, _, _, _, _, _, _, _, _, _, h, _, _, _ => absurd h (Nat.not_lt_zero _)
  | k + 1, s, at_, x6, x7, x8, x9, x10, x11, F, hk, hF, bi, sz => by
    obtain ⟨F, rfl⟩ : ∃ g, F = g + 1 := ⟨F - 1, by omega⟩
    have hat := bi_more bi w0 hf0 hb0
    have hpn : ∀ y ∈ s.L, PN R y.1 := fun y hy => wk_pn ok (bi.wk y hy).1
    have hlen : s.L.length ≤ 700001 := by
      have := bi_len bi (U := anU) fun y hy => mem_anU ok (hpn y hy).bd
      have h1 := anU_le
      have h2 : anU.length * (most + 1) ≤ 100000 * 7 := Nat.mul_le_mul h1 (by omega)
      omega
    obtain ⟨x, hx⟩ : ∃ x, s.L[at_]? = some x := ⟨_, List.getElem?_eq_getElem hat⟩
    have xm := List.mem_of_getElem? hx
    have pn := hpn x xm
    have ix : oIx (.ref 0) (.int (at_ : Int)) (shM s) = .ok (encE x, shM s) := oIx_ref (show (shM s)[0]? = some (.lst (s.L.map encE)) from rfl) (atI_nat (by rw [List.getElem?_map, hx]; rfl))
    have tst : shT [some R.enc, some (.bl c), some (.int most), some (.ref 0), some (.ref 1), some (.int at_), x6, x7, x8, x9, x10, x11] (shM s) = .ok (!(gbP R c).bad x.1, shM s) := by
      have i0 : oIx (encE x) (.int 0) (shM s) = .ok (x.1.enc, shM s) := rfl
      have al := alone_c ok pn.ao .ask (shM s)
      have ib : ∀ b v m, oIx (.tup [.bl b, v]) (.int 0) m = .ok (.bl b, m) := fun b v m => rfl
      simp only [AEv.enc, AEv.code] at al
      show shT _ _ = .ok (!(aloneN R x.1 .ask).1, _)
      generalize (aloneN R x.1 .ask).1 = bb at al ⊢
      unfold shT
      cases bb <;> simp [ix, i0, al, ib]
    cases hb : (gbP R c).bad x.1 with
    | true =>
      rw [hb] at tst
      exact ⟨s, at_, x, x6, x7, x8, x9, x10, x11, while_end tst, bi, sz, hx, hb, hlen⟩
    | false =>
      rw [hb] at tst
      have a1 : (sAsg (e2 oIx (eVar 3) (eVar 5)) (TT.gTup [6, 7, 8])) [some R.enc, some (.bl c), some (.int most), some (.ref 0), some (.ref 1), some (.int at_), x6, x7, x8, x9, x10, x11] (shM s) = .ok (.nx, [some R.enc, some (.bl c), some (.int most), some (.ref 0), some (.ref 1), some (.int at_), some x.1.enc, some (.int x.2.1), some (encP x.2.2), x9, x10, x11], shM s) := by
        unfold encE at ix
        simp [ix]
      have a2 : (sAsg (e2 oAdd (eVar 5) (eC (.int 1))) (TT.gName 5)) [some R.enc, some (.bl c), some (.int most), some (.ref 0), some (.ref 1), some (.int at_), some x.1.enc, some (.int x.2.1), some (encP x.2.2), x9, x10, x11] (shM s) = .ok (.nx, [some R.enc, some (.bl c), some (.int most), some (.ref 0), some (.ref 1), some (.int (at_ + 1 : Nat)), some x.1.enc, some (.int x.2.1), some (encP x.2.2), x9, x10, x11], shM s) := by
        simp
      obtain ⟨y9, y10, y11, l3, z3⟩ := sh_evs ok c most pn (some (.int (at_ + 1 : Nat))) evs6 s x9 x10 x11 sz (sz.p x xm) (by simp [evs6]; omega)
      have ex : evs6.foldl (stepP R c most x) s = expand (gbP R c) most s x := steps_eq R c most x evs6 s
      rw [ex] at l3 z3
      have a3 : (sFor (iT (e2 oAdd (eC c_SAFE) (eC c_FAULTS))) (TT.gName 9) shE) [some R.enc, some (.bl c), some (.int most), some (.ref 0), some (.ref 1), some (.int (at_ + 1 : Nat)), some x.1.enc, some (.int x.2.1), some (encP x.2.2), x9, x10, x11] (shM s) = .ok (.nx, [some R.enc, some (.bl c), some (.int most), some (.ref 0), some (.ref 1), some (.int (at_ + 1 : Nat)), some x.1.enc, some (.int x.2.1), some (encP x.2.2), y9, y10, y11], shM (expand (gbP R c) most s x)) := by
        have it : iT (e2 oAdd (eC c_SAFE) (eC c_FAULTS)) [some R.enc, some (.bl c), some (.int most), some (.ref 0), some (.ref 1), some (.int (at_ + 1 : Nat)), some x.1.enc, some (.int x.2.1), some (encP x.2.2), x9, x10, x11] (shM s) = .ok (evs6.map AEv.enc, shM s) := rfl
        rw [sFor_ap, it, Rs.bind_ok]; exact l3
      have hbody : shB [some R.enc, some (.bl c), some (.int most), some (.ref 0), some (.ref 1), some (.int at_), x6, x7, x8, x9, x10, x11] (shM s) = .ok (.nx, [some R.enc, some (.bl c), some (.int most), some (.ref 0), some (.ref 1), some (.int (at_ + 1 : Nat)), some x.1.enc, some (.int x.2.1), some (encP x.2.2), y9, y10, y11], shM (expand (gbP R c) most s x)) := by
        unfold shB
        rw [seq_nx a1, seq_nx a2, a3]
      rw [while_step tst (.inl hbody)]
      exact sh_loop ok c hm w0 hf0 hb0 k (expand (gbP R c) most s x) (at_ + 1) _ _ _ _ _ _ F (by omega) (by omega) (expand_ok bi hx hb) z3
/-- what it tells: a way to a refusal, as short as any with so few faults -/
theorem shortest_ok {R : Rule} (ok : R.Ok) (c : Bool) {most : Nat} (hm : most ≤ 6) {n0 : An} {f0 : Nat} {p0 : List AEv} (w0 : Wlk (gbP R c) n0 f0 p0) (hf0 : f0 ≤ most) (hb0 : (gbP R c).bad n0 = true) :
    ∃ (p : List AEv) (n : An) (f : Nat), f_shortest [R.enc, .bl c, .int most] = .ok (encP (p ++ [.ask])) ∧ Wlk (gbP R c) n f p ∧ f ≤ most ∧ (gbP R c).bad n = true ∧ ∀ n' f' p', Wlk (gbP R c) n' f' p' → f' ≤ most → (gbP R c).bad n' = true → p.length ≤ p'.length := by
  obtain ⟨s', at', x, y6, y7, y8, y9, y10, y11, h1, h2, h3, h4, h5, h6⟩ := sh_loop ok c hm w0 hf0 hb0 800001 ⟨[(firstA R, 0, [])], []⟩ 0 none none none none none none FUEL (by omega) (by unfold FUEL; omega) bi_start ⟨Nat.zero_le _, fun y hy => by cases List.mem_singleton.mp hy; exact Nat.zero_le _⟩
  have xm := List.mem_of_getElem? h4
  obtain ⟨q1, q2⟩ := h2.wk x xm
  refine ⟨x.2.2, x.1, x.2.1, ?_, q1, q2, h5, fun n' f' p' w hf hb => bi_first h2 h4 w hf hb⟩
  have a1 : (sPar3 3 4 5 (aCons (eLstM (aCons (eTup (aCons (eN (cP f_first_node) (aCons (eVar 0) aNil)) (aCons (eC (.int 0)) (aCons (eTup aNil) aNil)))) aNil)) (aCons eKNew (aCons (eC (.int 0)) aNil)))) [some R.enc, some (.bl c), some (.int most), none, none, none, none, none, none, none, none, none] [] = .ok (.nx, [some R.enc, some (.bl c), some (.int most), some (.ref 0), some (.ref 1), some (.int (0 : Nat)), none, none, none, none, none, none], shM ⟨[(firstA R, 0, [])], []⟩) := by
    have f1 := fun m => first_node_ok ok m
    have kn : ∀ s m, eKNew s m = .ok (.ref m.length, m ++ [.kd []]) := fun s m => rfl
    simp [f1, kn]
    rfl
  have ix : oIx (.ref 0) (.int (at' : Int)) (shM s') = .ok (encE x, shM s') := oIx_ref (show (shM s')[0]? = some (.lst (s'.L.map encE)) from rfl) (atI_nat (by rw [List.getElem?_map, h4]; rfl))
  have i2 : oIx (encE x) (.int 2) (shM s') = .ok (encP x.2.2, shM s') := rfl
  have ad : oAdd (encP x.2.2) (.tup [.str [97, 33]]) (shM s') = .ok (encP (x.2.2 ++ [.ask]), shM s') := by
    have hp := h3.p x xm
    have : x.2.2.length + 1 ≤ LINE := line_small (by omega)
    simp [oAdd, look1, encP, this, AEv.lenc, AEv.lcode, AEv.code]
  have b : bodyI 12 3 s_shortest [R.enc, .bl c, .int most] [] = .ok (encP (x.2.2 ++ [.ask]), shM s') := by
    unfold bodyI
    rw [if_pos (show [R.enc, PV.bl c, PV.int most].length = 3 from rfl), sh_eq]
    have e1 : startS 12 [R.enc, PV.bl c, PV.int most] = [some R.enc, some (.bl c), some (.int most), none, none, none, none, none, none, none, none, none] := rfl
    have a2 : (sWhile shT shB) [some R.enc, some (.bl c), some (.int most), some (.ref 0), some (.ref 1), some (.int (0 : Nat)), none, none, none, none, none, none] (shM ⟨[(firstA R, 0, [])], []⟩) = _ := h1
    rw [e1, seq_nx a1, seq_nx a2]
    simp [ix, i2, ad, endF]
  refine body_fin b ?_
  unfold encP
  show pus _ = true
  have : ∀ l : List AEv, pus (l.map AEv.lenc) = true := fun l => by
    induction l with
    | nil => rfl
    | cons e l ih => simp [lenc_pu, ih]
  exact this _
end TT
end

section
set_option linter.all false
set_option autoImplicit false
namespace TT
/-! ### the shortest, by the law -/
def evsL (b : LN) : List AEv := [.ask, .tick, .drop, .late] ++ if b.an.wait.isSome = true then [.got] else []
def mvL (R : Rule) (c : Bool) (b : LN) : List (AEv × LN × Nat) := (evsL b).map fun e => (e, lstep R c b e, costE e)
def gbL (R : Rule) (c : Bool) : Bg LN AEv := ⟨⟨firstA R, true⟩, mvL R c, fun b => (aloneN R b.an .ask).1⟩
abbrev Wn := En LN AEv × Wd
structure Wv (R : Rule) (y : Wn) : Prop where
  lw : Lw R y.1.1 y.2
  bd : ABd R y.1.1.an
  le : y.2.srv.newest ≤ y.1.2.2.length
theorem Wv.pl {R : Rule} {y : Wn} (h : Wv R y) : PL R y.1.1 := lw_pl h.lw h.bd
structure Ws where
  E : List Wn
  K : List (LN × Nat)
def Ws.s (S : Ws) : Bs LN AEv := ⟨S.E.map (·.1), S.K⟩
def goW (R : Rule) (c : Bool) (x : Wn) (e : AEv) : Wn := ((lstep R c x.1.1 e, x.1.2.1 + costE e, x.1.2.2 ++ [e]), (tryL R c x.2 e).2)
def pushW (R : Rule) (c : Bool) (most : Nat) (x : Wn) (S : Ws) (e : AEv) : Ws :=
  if x.1.2.1 + costE e ≤ most ∧ x.1.2.1 + costE e < (dget S.K (lstep R c x.1.1 e)).getD (most + 1) then ⟨S.E ++ [goW R c x e], dput S.K (lstep R c x.1.1 e) (x.1.2.1 + costE e)⟩ else S
theorem pushW_s (R : Rule) (c : Bool) (most : Nat) (x : Wn) (S : Ws) (e : AEv) : (pushW R c most x S e).s = push most x.1 S.s (e, lstep R c x.1.1 e, costE e) := by
  unfold pushW push Ws.s
  simp only
  by_cases h : x.1.2.1 + costE e ≤ most ∧ x.1.2.1 + costE e < (dget S.K (lstep R c x.1.1 e)).getD (most + 1)
  · rw [if_pos h, if_pos h]; simp [goW]
  · rw [if_neg h, if_neg h]
theorem pushesW_s (R : Rule) (c : Bool) (most : Nat) (x : Wn) : ∀ (es : List AEv) (S : Ws), (es.foldl (pushW R c most x) S).s = (es.map fun e => (e, lstep R c x.1.1 e, costE e)).foldl (push most x.1) S.s
  | [], _ => rfl
  | e :: es, S => by
    rw [List.foldl_cons, pushesW_s R c most x es, pushW_s, List.map_cons, List.foldl_cons]
theorem expandW_s (R : Rule) (c : Bool) (most : Nat) (x : Wn) (S : Ws) : ((evsL x.1.1).foldl (pushW R c most x) S).s = expand (gbL R c) most S.s x.1 := pushesW_s R c most x _ S
theorem got_of {b : LN} {e : AEv} (h : e ∈ evsL b) : e = .got → b.an.wait.isSome = true := fun z => by
  subst z
  by_cases hw : b.an.wait.isSome = true
  · exact hw
  · unfold evsL at h
    rw [if_neg hw] at h
    simp at h
theorem wv_go {R : Rule} (ok : R.Ok) (c : Bool) {x : Wn} (h : Wv R x) (hb : (gbL R c).bad x.1.1 = false) {e : AEv} (he : e = .got → x.1.1.an.wait.isSome = true) : Wv R (goW R c x e) := by
  obtain ⟨h1, h2⟩ := lw_step ok c h.lw hb e he
  refine ⟨h1, abd_step ok c h.bd e, ?_⟩
  have := h.le
  show (tryL R c x.2 e).2.srv.newest ≤ ((x.1.2.2 ++ [e]).length : Nat)
  rw [List.length_append, List.length_singleton]
  omega
theorem wv_try {R : Rule} (c : Bool) {x : Wn} (h : Wv R x) (hp : x.1.2.2.length ≤ 1000) (e : AEv) (he : e = .got → x.1.1.an.wait.isSome = true) (m : Mm) :
    cP f_law_try [R.enc, x.2.V, e.lenc, .bl c] m = .ok (.tup [.bl (refusedL (tryL R c x.2 e).1), (tryL R c x.2 e).2.V], m) := by
  refine try_ok c (lw_wok h.lw (by have := h.le; omega)) e (fun z => ?_) m
  have := he z
  rcases h.lw.w with ⟨w1, _⟩ | ⟨sh, a, w1, _⟩
  · rw [w1] at this; cases this
  · rw [w1]; rfl
theorem waitW {R : Rule} {x : Wn} (h : Wv R x) : x.2.wait.isSome = x.1.1.an.wait.isSome := by
  rcases h.lw.w with ⟨w1, w2, _⟩ | ⟨sh, a, w1, w2, _⟩
  · rw [w1, w2]; rfl
  · rw [w1, w2]; rfl
def encNL (R : Rule) (K : List (LN × Nat)) : List (PV × PV) := K.map fun q => (lnV R q.1, .int q.2)
section
variable {R : Rule} {K : List (LN × Nat)}
theorem khas_l (hK : ∀ q ∈ K, PL R q.1) {n : LN} (hn : PL R n) : kHas (encNL R K) (lnV R n) = decide (n ∈ K.map (·.1)) := by
  unfold kHas encNL
  rw [List.any_map, Bool.eq_iff_iff, List.any_eq_true, decide_eq_true_eq]
  constructor
  · rintro ⟨q, hq, e⟩
    simp only [Function.comp, eqv_ln (hK q hq) hn, decide_eq_true_eq] at e
    exact List.mem_map.mpr ⟨q, hq, e⟩
  · intro h
    obtain ⟨q, hq, e⟩ := List.mem_map.mp h
    refine ⟨q, hq, ?_⟩
    show PV.eqv (lnV R q.1) (lnV R n) = true
    rw [eqv_ln (hK q hq) hn]; simp [e]
theorem kput_l (hK : ∀ q ∈ K, PL R q.1) {n : LN} (hn : PL R n) (v : Nat) : kPut (encNL R K) (lnV R n) (.int v) = encNL R (dput K n v) := by
  unfold kPut dput
  rw [khas_l hK hn]
  by_cases h : n ∈ K.map (·.1)
  · rw [if_pos (by simpa using h), if_pos h]
    unfold encNL
    rw [List.map_map, List.map_map]
    refine List.map_congr_left fun q hq => ?_
    show (if PV.eqv (lnV R q.1) (lnV R n) = true then (lnV R q.1, PV.int v) else (lnV R q.1, PV.int q.2)) = _
    rw [eqv_ln (hK q hq) hn]
    by_cases hq : q.1 = n <;> simp [hq]
  · rw [if_neg (by simpa using h), if_neg h]
    simp [encNL]
theorem kfind_l {n : LN} (hn : PL R n) : ∀ {K : List (LN × Nat)}, (∀ q ∈ K, PL R q.1) → kFind (encNL R K) (lnV R n) = (dget K n).map fun v => PV.int v
  | [], _ => rfl
  | q :: K, hK => by
    have ih := kfind_l hn (K := K) fun p hp => hK p (List.mem_cons_of_mem _ hp)
    unfold kFind encNL at ih ⊢
    rw [dget_cons, List.map_cons, List.find?_cons]
    show Option.map _ (match PV.eqv (lnV R q.1) (lnV R n) with | true => some (lnV R q.1, PV.int q.2) | false => _) = _
    rw [eqv_ln (hK q List.mem_cons_self) hn]
    by_cases hq : q.1 = n
    · simp [hq]
    · simp only [hq, decide_false, if_false]
      exact ih
end
theorem dget_mem {α : Type} [DecidableEq α] : ∀ {K : List (α × Nat)} {q : α × Nat}, q ∈ K → ∃ v, dget K q.1 = some v
  | p :: K, q, h => by
    rw [dget_cons]
    by_cases hq : p.1 = q.1
    · exact ⟨_, if_pos hq⟩
    · rw [if_neg hq]
      rcases List.mem_cons.mp h with z | z
      · exact absurd (by rw [z]) hq
      · exact dget_mem z
def encY (y : Wn) : PV := .tup [y.2.V, .int y.1.2.1]
def lhM (R : Rule) (K : List (LN × Nat)) (D : Mm) (T : List Wn) : Mm := .kd (encNL R K) :: D ++ [.lst (T.map encY)]
def lhP : SS := (sSeq (sAsg (eVar 10) (gKSub (eVar 4) (eVar 12)))
  (sExpr (eM .list mAppend (eVar 6) (aCons (eTup (aCons (eVar 11) (aCons (eVar 10) aNil))) aNil))))
def lhI : SS := (sSeq (sAsg (e2 oIx (eN (cP f_law_try) (aCons (eVar 0) (aCons (eVar 7) (aCons (eVar 9) (aCons (eVar 2) aNil))))) (eC (.int 1))) (TT.gName 11))
  (sSeq (sAsg (eN (cP f_law_node) (aCons (eVar 0) (aCons (eVar 11) aNil))) (TT.gName 12))
  (sIf (tV (e2 oGt (eKGetD (eVar 4) (eVar 12) (e2 oAdd (eVar 1) (eC (.int 1)))) (eVar 10))) lhP sSkip)))
def lhE : SS := (sSeq (sAsg (e2 oAdd (eVar 8) (eN fInt (aCons (e2 (oIn false) (eVar 9) (eLst (aCons (eC (.str [97, 45])) (aCons (eC (.str [97, 126])) aNil)))) aNil))) (TT.gName 10))
  (sIf (tV (e2 oLe (eVar 10) (eVar 1))) lhI sSkip))
def lhX : SS := (sIf (tT (e2 oIx (eN (cP f_law_try) (aCons (eVar 0) (aCons (eVar 7) (aCons (eC (.str [97, 33])) (aCons (eVar 2) aNil))))) (eC (.int 0)))) (sRet (eVar 5)) sSkip)
def lhV : SI := (iL (e2 oAdd (eLst (aCons (eC (.str [97, 33])) (aCons (eC (.str [46, 46])) (aCons (eC (.str [97, 45])) (aCons (eC (.str [97, 126])) aNil))))) (e2 oMul (eLst (aCons (eC (.str [97, 43])) aNil)) (eN fInt (aCons (e1 (oIs true .non) (e2 oIx (e2 oIx (eVar 7) (eC (.int 2))) (eC (.int 0)))) aNil)))))
def lhR : SS := (sSeq lhX (sFor lhV (TT.gName 9) lhE))
def lhL : SS := (sSeq (sAsg (eLstM aNil) (TT.gName 6))
  (sSeq (sFor (iL (eVar 3)) (TT.gTup [7, 8]) lhR)
  (sSeq (sFrz 6) (sAsg (eVar 6) (TT.gName 3)))))
theorem lh_eq : s_law_shortest = (sSeq (sAsg (eLst (aCons (eTup (aCons (eN (cP f_law_world) (aCons (eVar 0) aNil)) (aCons (eC (.int 0)) aNil))) aNil)) (TT.gName 3))
  (sSeq (sAsg eKNew (TT.gName 4))
  (sSeq (sFor (TT.iRng2 (eC (.int 1)) (eC (.int 40))) (TT.gName 5) lhL)
  (sRet (eC .non))))) := rfl
section
variable {R : Rule} {c : Bool} {most : Nat} {D : Mm}
theorem lhm_0 (K : List (LN × Nat)) (T : List Wn) : (lhM R K D T)[0]? = some (.kd (encNL R K)) := rfl
theorem lhm_t (K : List (LN × Nat)) (T : List Wn) : (lhM R K D T)[D.length + 1]? = some (.lst (T.map encY)) := by
  simp [lhM]
theorem lhm_set0 (K K' : List (LN × Nat)) (T : List Wn) : (lhM R K D T).set 0 (.kd (encNL R K')) = lhM R K' D T := rfl
theorem lhm_app (K : List (LN × Nat)) (T : List Wn) (y : Wn) (hl : T.length ≤ 900000) : mAppend (.ref (D.length + 1)) [encY y] (lhM R K D T) = .ok (.non, lhM R K D (T ++ [y])) := by
  rw [mAppend_ref (lhm_t K T) (by rw [List.length_map]; exact line_lt' (by omega))]
  simp [lhM, List.set_append]
theorem lhm_ty (K : List (LN × Nat)) (T : List Wn) : tyOk (lhM R K D T) .list (.ref (D.length + 1)) = true := by
  show (match (lhM R K D T)[D.length + 1]? with | some (.lst xs) => true | _ => false) = true
  rw [lhm_t]
/-- one event -/
theorem lh_ev (ok : R.Ok) {x : Wn} (hx : Wv R x) (hbad : (gbL R c).bad x.1.1 = false) (hp : x.1.2.2.length ≤ 900) (s3 s5 s10 s11 s12 : Option PV) (Q T : List Wn) (K : List (LN × Nat)) (hK : ∀ q ∈ K, PL R q.1) (hl : T.length ≤ 900000) (hk : K.length ≤ 900000) {e : AEv} (he : e ∈ evsL x.1.1) :
    ∃ y10 y11 y12 T', pushW R c most x ⟨Q ++ T, K⟩ e = ⟨Q ++ T', (pushW R c most x ⟨Q ++ T, K⟩ e).K⟩ ∧ (∀ y ∈ T', y ∈ T ∨ y = goW R c x e) ∧ T'.length ≤ T.length + 1 ∧ (pushW R c most x ⟨Q ++ T, K⟩ e).K.length ≤ K.length + 1 ∧ (∀ q ∈ (pushW R c most x ⟨Q ++ T, K⟩ e).K, PL R q.1) ∧
      lhE [some R.enc, some (.int most), some (.bl c), s3, some (.ref 0), s5, some (.ref (D.length + 1)), some x.2.V, some (.int x.1.2.1), some e.lenc, s10, s11, s12] (lhM R K D T) = .ok (.nx, [some R.enc, some (.int most), some (.bl c), s3, some (.ref 0), s5, some (.ref (D.length + 1)), some x.2.V, some (.int x.1.2.1), some e.lenc, y10, y11, y12], lhM R (pushW R c most x ⟨Q ++ T, K⟩ e).K D T') := by
  have hg := got_of he
  have gw := wv_go ok c hx hbad hg
  have pl : PL R (lstep R c x.1.1 e) := gw.pl
  obtain ⟨⟨b, f, p⟩, w⟩ := x
  simp only at hbad hp hg pl ⊢
  have a1 : (sAsg (e2 oAdd (eVar 8) (eN fInt (aCons (e2 (oIn false) (eVar 9) (eLst (aCons (eC (.str [97, 45])) (aCons (eC (.str [97, 126])) aNil)))) aNil))) (TT.gName 10)) [some R.enc, some (.int most), some (.bl c), s3, some (.ref 0), s5, some (.ref (D.length + 1)), some w.V, some (.int f), some e.lenc, s10, s11, s12] (lhM R K D T) = .ok (.nx, [some R.enc, some (.int most), some (.bl c), s3, some (.ref 0), s5, some (.ref (D.length + 1)), some w.V, some (.int f), some e.lenc, some (.int (f + costE e : Nat)), s11, s12], lhM R K D T) := by
    have i1 : ∀ m, oIn false e.lenc (.vl [.str [97, 45], .str [97, 126]]) m = .ok (.bl (decide (e = .drop ∨ e = .late)), m) := fun m => by cases e <;> rfl
    have i3 : b2i (decide (e = .drop) || decide (e = .late)) = ((costE e : Nat) : Int) := by cases e <;> rfl
    simp [i1, i3]
  have i5 : ∀ m, oLe (.int (f + costE e : Nat)) (.int most) m = .ok (.bl (decide (f + costE e ≤ most)), m) := fun m => by
    rw [oLe_int]; simp only [Int.ofNat_le]
  unfold lhE
  rw [seq_nx a1]
  by_cases hle : f + costE e ≤ most
  · rw [decide_eq_true hle] at i5
    have tr := wv_try c hx (by show p.length ≤ 1000; omega) e hg (lhM R K D T)
    simp only at tr
    have nd := ln_ok ok gw.lw (lhM R K D T)
    have nd : cP f_law_node [R.enc, (tryL R c w e).2.V] (lhM R K D T) = .ok (lnV R (lstep R c b e), lhM R K D T) := nd
    have ix1 : ∀ u v m, oIx (.tup [u, v]) (.int 1) m = .ok (v, m) := fun u v m => rfl
    obtain ⟨k, hk'⟩ : ∃ k, k = lstep R c b e := ⟨_, rfl⟩
    rw [← hk'] at nd pl
    obtain ⟨w', hw'⟩ : ∃ w', w' = (tryL R c w e).2 := ⟨_, rfl⟩
    rw [← hw'] at nd tr
    have b1 : (sAsg (e2 oIx (eN (cP f_law_try) (aCons (eVar 0) (aCons (eVar 7) (aCons (eVar 9) (aCons (eVar 2) aNil))))) (eC (.int 1))) (TT.gName 11)) [some R.enc, some (.int most), some (.bl c), s3, some (.ref 0), s5, some (.ref (D.length + 1)), some w.V, some (.int f), some e.lenc, some (.int (f + costE e : Nat)), s11, s12] (lhM R K D T) = .ok (.nx, [some R.enc, some (.int most), some (.bl c), s3, some (.ref 0), s5, some (.ref (D.length + 1)), some w.V, some (.int f), some e.lenc, some (.int (f + costE e : Nat)), some w'.V, s12], lhM R K D T) := by
      simp [tr, ix1]
    have b2 : (sAsg (eN (cP f_law_node) (aCons (eVar 0) (aCons (eVar 11) aNil))) (TT.gName 12)) [some R.enc, some (.int most), some (.bl c), s3, some (.ref 0), s5, some (.ref (D.length + 1)), some w.V, some (.int f), some e.lenc, some (.int (f + costE e : Nat)), some w'.V, s12] (lhM R K D T) = .ok (.nx, [some R.enc, some (.int most), some (.bl c), s3, some (.ref 0), s5, some (.ref (D.length + 1)), some w.V, some (.int f), some e.lenc, some (.int (f + costE e : Nat)), some w'.V, some (lnV R k)], lhM R K D T) := by
      simp [nd]
    have kg : (eKGetD (eVar 4) (eVar 12) (e2 oAdd (eVar 1) (eC (.int 1)))) [some R.enc, some (.int most), some (.bl c), s3, some (.ref 0), s5, some (.ref (D.length + 1)), some w.V, some (.int f), some e.lenc, some (.int (f + costE e : Nat)), some w'.V, some (lnV R k)] (lhM R K D T) = .ok (.int ((dget K k).getD (most + 1) : Nat), lhM R K D T) := by
      have q := kget_ap (fd := eVar 4) (fk := eVar 12) (fx := e2 oAdd (eVar 1) (eC (.int 1))) (s := [some R.enc, some (.int most), some (.bl c), s3, some (.ref 0), s5, some (.ref (D.length + 1)), some w.V, some (.int f), some e.lenc, some (.int (f + costE e : Nat)), some w'.V, some (lnV R k)]) (m := lhM R K D T) (n := 0) (k := lnV R k) (x := .int (most + 1 : Nat)) rfl rfl (by simp) (kd_of (lhm_0 K T)) (lnV_tup R k) (lnV_ky R k)
      rw [q, kfind_l pl hK]
      cases dget K k <;> rfl
    have gt : oGt (.int ((dget K k).getD (most + 1) : Nat)) (.int (f + costE e : Nat)) (lhM R K D T) = .ok (.bl (decide (f + costE e < (dget K k).getD (most + 1))), lhM R K D T) := by
      rw [oGt_int]; simp only [gt_iff_lt, Int.ofNat_lt]
    have ev : pushW R c most ((b, f, p), w) ⟨Q ++ T, K⟩ e = if f + costE e ≤ most ∧ f + costE e < (dget K k).getD (most + 1) then ⟨Q ++ T ++ [goW R c ((b, f, p), w) e], dput K k (f + costE e)⟩ else ⟨Q ++ T, K⟩ := by
      rw [hk']; rfl
    have run : ∀ (y10 y11 y12 : Option PV) (M' : Mm), (sIf (tV (e2 oGt (eKGetD (eVar 4) (eVar 12) (e2 oAdd (eVar 1) (eC (.int 1)))) (eVar 10))) lhP sSkip) [some R.enc, some (.int most), some (.bl c), s3, some (.ref 0), s5, some (.ref (D.length + 1)), some w.V, some (.int f), some e.lenc, some (.int (f + costE e : Nat)), some w'.V, some (lnV R k)] (lhM R K D T) = .ok (.nx, [some R.enc, some (.int most), some (.bl c), s3, some (.ref 0), s5, some (.ref (D.length + 1)), some w.V, some (.int f), some e.lenc, y10, y11, y12], M') →
        (sIf (tV (e2 oLe (eVar 10) (eVar 1))) lhI sSkip) [some R.enc, some (.int most), some (.bl c), s3, some (.ref 0), s5, some (.ref (D.length + 1)), some w.V, some (.int f), some e.lenc, some (.int (f + costE e : Nat)), s11, s12] (lhM R K D T) = .ok (.nx, [some R.enc, some (.int most), some (.bl c), s3, some (.ref 0), s5, some (.ref (D.length + 1)), some w.V, some (.int f), some e.lenc, y10, y11, y12], M') := fun y10 y11 y12 M' h => by
      have b4 : lhI [some R.enc, some (.int most), some (.bl c), s3, some (.ref 0), s5, some (.ref (D.length + 1)), some w.V, some (.int f), some e.lenc, some (.int (f + costE e : Nat)), s11, s12] (lhM R K D T) = .ok (.nx, [some R.enc, some (.int most), some (.bl c), s3, some (.ref 0), s5, some (.ref (D.length + 1)), some w.V, some (.int f), some e.lenc, y10, y11, y12], M') := by
        unfold lhI
        rw [seq_nx b1, seq_nx b2]; exact h
      generalize lhI = LI at b4
      generalize ((f + costE e : Nat) : Int) = A at b4 i5 ⊢
      simp [i5, b4]
    rw [ev]
    by_cases hlt : f + costE e < (dget K k).getD (most + 1)
    · rw [if_pos ⟨hle, hlt⟩]
      rw [decide_eq_true hlt] at gt
      refine ⟨some (.int (f + costE e : Nat)), some w'.V, some (lnV R k), T ++ [goW R c ((b, f, p), w) e], by rw [List.append_assoc], fun y hy => ?_, by simp, ?_, fun q hq => ?_, run _ _ _ _ ?_⟩
      · rcases List.mem_append.mp hy with hy | hy
        · exact .inl hy
        · exact .inr (List.mem_singleton.mp hy)
      · show (dput K k (f + costE e)).length ≤ _
        unfold dput
        split
        · rw [List.length_map]; omega
        · rw [List.length_append, List.length_singleton]; omega
      · have hq : q ∈ dput K k (f + costE e) := hq
        unfold dput at hq
        split at hq
        · obtain ⟨r, hr, rfl⟩ := List.mem_map.mp hq
          split
          · exact hK r hr
          · exact hK r hr
        · rcases List.mem_append.mp hq with hq | hq
          · exact hK q hq
          · cases List.mem_singleton.mp hq; exact pl
      · have st := kset_ap (v := .int (f + costE e : Nat)) (lhm_0 (R := R) (D := D) K T) (lnV_tup R k) (lnV_ky R k) (by unfold encNL; rw [List.length_map]; exact line_lt' (by omega))
        rw [kput_l hK pl, lhm_set0] at st
        have ap := lhm_app (R := R) (D := D) (dput K k (f + costE e)) T (goW R c ((b, f, p), w) e) hl
        have ty := lhm_ty (R := R) (D := D) (dput K k (f + costE e)) T
        have en : encY (goW R c ((b, f, p), w) e) = .tup [w'.V, .int (f + costE e : Nat)] := by rw [hw']; rfl
        rw [en] at ap
        show _ = Rs.ok (_, _, lhM R (dput K k (f + costE e)) D (T ++ [goW R c ((b, f, p), w) e]))
        generalize lhM R (dput K k (f + costE e)) D (T ++ [goW R c ((b, f, p), w) e]) = M3 at ap ⊢
        generalize lhM R (dput K k (f + costE e)) D T = M2 at st ap ty
        generalize lhM R K D T = M at *
        generalize (eKGetD (eVar 4) (eVar 12) (e2 oAdd (eVar 1) (eC (.int 1)))) = KG at kg
        generalize ((f + costE e : Nat) : Int) = A at kg gt st ap ⊢
        simp [kg, gt, lhP, gKSub, st, ty, ap]
    · rw [if_neg (fun z => hlt z.2)]
      rw [decide_eq_false hlt] at gt
      refine ⟨some (.int (f + costE e : Nat)), some w'.V, some (lnV R k), T, rfl, fun y hy => .inl hy, by omega, by show K.length ≤ K.length + 1; omega, hK, run _ _ _ _ ?_⟩
      generalize lhM R K D T = M at *
      generalize (eKGetD (eVar 4) (eVar 12) (e2 oAdd (eVar 1) (eC (.int 1)))) = KG at kg
      generalize ((f + costE e : Nat) : Int) = A at kg gt ⊢
      simp [kg, gt]
  · rw [decide_eq_false hle] at i5
    have ev : pushW R c most ((b, f, p), w) ⟨Q ++ T, K⟩ e = ⟨Q ++ T, K⟩ := if_neg fun z => hle z.1
    rw [ev]
    refine ⟨some (.int (f + costE e : Nat)), s11, s12, T, rfl, fun y hy => .inl hy, by omega, by show K.length ≤ K.length + 1; omega, hK, ?_⟩
    generalize ((f + costE e : Nat) : Int) = A at i5 ⊢
    simp [i5]
end
end TT
end

section
set_option linter.all false
set_option autoImplicit false
namespace TT
theorem sz_pushes {α ε : Type} [DecidableEq α] {most : Nat} {x : En α ε} : ∀ (vs : List (ε × α × Nat)) {s : Bs α ε}, Sz s → x.2.2.length ≤ s.L.length → Sz (vs.foldl (push most x) s)
  | [], _, h, _ => h
  | v :: vs, s, h, hx => by
    obtain ⟨a, b, _⟩ := sz_push (most := most) v h hx
    exact sz_pushes vs a (by omega)
section
variable {R : Rule} {c : Bool} {most : Nat} {D : Mm}
theorem lh_evs (ok : R.Ok) {x : Wn} (hx : Wv R x) (hbad : (gbL R c).bad x.1.1 = false) (hp : x.1.2.2.length ≤ 900) (s3 s5 : Option PV) (Q : List Wn) : ∀ (es : List AEv) (T : List Wn) (K : List (LN × Nat)) (s9 s10 s11 s12 : Option PV), (∀ e ∈ es, e ∈ evsL x.1.1) → (∀ q ∈ K, PL R q.1) → T.length + es.length ≤ 900000 → K.length + es.length ≤ 900000 →
    ∃ y9 y10 y11 y12 T' K', es.foldl (pushW R c most x) ⟨Q ++ T, K⟩ = ⟨Q ++ T', K'⟩ ∧ (∀ y ∈ T', y ∈ T ∨ ∃ e ∈ es, y = goW R c x e) ∧ (∀ q ∈ K', PL R q.1) ∧
      forL (gName 9) lhE (es.map AEv.lenc) [some R.enc, some (.int most), some (.bl c), s3, some (.ref 0), s5, some (.ref (D.length + 1)), some x.2.V, some (.int x.1.2.1), s9, s10, s11, s12] (lhM R K D T) = .ok (.nx, [some R.enc, some (.int most), some (.bl c), s3, some (.ref 0), s5, some (.ref (D.length + 1)), some x.2.V, some (.int x.1.2.1), y9, y10, y11, y12], lhM R K' D T')
  | [], T, K, s9, s10, s11, s12, _, hK, _, _ => ⟨s9, s10, s11, s12, T, K, rfl, fun y h => .inl h, hK, rfl⟩
  | e :: es, T, K, s9, s10, s11, s12, he, hK, h1, h2 => by
    simp only [List.length_cons] at h1 h2
    obtain ⟨z10, z11, z12, T1, q1, q2, q3, q4, q5, q6⟩ := lh_ev (c := c) (most := most) (D := D) ok hx hbad hp s3 s5 s10 s11 s12 Q T K hK (by omega) (by omega) (he e List.mem_cons_self)
    obtain ⟨K1, hK1⟩ : ∃ K1, K1 = (pushW R c most x ⟨Q ++ T, K⟩ e).K := ⟨_, rfl⟩
    rw [← hK1] at q1 q4 q5 q6
    obtain ⟨y9, y10, y11, y12, T', K', r1, r2, r3, r4⟩ := lh_evs ok hx hbad hp s3 s5 Q es T1 K1 (some e.lenc) z10 z11 z12 (fun e' h => he e' (List.mem_cons_of_mem _ h)) q5 (by omega) (by omega)
    refine ⟨y9, y10, y11, y12, T', K', by rw [List.foldl_cons, q1]; exact r1, fun y hy => ?_, r3, ?_⟩
    · rcases r2 y hy with z | ⟨e', h', z⟩
      · rcases q2 y z with z | z
        · exact .inl z
        · exact .inr ⟨e, List.mem_cons_self, z⟩
      · exact .inr ⟨e', List.mem_cons_of_mem _ h', z⟩
    · rw [List.map_cons, forL_cons]
      simp only [gName_ap, Rs.bind_ok]
      show Rs.bind (lhE [some R.enc, some (.int most), some (.bl c), s3, some (.ref 0), s5, some (.ref (D.length + 1)), some x.2.V, some (.int x.1.2.1), some e.lenc, s10, s11, s12] (lhM R K D T)) _ = _
      rw [q6]
      simp only [Rs.bind_ok]
      exact r4
/-- a row that is not bad, its events -/
theorem lh_list {x : Wn} (hx : Wv R x) (s : Sl) (hs : s[7]? = some (some x.2.V)) (m : Mm) : lhV s m = .ok ((evsL x.1.1).map AEv.lenc, m) := by
  have i2 : ∀ m, oIx x.2.V (.int 2) m = .ok (.vl [encW x.2.wait, .non], m) := fun m => rfl
  have i0 : ∀ m, oIx (.vl [encW x.2.wait, .non]) (.int 0) m = .ok (encW x.2.wait, m) := fun m => rfl
  have iw : ∀ m, oIs true .non (encW x.2.wait) m = .ok (.bl x.1.1.an.wait.isSome, m) := fun m => by
    rw [← waitW hx]
    cases x.2.wait <;> rfl
  unfold lhV evsL
  cases hw : x.1.1.an.wait.isSome with
  | true =>
    rw [hw] at iw
    have mu : ∀ m, oMul (.vl [.str [97, 43]]) (.int 1) m = .ok (.vl [.str [97, 43]], m) := fun m => rfl
    have ad : ∀ m, oAdd (.vl [.str [97, 33], .str [46, 46], .str [97, 45], .str [97, 126]]) (.vl [.str [97, 43]]) m = .ok (.vl [.str [97, 33], .str [46, 46], .str [97, 45], .str [97, 126], .str [97, 43]], m) := fun m => rfl
    simp [hs, i2, i0, iw, mu, ad, b2i]
    simp [AEv.lenc, AEv.lcode, AEv.code]
  | false =>
    rw [hw] at iw
    have mu : ∀ m, oMul (.vl [.str [97, 43]]) (.int 0) m = .ok (.vl [], m) := fun m => rfl
    have ad : ∀ m, oAdd (.vl [.str [97, 33], .str [46, 46], .str [97, 45], .str [97, 126]]) (.vl []) m = .ok (.vl [.str [97, 33], .str [46, 46], .str [97, 45], .str [97, 126]], m) := fun m => rfl
    simp [hs, i2, i0, iw, mu, ad, b2i]
    simp [AEv.lenc, AEv.lcode, AEv.code]
theorem lh_rows (ok : R.Ok) (ez : R.leeway = none ∨ R.spare = none) (hm : most ≤ 6) {d : Nat} (hd : d ≤ 40) (s3 : Option PV) {Q : List Wn} (hQ : ∀ y ∈ Q, Wv R y) : ∀ (Rw P T : List Wn) (K : List (LN × Nat)) (s7 s8 s9 s10 s11 s12 : Option PV), Q = P ++ Rw → Bi (gbL R c) most ⟨(Q ++ T).map (·.1), K⟩ P.length → Sz (⟨(Q ++ T).map (·.1), K⟩ : Bs LN AEv) → (∀ y ∈ T, Wv R y) → (∀ q ∈ K, PL R q.1) → (∀ y ∈ Rw, y.1.2.2.length = d) → (∀ y ∈ T, y.1.2.2.length = d + 1) →
    (∃ P' x Rw' T' K' s' m', Q = P' ++ x :: Rw' ∧ Bi (gbL R c) most ⟨(Q ++ T').map (·.1), K'⟩ P'.length ∧ (gbL R c).bad x.1.1 = true ∧ x.1.2.2.length = d ∧
      forL (TT.gTup [7, 8]) lhR (Rw.map encY) [some R.enc, some (.int most), some (.bl c), s3, some (.ref 0), some (.int (d + 1 : Nat)), some (.ref (D.length + 1)), s7, s8, s9, s10, s11, s12] (lhM R K D T) = .ok (.rt (.int (d + 1 : Nat)), s', m')) ∨
    (∃ T' K' y7 y8 y9 y10 y11 y12, Bi (gbL R c) most ⟨(Q ++ T').map (·.1), K'⟩ Q.length ∧ Sz (⟨(Q ++ T').map (·.1), K'⟩ : Bs LN AEv) ∧ (∀ y ∈ T', Wv R y) ∧ (∀ q ∈ K', PL R q.1) ∧ (∀ y ∈ T', y.1.2.2.length = d + 1) ∧
      forL (TT.gTup [7, 8]) lhR (Rw.map encY) [some R.enc, some (.int most), some (.bl c), s3, some (.ref 0), some (.int (d + 1 : Nat)), some (.ref (D.length + 1)), s7, s8, s9, s10, s11, s12] (lhM R K D T) = .ok (.nx, [some R.enc, some (.int most), some (.bl c), s3, some (.ref 0), some (.int (d + 1 : Nat)), some (.ref (D.length + 1)), y7, y8, y9, y10, y11, y12], lhM R K' D T'))
  | [], P, T, K, s7, s8, s9, s10, s11, s12, hPQ, bi, sz, hT, hK, _, hTd => .inr ⟨T, K, s7, s8, s9, s10, s11, s12, by rw [hPQ, List.append_nil] at bi ⊢; exact bi, sz, hT, hK, hTd, rfl⟩
  | x :: Rw, P, T, K, s7, s8, s9, s10, s11, s12, hPQ, bi, sz, hT, hK, hRd, hTd => by
    have xQ : x ∈ Q := by rw [hPQ]; simp
    have wx := hQ x xQ
    have xd := hRd x List.mem_cons_self
    have hxL : ((Q ++ T).map (·.1))[P.length]? = some x.1 := by
      rw [hPQ, List.getElem?_map]
      simp
    have all : ∀ y ∈ Q ++ T, Wv R y := fun y hy => (List.mem_append.mp hy).elim (hQ y) (hT y)
    have len : ((Q ++ T).map (·.1)).length ≤ 21169 := by
      have := bi_len bi (U := lnU R) fun y hy => by
        obtain ⟨z, hz, rfl⟩ := List.mem_map.mp hy
        exact mem_lnU ok ez (all z hz).pl
      have h1 := lnU_le R
      have h2 : (lnU R).length * (most + 1) ≤ 3024 * 7 := Nat.mul_le_mul h1 (by omega)
      show ((Q ++ T).map (·.1)).length ≤ _
      have this : ((Q ++ T).map (·.1)).length ≤ 1 + (lnU R).length * (most + 1) := this
      omega
    have kl : K.length ≤ 21169 := Nat.le_trans sz.k len
    have tl : T.length ≤ 21169 := by
      rw [List.length_map, List.length_append] at len; omega
    have tr := wv_try c wx (by omega) .ask (fun z => nomatch z) (lhM R K D T)
    rw [lw_bad ok c wx.lw] at tr
    have tr : cP f_law_try [R.enc, x.2.V, AEv.ask.lenc, .bl c] (lhM R K D T) = .ok (.tup [.bl ((gbL R c).bad x.1.1), (tryL R c x.2 .ask).2.V], lhM R K D T) := tr
    simp only [AEv.lenc, AEv.lcode, AEv.code] at tr
    have ib : ∀ b v m, oIx (.tup [.bl b, v]) (.int 0) m = .ok (.bl b, m) := fun b v m => rfl
    have gt : TT.gTup [7, 8] (encY x) [some R.enc, some (.int most), some (.bl c), s3, some (.ref 0), some (.int (d + 1 : Nat)), some (.ref (D.length + 1)), s7, s8, s9, s10, s11, s12] (lhM R K D T) = .ok ([some R.enc, some (.int most), some (.bl c), s3, some (.ref 0), some (.int (d + 1 : Nat)), some (.ref (D.length + 1)), some x.2.V, some (.int x.1.2.1), s9, s10, s11, s12], lhM R K D T) := rfl
    rw [List.map_cons, forL_cons, gt, Rs.bind_ok]
    show (∃ P' x' Rw' T' K' s' m', _ ∧ _ ∧ _ ∧ _ ∧ Rs.bind (lhR [some R.enc, some (.int most), some (.bl c), s3, some (.ref 0), some (.int (d + 1 : Nat)), some (.ref (D.length + 1)), some x.2.V, some (.int x.1.2.1), s9, s10, s11, s12] (lhM R K D T)) _ = _) ∨ (∃ T' K' y7 y8 y9 y10 y11 y12, _ ∧ _ ∧ _ ∧ _ ∧ _ ∧ Rs.bind (lhR [some R.enc, some (.int most), some (.bl c), s3, some (.ref 0), some (.int (d + 1 : Nat)), some (.ref (D.length + 1)), some x.2.V, some (.int x.1.2.1), s9, s10, s11, s12] (lhM R K D T)) _ = _)
    cases hb : (gbL R c).bad x.1.1 with
    | true =>
      rw [hb] at tr
      have a1 : lhX [some R.enc, some (.int most), some (.bl c), s3, some (.ref 0), some (.int (d + 1 : Nat)), some (.ref (D.length + 1)), some x.2.V, some (.int x.1.2.1), s9, s10, s11, s12] (lhM R K D T) = .ok (.rt (.int (d + 1 : Nat)), [some R.enc, some (.int most), some (.bl c), s3, some (.ref 0), some (.int (d + 1 : Nat)), some (.ref (D.length + 1)), some x.2.V, some (.int x.1.2.1), s9, s10, s11, s12], lhM R K D T) := by
        generalize ((d + 1 : Nat) : Int) = A
        simp [lhX, tr, ib]
      refine .inl ⟨P, x, Rw, T, K, [some R.enc, some (.int most), some (.bl c), s3, some (.ref 0), some (.int (d + 1 : Nat)), some (.ref (D.length + 1)), some x.2.V, some (.int x.1.2.1), s9, s10, s11, s12], lhM R K D T, hPQ, bi, hb, xd, ?_⟩
      unfold lhR
      rw [seq_rt a1]; rfl
    | false =>
      rw [hb] at tr
      have a1 : lhX [some R.enc, some (.int most), some (.bl c), s3, some (.ref 0), some (.int (d + 1 : Nat)), some (.ref (D.length + 1)), some x.2.V, some (.int x.1.2.1), s9, s10, s11, s12] (lhM R K D T) = .ok (.nx, [some R.enc, some (.int most), some (.bl c), s3, some (.ref 0), some (.int (d + 1 : Nat)), some (.ref (D.length + 1)), some x.2.V, some (.int x.1.2.1), s9, s10, s11, s12], lhM R K D T) := by
        generalize ((d + 1 : Nat) : Int) = A
        simp [lhX, tr, ib]
      have el : (evsL x.1.1).length ≤ 5 := by unfold evsL; split <;> simp
      obtain ⟨y9, y10, y11, y12, T1, K1, q1, q2, q3, q4⟩ := lh_evs (c := c) (most := most) (D := D) ok wx hb (by omega) s3 (some (.int (d + 1 : Nat))) Q (evsL x.1.1) T K s9 s10 s11 s12 (fun e h => h) hK (by omega) (by omega)
      have ex := expandW_s R c most x ⟨Q ++ T, K⟩
      rw [q1] at ex
      have bi1 := expand_ok bi hxL hb
      have sz1 := sz_pushes (most := most) (x := x.1) ((gbL R c).mv x.1.1) sz (sz.p x.1 (List.mem_of_getElem? hxL))
      have ex : (⟨(Q ++ T1).map (·.1), K1⟩ : Bs LN AEv) = expand (gbL R c) most ⟨(Q ++ T).map (·.1), K⟩ x.1 := ex
      rw [← ex] at bi1
      have sz1 : Sz (expand (gbL R c) most ⟨(Q ++ T).map (·.1), K⟩ x.1) := sz1
      rw [← ex] at sz1
      have hT1 : ∀ y ∈ T1, Wv R y := fun y hy => by
        rcases q2 y hy with z | ⟨e, he, rfl⟩
        · exact hT y z
        · exact wv_go ok c wx hb (got_of he)
      have hT1d : ∀ y ∈ T1, y.1.2.2.length = d + 1 := fun y hy => by
        rcases q2 y hy with z | ⟨e, he, rfl⟩
        · exact hTd y z
        · show (x.1.2.2 ++ [e]).length = d + 1
          rw [List.length_append, xd]; rfl
      have a2 : lhR [some R.enc, some (.int most), some (.bl c), s3, some (.ref 0), some (.int (d + 1 : Nat)), some (.ref (D.length + 1)), some x.2.V, some (.int x.1.2.1), s9, s10, s11, s12] (lhM R K D T) = .ok (.nx, [some R.enc, some (.int most), some (.bl c), s3, some (.ref 0), some (.int (d + 1 : Nat)), some (.ref (D.length + 1)), some x.2.V, some (.int x.1.2.1), y9, y10, y11, y12], lhM R K1 D T1) := by
        unfold lhR
        rw [seq_nx a1, sFor_ap, lh_list wx _ rfl, Rs.bind_ok]
        exact q4
      rw [a2]
      simp only [Rs.bind_ok]
      rcases lh_rows ok ez hm hd s3 hQ Rw (P ++ [x]) T1 K1 (some x.2.V) (some (.int x.1.2.1)) y9 y10 y11 y12 (by rw [hPQ]; simp) (by rw [List.length_append, List.length_singleton]; exact bi1) sz1 hT1 q3 (fun y hy => hRd y (List.mem_cons_of_mem _ hy)) hT1d with h | h
      · exact .inl h
      · exact .inr h
end
end TT
end

section
set_option linter.all false
set_option autoImplicit false
namespace TT
section
variable {R : Rule} {c : Bool} {most : Nat}
theorem lh_levels (ok : R.Ok) (ez : R.leeway = none ∨ R.spare = none) (hm : most ≤ 6) {n0 : LN} {f0 : Nat} {p0 : List AEv} (w0 : Wlk (gbL R c) n0 f0 p0) (hf0 : f0 ≤ most) (hb0 : (gbL R c).bad n0 = true) (hp0 : p0.length ≤ 38) : ∀ (k d : Nat) (P Rw : List Wn) (K : List (LN × Nat)) (D : Mm) (s5 s6 s7 s8 s9 s10 s11 s12 : Option PV), d + k = 39 → Bi (gbL R c) most ⟨(P ++ Rw).map (·.1), K⟩ P.length → Sz (⟨(P ++ Rw).map (·.1), K⟩ : Bs LN AEv) → (∀ y ∈ P ++ Rw, Wv R y) → (∀ q ∈ K, PL R q.1) → (∀ y ∈ Rw, y.1.2.2.length = d) →
    ∃ d' s' m' n f p, forL (gName 5) lhL (rngL ((d + 1 : Nat) : Int) k) [some R.enc, some (.int most), some (.bl c), some (.vl (Rw.map encY)), some (.ref 0), s5, s6, s7, s8, s9, s10, s11, s12] (.kd (encNL R K) :: D) = .ok (.rt (.int (d' + 1 : Nat)), s', m') ∧
      Wlk (gbL R c) n f p ∧ f ≤ most ∧ (gbL R c).bad n = true ∧ p.length = d' ∧ ∀ n' f' p', Wlk (gbL R c) n' f' p' → f' ≤ most → (gbL R c).bad n' = true → d' ≤ p'.length
  | 0, d, P, Rw, K, D, s5, s6, s7, s8, s9, s10, s11, s12, hk, bi, sz, hw, hK, hd => by
    exfalso
    have idx : ∀ i y, ((P ++ Rw).map (·.1))[i]? = some y → y.2.2.length < 39 → i < P.length := fun i y hi hy => by
      by_cases h : i < P.length
      · exact h
      · rw [List.getElem?_map, List.getElem?_append_right (by omega)] at hi
        cases hr : Rw[i - P.length]? with
        | none => rw [hr] at hi; cases hi
        | some z =>
          rw [hr] at hi
          cases hi
          have q := hd z (List.mem_of_getElem? hr)
          have hy : z.1.2.2.length < 39 := hy
          omega
    obtain ⟨y, y1, y2, y3, y4⟩ := bi_all bi idx w0 hf0 (by omega)
    obtain ⟨i, hi⟩ := List.getElem?_of_mem y1
    obtain ⟨q1, _⟩ := bi.cl i y (idx i y hi (by omega)) hi
    rw [y2, hb0] at q1; cases q1
  | k + 1, d, P, Rw, K, D, s5, s6, s7, s8, s9, s10, s11, s12, hk, bi, sz, hw, hK, hd => by
    rw [rngL, forL_cons]
    simp only [gName_ap, Rs.bind_ok]
    show ∃ d' s' m' n f p, Rs.bind (lhL [some R.enc, some (.int most), some (.bl c), some (.vl (Rw.map encY)), some (.ref 0), some (.int (d + 1 : Nat)), s6, s7, s8, s9, s10, s11, s12] (.kd (encNL R K) :: D)) _ = _ ∧ _
    have a1 : (sAsg (eLstM aNil) (TT.gName 6)) [some R.enc, some (.int most), some (.bl c), some (.vl (Rw.map encY)), some (.ref 0), some (.int (d + 1 : Nat)), s6, s7, s8, s9, s10, s11, s12] (.kd (encNL R K) :: D) = .ok (.nx, [some R.enc, some (.int most), some (.bl c), some (.vl (Rw.map encY)), some (.ref 0), some (.int (d + 1 : Nat)), some (.ref (D.length + 1)), s7, s8, s9, s10, s11, s12], lhM R K D []) := by
      simp [lhM]
    have il : iL (eVar 3) [some R.enc, some (.int most), some (.bl c), some (.vl (Rw.map encY)), some (.ref 0), some (.int (d + 1 : Nat)), some (.ref (D.length + 1)), s7, s8, s9, s10, s11, s12] (lhM R K D []) = .ok (Rw.map encY, lhM R K D []) := rfl
    have hQ : ∀ y ∈ P ++ Rw, Wv R y := hw
    rcases lh_rows (c := c) (most := most) (D := D) ok ez hm (show d ≤ 40 by omega) (some (.vl (Rw.map encY))) hQ Rw P [] K s7 s8 s9 s10 s11 s12 rfl (by rw [List.append_nil]; exact bi) (by rw [List.append_nil]; exact sz) (fun y h => nomatch h) hK hd (fun y h => nomatch h) with ⟨P', x, Rw', T', K', s', m', h1, h2, h3, h4, h5⟩ | ⟨T', K', y7, y8, y9, y10, y11, y12, h1, h2, h3, h4, h5, h6⟩
    · have a2 : (sFor (iL (eVar 3)) (TT.gTup [7, 8]) lhR) [some R.enc, some (.int most), some (.bl c), some (.vl (Rw.map encY)), some (.ref 0), some (.int (d + 1 : Nat)), some (.ref (D.length + 1)), s7, s8, s9, s10, s11, s12] (lhM R K D []) = .ok (.rt (.int (d + 1 : Nat)), s', m') := by
        rw [sFor_ap, il, Rs.bind_ok]; exact h5
      have hx : (((P ++ Rw) ++ T').map (·.1))[P'.length]? = some x.1 := by
        rw [h1, List.getElem?_map]
        simp
      obtain ⟨q1, q2⟩ := h2.wk x.1 (List.mem_of_getElem? hx)
      refine ⟨d, s', m', x.1.1, x.1.2.1, x.1.2.2, ?_, q1, q2, h3, h4, fun n' f' p' w hf hb => ?_⟩
      · unfold lhL
        rw [seq_nx a1, seq_rt a2]; rfl
      · have := bi_first h2 hx w hf hb
        omega
    · have a2 : (sFor (iL (eVar 3)) (TT.gTup [7, 8]) lhR) [some R.enc, some (.int most), some (.bl c), some (.vl (Rw.map encY)), some (.ref 0), some (.int (d + 1 : Nat)), some (.ref (D.length + 1)), s7, s8, s9, s10, s11, s12] (lhM R K D []) = .ok (.nx, [some R.enc, some (.int most), some (.bl c), some (.vl (Rw.map encY)), some (.ref 0), some (.int (d + 1 : Nat)), some (.ref (D.length + 1)), y7, y8, y9, y10, y11, y12], lhM R K' D T') := by
        rw [sFor_ap, il, Rs.bind_ok]; exact h6
      have a3 : (sSeq (sFrz 6) (sAsg (eVar 6) (TT.gName 3))) [some R.enc, some (.int most), some (.bl c), some (.vl (Rw.map encY)), some (.ref 0), some (.int (d + 1 : Nat)), some (.ref (D.length + 1)), y7, y8, y9, y10, y11, y12] (lhM R K' D T') = .ok (.nx, [some R.enc, some (.int most), some (.bl c), some (.vl (T'.map encY)), some (.ref 0), some (.int (d + 1 : Nat)), some (.vl (T'.map encY)), y7, y8, y9, y10, y11, y12], .kd (encNL R K') :: (D ++ [.dead])) := by
        have b1 : (sFrz 6) [some R.enc, some (.int most), some (.bl c), some (.vl (Rw.map encY)), some (.ref 0), some (.int (d + 1 : Nat)), some (.ref (D.length + 1)), y7, y8, y9, y10, y11, y12] (lhM R K' D T') = .ok (.nx, [some R.enc, some (.int most), some (.bl c), some (.vl (Rw.map encY)), some (.ref 0), some (.int (d + 1 : Nat)), some (.vl (T'.map encY)), y7, y8, y9, y10, y11, y12], .kd (encNL R K') :: (D ++ [.dead])) := by
          have e := lhm_t (R := R) (D := D) K' T'
          have e2 : (lhM R K' D T').set (D.length + 1) .dead = .kd (encNL R K') :: (D ++ [.dead]) := by
            simp [lhM, List.set_append]
          unfold sFrz
          show (match (lhM R K' D T')[D.length + 1]? with | some (.lst xs) => Rs.ok (Fl.nx, _, (lhM R K' D T').set (D.length + 1) .dead) | _ => .no) = _
          rw [e, e2]; rfl
        rw [seq_nx b1]; rfl
      have hL : lhL [some R.enc, some (.int most), some (.bl c), some (.vl (Rw.map encY)), some (.ref 0), some (.int (d + 1 : Nat)), s6, s7, s8, s9, s10, s11, s12] (.kd (encNL R K) :: D) = .ok (.nx, [some R.enc, some (.int most), some (.bl c), some (.vl (T'.map encY)), some (.ref 0), some (.int (d + 1 : Nat)), some (.vl (T'.map encY)), y7, y8, y9, y10, y11, y12], .kd (encNL R K') :: (D ++ [.dead])) := by
        unfold lhL
        rw [seq_nx a1, seq_nx a2, a3]
      rw [hL]
      simp only [Rs.bind_ok]
      have e1 : ((d + 1 : Nat) : Int) + 1 = ((d + 1 + 1 : Nat) : Int) := by omega
      rw [e1]
      exact lh_levels ok ez hm w0 hf0 hb0 hp0 k (d + 1) (P ++ Rw) T' K' (D ++ [.dead]) _ _ _ _ _ _ _ _ (by omega) h1 h2 (fun y hy => (List.mem_append.mp hy).elim (hw y) (h3 y)) h4 h5
theorem lshortest_ok (ok : R.Ok) (ez : R.leeway = none ∨ R.spare = none) (hm : most ≤ 6) {n0 : LN} {f0 : Nat} {p0 : List AEv} (w0 : Wlk (gbL R c) n0 f0 p0) (hf0 : f0 ≤ most) (hb0 : (gbL R c).bad n0 = true) (hp0 : p0.length ≤ 38) :
    ∃ d n f p, f_law_shortest [R.enc, .int most, .bl c] = .ok (.int (d + 1 : Nat)) ∧ Wlk (gbL R c) n f p ∧ f ≤ most ∧ (gbL R c).bad n = true ∧ p.length = d ∧ ∀ n' f' p', Wlk (gbL R c) n' f' p' → f' ≤ most → (gbL R c).bad n' = true → d ≤ p'.length := by
  have wv0 : Wv R ((⟨firstA R, true⟩, 0, []), ⟨R.server, 0, none⟩) := ⟨lw_first ok, abd_first ok, Int.le_refl _⟩
  obtain ⟨d', s', m', n, f, p, h1, h2, h3, h4, h5, h6⟩ := lh_levels (c := c) (most := most) ok ez hm w0 hf0 hb0 hp0 39 0 [] [((⟨firstA R, true⟩, 0, []), ⟨R.server, 0, none⟩)] [] [] none none none none none none none none rfl (bi_start (G := gbL R c)) ⟨Nat.zero_le _, fun y hy => by cases List.mem_singleton.mp hy; exact Nat.zero_le _⟩ (fun y hy => by cases List.mem_singleton.mp hy; exact wv0) (fun q h => nomatch h) (fun y hy => by cases List.mem_singleton.mp hy; rfl)
  refine ⟨d', n, f, p, ?_, h2, h3, h4, h5, h6⟩
  have a1 : (sAsg (eLst (aCons (eTup (aCons (eN (cP f_law_world) (aCons (eVar 0) aNil)) (aCons (eC (.int 0)) aNil))) aNil)) (TT.gName 3)) [some R.enc, some (.int most), some (.bl c), none, none, none, none, none, none, none, none, none, none] [] = .ok (.nx, [some R.enc, some (.int most), some (.bl c), some (.vl ([((⟨firstA R, true⟩, 0, []), ⟨R.server, 0, none⟩)].map encY)), none, none, none, none, none, none, none, none, none], []) := by
    have f1 := fun m => world_ok R m
    simp [f1, encY]
  have a2 : (sAsg eKNew (TT.gName 4)) [some R.enc, some (.int most), some (.bl c), some (.vl ([((⟨firstA R, true⟩, 0, []), ⟨R.server, 0, none⟩)].map encY)), none, none, none, none, none, none, none, none, none] [] = .ok (.nx, [some R.enc, some (.int most), some (.bl c), some (.vl ([((⟨firstA R, true⟩, 0, []), ⟨R.server, 0, none⟩)].map encY)), some (.ref 0), none, none, none, none, none, none, none, none], [.kd (encNL R [])]) := rfl
  have il : TT.iRng2 (eC (.int 1)) (eC (.int 40)) [some R.enc, some (.int most), some (.bl c), some (.vl ([((⟨firstA R, true⟩, 0, []), ⟨R.server, 0, none⟩)].map encY)), some (.ref 0), none, none, none, none, none, none, none, none] [.kd (encNL R [])] = .ok (rngL ((0 + 1 : Nat) : Int) 39, [.kd (encNL R [])]) := rfl
  have a3 : (sFor (TT.iRng2 (eC (.int 1)) (eC (.int 40))) (TT.gName 5) lhL) [some R.enc, some (.int most), some (.bl c), some (.vl ([((⟨firstA R, true⟩, 0, []), ⟨R.server, 0, none⟩)].map encY)), some (.ref 0), none, none, none, none, none, none, none, none] [.kd (encNL R [])] = .ok (.rt (.int (d' + 1 : Nat)), s', m') := by
    rw [sFor_ap, il, Rs.bind_ok]; exact h1
  have b : bodyI 13 3 s_law_shortest [R.enc, .int most, .bl c] [] = .ok (.int (d' + 1 : Nat), m') := by
    unfold bodyI
    rw [if_pos (show [R.enc, PV.int most, PV.bl c].length = 3 from rfl), lh_eq]
    have e1 : startS 13 [R.enc, PV.int most, PV.bl c] = [some R.enc, some (.int most), some (.bl c), none, none, none, none, none, none, none, none, none, none] := rfl
    rw [e1, seq_nx a1, seq_nx a2, seq_rt a3]; rfl
  exact body_fin b rfl
end
end TT
end

section
set_option linter.all false
set_option autoImplicit false
namespace TT
/-! ### walks of the program, walks of the law -/
theorem phi_step {R : Rule} {c : Bool} {b : LN} (h : (aloneN R b.an .ask).1 = false) {e : AEv} (he : e = .got → (phi c b).wait.isSome = true) : phi c (lstep R c b e) = movedA R c (phi c b) e := by
  obtain ⟨S, k, hq, hk⟩ := ask_of h
  obtain ⟨h1, h2⟩ := phi_st c b
  have hd : ∀ e, e ≠ .ask → movedA R c (phi c b) e = (aloneN R (phi c b) e).2 := fun e he => by unfold movedA; rw [if_neg (by simp [he])]
  cases e with
  | ask =>
    have e1 : aloneN R b.an .ask = _ := askA_ne hq hk fun _ y => (0, y)
    have e2 : aloneN R (phi c b) .ask = _ := askA_ne (by rw [h1, h2]; exact hq) hk fun _ y => (0, y)
    cases c with
    | false =>
      have : phi false b = b.an := rfl
      rw [this]
      simp [lstep, movedA, phi]
    | true =>
      simp only [lstep, movedA, e1, e2, decide_true, Bool.and_true, if_true]
      unfold phi
      simp only
      cases hw : oldO R b.an.wait k <;> simp [hw]
  | drop =>
    have e1 : aloneN R b.an .drop = _ := askA_ne hq hk fun x y => (x, y)
    have e2 : aloneN R (phi c b) .drop = _ := askA_ne (by rw [h1, h2]; exact hq) hk fun x y => (x, y)
    rw [hd _ (by decide), e2, h2]
    simp only [lstep, e1]
    unfold phi
    by_cases hc : (c && !b.fl) = true
    · simp [hc, oldO]
    · simp [hc]
  | late =>
    have e1 : aloneN R b.an .late = _ := askA_ne hq hk fun x _ => (x, some 0)
    have e2 : aloneN R (phi c b) .late = _ := askA_ne (by rw [h1, h2]; exact hq) hk fun x _ => (x, some 0)
    rw [hd _ (by decide), e2, h2]
    simp only [lstep, e1]
    unfold phi
    simp
  | tick =>
    rw [hd _ (by decide)]
    simp only [lstep, aloneN]
    unfold phi
    by_cases hc : (c && !b.fl) = true
    · simp [hc]
    · simp [hc]
  | got =>
    have hw := he rfl
    have hc : ¬ (c && !b.fl) = true := fun hc => by
      unfold phi at hw
      rw [if_pos hc] at hw; cases hw
    have hp : phi c b = b.an := by unfold phi; rw [if_neg hc]
    rw [hd _ (by decide), hp]
    show phi c ⟨if (c && !b.fl) = true then { b.an with wait := none } else (aloneN R b.an .got).2, true⟩ = _
    rw [if_neg hc]
    unfold phi
    simp
theorem phi_got {R : Rule} {c : Bool} {b : LN} (h : ¬ (phi c b).wait.isSome = true) : phi c (lstep R c b .got) = phi c b := by
  by_cases hc : (c && !b.fl) = true
  · have hp : phi c b = { b.an with wait := none } := by unfold phi; rw [if_pos hc]
    rw [hp]
    show phi c ⟨if (c && !b.fl) = true then { b.an with wait := none } else (aloneN R b.an .got).2, true⟩ = _
    rw [if_pos hc]
    unfold phi
    simp
  · have hp : phi c b = b.an := by unfold phi; rw [if_neg hc]
    rw [hp] at h ⊢
    have hn : b.an.wait = none := by simpa using h
    show phi c ⟨if (c && !b.fl) = true then { b.an with wait := none } else (aloneN R b.an .got).2, true⟩ = _
    rw [if_neg hc]
    unfold phi
    obtain ⟨⟨st, o, w⟩, fl⟩ := b
    simp only at hn
    subst hn
    simp [aloneN]
theorem phi_bad {R : Rule} {c : Bool} (b : LN) : (gbL R c).bad b = (gbP R c).bad (phi c b) := (over_pl R c).bad b
theorem wk_up {R : Rule} {c : Bool} {n : An} {f : Nat} {p : List AEv} (h : Wlk (gbP R c) n f p) : ∃ b, phi c b = n ∧ Wlk (gbL R c) b f p := by
  induction h with
  | nil => exact ⟨_, (over_pl R c).start, .nil⟩
  | @step n m f w p e h1 h2 h3 ih =>
    obtain ⟨b, rfl, hb⟩ := ih
    obtain ⟨e', he', hm⟩ := List.mem_map.mp h3
    simp only [Prod.mk.injEq] at hm
    obtain ⟨rfl, rfl, rfl⟩ := hm
    obtain ⟨q1, q2⟩ := List.mem_filter.mp he'
    have hbad : (gbL R c).bad b = false := by rw [phi_bad]; exact h2
    have hw : e' = .got → (phi c b).wait.isSome = true := fun z => by
      subst z
      simpa [mayE] using q2
    refine ⟨lstep R c b e', phi_step hbad hw, .step hb hbad ?_⟩
    refine List.mem_map.mpr ⟨e', ?_, rfl⟩
    unfold evsL
    cases e' with
    | got =>
      have hb2 : b.an.wait.isSome = true := by
        have := hw rfl
        unfold phi at this
        split at this
        · cases this
        · exact this
      simp [hb2]
    | _ => simp
theorem wk_down {R : Rule} {c : Bool} {b : LN} {f : Nat} {p : List AEv} (h : Wlk (gbL R c) b f p) : ∃ p', Wlk (gbP R c) (phi c b) f p' ∧ p'.length ≤ p.length := by
  induction h with
  | nil => exact ⟨[], by have := (over_pl R c).start; unfold grL grP at this; simp only at this; show Wlk _ (phi c ⟨firstA R, true⟩) _ _; rw [this]; exact .nil, Nat.le_refl _⟩
  | @step b m f w p e h1 h2 h3 ih =>
    obtain ⟨p', hp, hl⟩ := ih
    obtain ⟨e', he', hm⟩ := List.mem_map.mp h3
    simp only [Prod.mk.injEq] at hm
    obtain ⟨rfl, rfl, rfl⟩ := hm
    have hbad : (gbP R c).bad (phi c b) = false := by rw [← phi_bad]; exact h2
    by_cases hg : e' = .got ∧ ¬ (phi c b).wait.isSome = true
    · obtain ⟨rfl, hw⟩ := hg
      refine ⟨p', ?_, by simp; omega⟩
      rw [phi_got hw]
      exact hp
    · have hw : e' = .got → (phi c b).wait.isSome = true := fun z => by
        by_cases h : (phi c b).wait.isSome = true
        · exact h
        · exact absurd ⟨z, h⟩ hg
      refine ⟨p' ++ [e'], ?_, by simp; omega⟩
      rw [phi_step h2 hw]
      refine .step hp hbad (List.mem_map.mpr ⟨e', List.mem_filter.mpr ⟨by cases e' <;> decide, ?_⟩, rfl⟩)
      unfold mayE
      by_cases z : e' = .got
      · rw [hw z]; simp
      · simp [z]
theorem wk_rch {R : Rule} {c : Bool} {n : An} {f : Nat} {p : List AEv} (h : Wlk (gbP R c) n f p) : Rch (grP R c) f n := by
  induction h with
  | nil => exact .start 0
  | @step n m f w p e h1 h2 h3 ih =>
    obtain ⟨e', he', hm⟩ := List.mem_map.mp h3
    simp only [Prod.mk.injEq] at hm
    obtain ⟨rfl, rfl, rfl⟩ := hm
    cases e' with
    | ask => exact .safe ih h2 (List.mem_map.mpr ⟨.ask, by decide, rfl⟩)
    | got => exact .safe ih h2 (List.mem_map.mpr ⟨.got, by decide, rfl⟩)
    | tick => exact .safe ih h2 (List.mem_map.mpr ⟨.tick, by decide, rfl⟩)
    | drop => exact .fault ih h2 (List.mem_map.mpr ⟨.drop, by decide, rfl⟩)
    | late => exact .fault ih h2 (List.mem_map.mpr ⟨.late, by decide, rfl⟩)
/-! ### a short way there is, where there is one -/
def runW (R : Rule) (c : Bool) (n : An) (k : Nat) : List AEv → Option Nat
  | [] => if (aloneN R n .ask).1 = true then some k else none
  | e :: es => if (aloneN R n .ask).1 = true then some k else if mayE n.wait.isSome e = true then runW R c (movedA R c n e) (k + costE e) es else none
theorem runW_wk {R : Rule} {c : Bool} : ∀ (es : List AEv) {n : An} {k m : Nat} {p : List AEv}, Wlk (gbP R c) n k p → runW R c n k es = some m → ∃ n' p', Wlk (gbP R c) n' m p' ∧ (gbP R c).bad n' = true ∧ p'.length ≤ p.length + es.length
  | [], n, k, m, p, h, hr => by
    unfold runW at hr
    split at hr
    · cases hr
      rename_i hb
      exact ⟨n, p, h, hb, by omega⟩
    · cases hr
  | e :: es, n, k, m, p, h, hr => by
    unfold runW at hr
    split at hr
    · cases hr
      rename_i hb
      exact ⟨n, p, h, hb, by omega⟩
    · rename_i hb
      split at hr
      · rename_i hm
        have hb' : (gbP R c).bad n = false := by
          show (aloneN R n .ask).1 = false
          simpa using hb
        obtain ⟨n', p', q1, q2, q3⟩ := runW_wk es (p := p ++ [e]) (.step h hb' (List.mem_map.mpr ⟨e, List.mem_filter.mpr ⟨by cases e <;> decide, hm⟩, rfl⟩)) hr
        refine ⟨n', p', q1, q2, ?_⟩
        simp only [List.length_append, List.length_cons, List.length_nil] at q3 ⊢
        omega
      · cases hr
def candW (R : Rule) (c : Bool) : List AEv := if c = false then [.late, .ask, .ask, .ask, .ask, .got] else if R.leeway.isSome = true then [.drop, .tick, .tick, .tick] else [.drop, .drop, .drop]
def chkW (R : Rule) : Bool :=
  decide (runW R false (firstA R) 0 (candW R false) = some 1) &&
  (if R.leeway.isSome = true then decide (runW R true (firstA R) 0 (candW R true) = some 1) else
    (if (R.new || decide (R.keep = 0)) = true then (match runW R true (firstA R) 0 (candW R true) with | some m => decide ((m : Int) ≤ R.keep + 1) | none => false) else true) &&
    (match R.spare with | some p => (match runW R true (firstA R) 0 (candW R true) with | some m => decide ((m : Int) ≤ p + 1) | none => false) | none => true))
def allW : List Rule := [0, 1, 2].flatMap fun k => [false, true].flatMap fun n => [false, true].flatMap fun s => [(none, none), (some 0, none), (some 1, none), (some 2, none), (none, some 0), (none, some 1), (none, some 2)].flatMap fun ls => [1, 2, 3].flatMap fun e => [false, true].map fun f => ⟨k, n, s, ls.1, ls.2, e, f⟩
set_option maxRecDepth 100000 in
theorem allW_ok : allW.all chkW = true := by decide +kernel
theorem mem_allW {R : Rule} (ok : R.Ok) (ez : R.leeway = none ∨ R.spare = none) : R ∈ allW := by
  obtain ⟨keep, new, strict, leeway, spare, every, fin⟩ := R
  obtain ⟨⟨a0, a1⟩, b, c, ⟨d0, d1⟩⟩ := ok
  simp only at a0 a1 b c d0 d1 ez
  have hk : keep ∈ ([0, 1, 2] : List Int) := by
    have : keep = 0 ∨ keep = 1 ∨ keep = 2 := by omega
    simpa using this
  have he : every ∈ ([1, 2, 3] : List Int) := by
    have : every = 1 ∨ every = 2 ∨ every = 3 := by omega
    simpa using this
  have hls : (leeway, spare) ∈ ([(none, none), (some 0, none), (some 1, none), (some 2, none), (none, some 0), (none, some 1), (none, some 2)] : List (Option Int × Option Int)) := by
    rcases ez with rfl | rfl
    · rcases c with rfl | ⟨i, rfl, i0, i1⟩
      · simp
      · have : i = 0 ∨ i = 1 ∨ i = 2 := by omega
        rcases this with rfl | rfl | rfl <;> simp
    · rcases b with rfl | ⟨i, rfl, i0, i1⟩
      · simp
      · have : i = 0 ∨ i = 1 ∨ i = 2 := by omega
        rcases this with rfl | rfl | rfl <;> simp
  refine List.mem_flatMap.mpr ⟨keep, hk, List.mem_flatMap.mpr ⟨new, by cases new <;> decide, List.mem_flatMap.mpr ⟨strict, by cases strict <;> decide, List.mem_flatMap.mpr ⟨(leeway, spare), hls, List.mem_flatMap.mpr ⟨every, he, List.mem_map.mpr ⟨fin, by cases fin <;> decide, rfl⟩⟩⟩⟩⟩⟩
end TT
end

section
set_option linter.all false
set_option autoImplicit false
namespace TT
/-! ### no refusal with fewer faults -/
theorem good_zero {R : Rule} {st : Stand} {o : Int} (hv : st.over = false) (ho : o = 0) : R.good st o = true := by
  unfold Rule.good
  rw [hv, ho]; rfl
theorem bad_not {R : Rule} {n : An} (h : (aloneN R n .ask).1 = true) : R.good n.stand n.old = false := by
  cases hg : R.good n.stand n.old with
  | false => rfl
  | true =>
    exfalso
    have hr : (R.req n.stand n.old).2 ≠ .refused := by
      unfold Rule.req
      rw [if_pos hg]
      split
      · split <;> exact fun z => by cases z
      · simp only
        split <;> exact fun z => by cases z
    have e : aloneN R n .ask = _ := askA_ne (S := (R.req n.stand n.old).1) (k := (R.req n.stand n.old).2) rfl hr fun _ y => (0, y)
    rw [e] at h; cases h
/-- what a request leaves, where it is not refused -/
theorem req_made {R : Rule} {n : An} (hv : n.stand.over = false) (ho : n.old = 0) : ∃ S, R.req n.stand n.old = (S, .made) ∧ S.over = false ∧ S.lead = (if R.strict = true then (if R.keep + 1 < 0 + 1 then R.keep + 1 else 0 + 1) else 0) ∧ ∀ p, R.spare = some p → n.stand.spared ≤ p → S.spared ≤ p ∧ n.stand.spared ≤ S.spared := by
  have g := good_zero (R := R) hv ho
  unfold Rule.req
  rw [if_pos g, if_pos ho]
  cases hs : R.spare with
  | none => exact ⟨_, rfl, rfl, rfl, fun p hp => nomatch hp⟩
  | some s =>
    refine ⟨_, rfl, rfl, rfl, fun p hp hle => ?_⟩
    cases hp
    have hb : 0 ≤ b2i ((n.stand.counted + 1) % R.every == 0) := by unfold b2i; split <;> omega
    show (if n.stand.spared + b2i _ < s then n.stand.spared + b2i _ else s) ≤ s ∧ n.stand.spared ≤ (if n.stand.spared + b2i _ < s then n.stand.spared + b2i _ else s)
    generalize b2i ((n.stand.counted + 1) % R.every == 0) = B at hb ⊢
    split <;> omega
theorem one_fault {R : Rule} {c : Bool} : ∀ j n, Rch (grP R c) j n → j < 1 → n.stand.over = false ∧ n.old = 0 ∧ n.wait = none := by
  intro j n h
  induction h with
  | start i => exact fun _ => ⟨rfl, rfl, rfl⟩
  | @safe i n m h1 h2 h3 ih =>
    intro hj
    obtain ⟨v, o, w⟩ := ih hj
    obtain ⟨e, he, rfl⟩ := List.mem_map.mp h3
    simp only [safeE, List.mem_cons, List.mem_nil_iff, or_false] at he
    rcases he with rfl | rfl | rfl
    · obtain ⟨S, q1, q2, _⟩ := req_made (R := R) v o
      have e : aloneN R n .ask = _ := askA_ne q1 (fun z => by cases z) fun _ y => (0, y)
      unfold movedA
      rw [e]
      have hw : oldO R n.wait .made = none := by rw [w]; rfl
      split
      · exact ⟨q2, rfl, rfl⟩
      · exact ⟨q2, rfl, hw⟩
    · unfold movedA
      rw [if_neg (by simp)]
      exact ⟨v, by show n.wait.getD n.old = 0; rw [w]; exact o, rfl⟩
    · unfold movedA
      rw [if_neg (by simp)]
      exact ⟨tick_over v, o, w⟩
  | fault h1 h2 h3 ih => exact fun hj => absurd hj (by omega)
theorem lb_one {R : Rule} {c : Bool} {j : Nat} {n : An} (h : Rch (grP R c) j n) (hb : (grP R c).bad n = true) : 1 ≤ j := by
  by_cases hj : j < 1
  · obtain ⟨v, o, _⟩ := one_fault j n h hj
    have := bad_not hb
    rw [good_zero v o] at this; cases this
  · omega
/-! careful holders, no leeway -/
structure Iv (R : Rule) (j : Nat) (n : An) : Prop where
  v : n.stand.over = false
  o0 : 0 ≤ n.old
  w : ∀ a, n.wait = some a → 0 ≤ a ∧ a ≤ n.old
  oj : n.old ≤ j
  ld : R.strict = true → n.old ≤ n.stand.lead
  sm : R.new = false → n.old ≤ 1
  sp : ∀ p, R.spare = some p → n.stand.spared ≤ p ∧ (p - n.stand.spared) + (if n.old = 0 then 0 else 1) ≤ j
theorem iv_req {R : Rule} (ok : R.Ok) {j : Nat} {n : An} (h : Iv R j n) {S : Stand} {k : Rule.Kind} (hq : R.req n.stand n.old = (S, k)) (hk : k ≠ .refused) :
    S.over = false ∧ (R.strict = true → oldI R n.old k ≤ S.lead ∧ 0 ≤ S.lead) ∧ (R.new = false → oldI R n.old k ≤ 1) ∧ (0 ≤ oldI R n.old k ∧ oldI R n.old k ≤ n.old + 1) ∧ (∀ p, R.spare = some p → S.spared ≤ p ∧ (p - S.spared) ≤ j) ∧ ∀ a, 0 ≤ a → a ≤ n.old → 0 ≤ oldI R a k ∧ oldI R a k ≤ oldI R n.old k := by
  have k0 := ok.keep.1
  have o0 := h.o0
  have cut : ∀ x : Int, 0 ≤ x → 0 ≤ cutO R x ∧ cutO R x ≤ x + 1 := fun x hx => by unfold cutO; split <;> omega
  have mono : ∀ a : Int, 0 ≤ a → a ≤ n.old → 0 ≤ oldI R a k ∧ oldI R a k ≤ oldI R n.old k := fun a h1 h2 => by
    cases k <;> simp only [oldI] <;> first | (exact ⟨h1, h2⟩) | (unfold cutO; split <;> split <;> omega)
  have up : 0 ≤ oldI R n.old k ∧ oldI R n.old k ≤ n.old + 1 := by
    cases k <;> simp only [oldI] <;> first | (exact cut _ o0) | omega
  by_cases ho : n.old = 0
  · obtain ⟨S', q1, q2, q3, q4⟩ := req_made (R := R) h.v ho
    rw [q1] at hq
    cases hq
    refine ⟨q2, fun hs => ?_, fun hn => ?_, up, fun p hp => ?_, mono⟩
    · rw [q3, if_pos hs, ho]
      show cutO R 0 ≤ _ ∧ _
      unfold cutO
      split <;> omega
    · have := up.2
      omega
    · obtain ⟨s1, s2⟩ := h.sp p hp
      obtain ⟨s3, s4⟩ := q4 p hp s1
      rw [if_pos ho] at s2
      exact ⟨s3, by omega⟩
  · have hg : R.good n.stand n.old = true := by
      cases hg : R.good n.stand n.old with
      | true => rfl
      | false =>
        unfold Rule.req at hq
        rw [if_neg (by rw [hg]; decide)] at hq
        cases hq
        exact absurd rfl hk
    unfold Rule.req at hq
    rw [if_pos hg, if_neg ho] at hq
    have hsp : ∀ p, R.spare = some p → (match R.spare with | none => (0 : Int) | some _ => n.stand.spared - 1) ≤ p ∧ p - (match R.spare with | none => (0 : Int) | some _ => n.stand.spared - 1) ≤ j := fun p hp => by
      obtain ⟨s1, s2⟩ := h.sp p hp
      rw [if_neg ho] at s2
      rw [hp]
      show n.stand.spared - 1 ≤ p ∧ p - (n.stand.spared - 1) ≤ j
      omega
    by_cases hn : R.new = true
    · simp only [hn, if_true] at hq
      cases hq
      refine ⟨rfl, fun hs => ?_, fun z => by rw [hn] at z; (cases z), up, hsp, mono⟩
      have l := h.ld hs
      show cutO R n.old ≤ (if R.strict = true then (if R.keep + 1 < (if n.old < n.stand.lead then n.old else n.stand.lead) + 1 then R.keep + 1 else (if n.old < n.stand.lead then n.old else n.stand.lead) + 1) else 0) ∧ 0 ≤ (if R.strict = true then (if R.keep + 1 < (if n.old < n.stand.lead then n.old else n.stand.lead) + 1 then R.keep + 1 else (if n.old < n.stand.lead then n.old else n.stand.lead) + 1) else 0)
      rw [if_pos hs]
      have e : (if n.old < n.stand.lead then n.old else n.stand.lead) = n.old := by split <;> omega
      rw [e]
      unfold cutO
      split <;> omega
    · have hn : R.new = false := by simpa using hn
      simp only [hn, if_neg (show ¬ (false = true) from by decide)] at hq
      cases hq
      refine ⟨rfl, fun hs => ?_, fun _ => h.sm hn, up, hsp, mono⟩
      have l := h.ld hs
      show n.old ≤ (if n.old < n.stand.lead then n.old else n.stand.lead) ∧ 0 ≤ (if n.old < n.stand.lead then n.old else n.stand.lead)
      split <;> omega
theorem iv_all {R : Rule} (ok : R.Ok) (hl : R.leeway = none) {j : Nat} {n : An} (h : Rch (grP R true) j n) : Iv R j n := by
  have tk : ∀ st, R.tick st = st := fun st => by unfold Rule.tick; rw [hl]
  induction h with
  | start i =>
    have k0 := ok.keep.1
    refine ⟨rfl, Int.le_refl _, fun a h => (nomatch h), by show (0 : Int) ≤ i; omega, fun hs => ?_, fun _ => by show (0 : Int) ≤ 1; decide, fun p hp => ?_⟩
    · show (0 : Int) ≤ if R.strict = true then 1 else 0
      rw [if_pos hs]; decide
    · have e : (firstA R).stand.spared = p := by
        show R.first.spared = p
        unfold Rule.first
        rw [hp]; rfl
      show (firstA R).stand.spared ≤ p ∧ (p - (firstA R).stand.spared) + (if (0 : Int) = 0 then 0 else 1) ≤ (i : Int)
      rw [e, if_pos rfl]; omega
  | @safe i n m h1 h2 h3 ih =>
    obtain ⟨e, he, rfl⟩ := List.mem_map.mp h3
    simp only [safeE, List.mem_cons, List.mem_nil_iff, or_false] at he
    rcases he with rfl | rfl | rfl
    · obtain ⟨S, k, hq, hk⟩ := ask_of h2
      obtain ⟨q1, q2, q3, q4, q5, q6⟩ := iv_req ok ih hq hk
      have e : aloneN R n .ask = _ := askA_ne hq hk fun _ y => (0, y)
      have em : movedA R true n .ask = ⟨S, 0, none⟩ := by unfold movedA; rw [e]; rfl
      rw [em]
      refine ⟨q1, Int.le_refl _, fun a h => (nomatch h), by show (0 : Int) ≤ i; omega, fun hs => (q2 hs).2, fun _ => by show (0 : Int) ≤ 1; decide, fun p hp => ?_⟩
      obtain ⟨s1, s2⟩ := q5 p hp
      refine ⟨s1, ?_⟩
      show (p - S.spared) + (if (0 : Int) = 0 then 0 else 1) ≤ (i : Int)
      rw [if_pos rfl]; omega
    · have em : movedA R true n .got = ⟨n.stand, n.wait.getD n.old, none⟩ := by unfold movedA; rw [if_neg (by simp)]; rfl
      rw [em]
      have hw : 0 ≤ n.wait.getD n.old ∧ n.wait.getD n.old ≤ n.old := by
        cases hw : n.wait with
        | none => exact ⟨ih.o0, Int.le_refl _⟩
        | some a => exact ih.w a hw
      generalize n.wait.getD n.old = a at hw
      refine ⟨ih.v, hw.1, fun a h => (nomatch h), Int.le_trans hw.2 ih.oj, fun hs => Int.le_trans hw.2 (ih.ld hs), fun hn => Int.le_trans hw.2 (ih.sm hn), fun p hp => ?_⟩
      obtain ⟨s1, s2⟩ := ih.sp p hp
      refine ⟨s1, ?_⟩
      show (p - n.stand.spared) + (if a = 0 then 0 else 1) ≤ (i : Int)
      by_cases ho : n.old = 0
      · have : a = 0 := by omega
        rw [if_pos this]
        rw [if_pos ho] at s2
        exact s2
      · rw [if_neg ho] at s2
        split <;> omega
    · have em : movedA R true n .tick = n := by
        unfold movedA
        rw [if_neg (by simp)]
        show (⟨R.tick n.stand, n.old, n.wait⟩ : An) = n
        rw [tk]
      rw [em]
      exact ih
  | @fault i n m h1 h2 h3 ih =>
    obtain ⟨e, he, rfl⟩ := List.mem_map.mp h3
    obtain ⟨S, k, hq, hk⟩ := ask_of h2
    obtain ⟨q1, q2, q3, q4, q5, q6⟩ := iv_req ok ih hq hk
    have oj := ih.oj
    have fin : ∀ w : Option Int, (∀ a, w = some a → 0 ≤ a ∧ a ≤ oldI R n.old k) → Iv R (i + 1) ⟨S, oldI R n.old k, w⟩ := fun w hw => by
      refine ⟨q1, q4.1, hw, ?_, fun hs => (q2 hs).1, q3, fun p hp => ?_⟩
      · show oldI R n.old k ≤ ((i + 1 : Nat) : Int)
        have := q4.2
        omega
      · obtain ⟨s1, s2⟩ := q5 p hp
        refine ⟨s1, ?_⟩
        show (p - S.spared) + (if oldI R n.old k = 0 then 0 else 1) ≤ ((i + 1 : Nat) : Int)
        split <;> omega
    simp only [faultE, List.mem_cons, List.mem_nil_iff, or_false] at he
    rcases he with rfl | rfl
    · have e : aloneN R n .drop = _ := askA_ne hq hk fun x y => (x, y)
      have em : movedA R true n .drop = ⟨S, oldI R n.old k, oldO R n.wait k⟩ := by unfold movedA; rw [if_neg (by simp), e]
      rw [em]
      refine fin _ fun a ha => ?_
      cases hw : n.wait with
      | none => rw [hw] at ha; cases ha
      | some b =>
        rw [hw] at ha
        cases ha
        obtain ⟨w1, w2⟩ := ih.w b hw
        exact q6 b w1 w2
    · have e : aloneN R n .late = _ := askA_ne hq hk fun x _ => (x, some 0)
      have em : movedA R true n .late = ⟨S, oldI R n.old k, some 0⟩ := by unfold movedA; rw [if_neg (by simp), e]
      rw [em]
      exact fin _ fun a ha => by cases ha; exact ⟨Int.le_refl _, q4.1⟩
theorem lb_more {R : Rule} (ok : R.Ok) (hl : R.leeway = none) {j : Nat} {n : An} (h : Rch (grP R true) j n) (hb : (grP R true).bad n = true) : ((R.new = true ∨ R.keep = 0) ∧ R.keep + 1 ≤ j) ∨ ∃ p, R.spare = some p ∧ p + 1 ≤ j := by
  have iv := iv_all ok hl h
  have hg := bad_not hb
  have ho : ¬ n.old = 0 := fun z => by rw [good_zero iv.v z] at hg; cases hg
  have k0 := ok.keep.1
  have o0 := iv.o0
  have oj := iv.oj
  by_cases hk : n.old ≤ R.keep
  · right
    unfold Rule.good at hg
    rw [iv.v, hl] at hg
    have e1 : (n.old == 0) = false := beq_eq_false_iff_ne.mpr ho
    have e2 : (!R.strict || decide (n.old ≤ n.stand.lead)) = true := by
      cases hs : R.strict with
      | false => rfl
      | true => simp [iv.ld hs]
    rw [e1, e2, decide_eq_true hk] at hg
    cases hp : R.spare with
    | none => rw [hp] at hg; simp [lwOk] at hg
    | some p =>
      rw [hp] at hg
      have hs : ¬ 0 < n.stand.spared := by simpa [lwOk] using hg
      obtain ⟨s1, s2⟩ := iv.sp p hp
      rw [if_neg ho] at s2
      exact ⟨p, rfl, by omega⟩
  · left
    refine ⟨?_, by omega⟩
    cases hn : R.new with
    | true => exact .inl rfl
    | false =>
      have := iv.sm hn
      exact .inr (by omega)
/-- where a refusal is met with so few faults, one is near -/
theorem near_ok {R : Rule} (ok : R.Ok) (ez : R.leeway = none ∨ R.spare = none) {c : Bool} {f : Nat} (ht : Tells (grP R c) (some f)) : f ≤ 3 ∧ ∃ n p, Wlk (gbP R c) n f p ∧ (gbP R c).bad n = true ∧ p.length ≤ 6 := by
  obtain ⟨⟨n, hb, hr⟩, hmin⟩ := ht
  have all := List.all_eq_true.mp allW_ok R (mem_allW ok ez)
  unfold chkW at all
  rw [Bool.and_eq_true] at all
  obtain ⟨c1, c2⟩ := all
  have fin : ∀ m : Nat, runW R c (firstA R) 0 (candW R c) = some m → (m : Int) ≤ f → f ≤ 3 ∧ ∃ n p, Wlk (gbP R c) n f p ∧ (gbP R c).bad n = true ∧ p.length ≤ 6 := fun m h1 h2 => by
    obtain ⟨n', p', w1, w2, w3⟩ := runW_wk (candW R c) (.nil (G := gbP R c)) h1
    have hm : ¬ m < f := fun z => by
      have q1 := hmin m z n' (wk_rch w1)
      have q2 : (grP R c).bad n' = true := w2
      rw [q1] at q2; cases q2
    have e : m = f := by omega
    subst e
    have cl : (candW R c).length ≤ 6 := by
      unfold candW
      split
      · decide
      · split <;> decide
    have cost : ∀ (es : List AEv) (n : An) (k m : Nat), runW R c n k es = some m → m ≤ k + (es.map costE).sum := by
      intro es
      induction es with
      | nil =>
        intro n k m h
        unfold runW at h
        split at h
        · cases h; omega
        · cases h
      | cons e es ih =>
        intro n k m h
        unfold runW at h
        split at h
        · cases h; omega
        · split at h
          · have := ih _ _ _ h
            rw [List.map_cons, List.sum_cons]; omega
          · cases h
    have cs : ((candW R c).map costE).sum ≤ 3 := by
      unfold candW
      split
      · decide
      · split <;> decide
    have := cost _ _ _ _ h1
    simp only [List.length_nil] at w3
    exact ⟨by omega, n', p', w1, w2, by omega⟩
  have f1 := lb_one hr hb
  cases c with
  | false => exact fin 1 (of_decide_eq_true c1) (by omega)
  | true =>
    by_cases hl : R.leeway.isSome = true
    · rw [if_pos hl] at c2
      exact fin 1 (of_decide_eq_true c2) (by omega)
    · rw [if_neg hl, Bool.and_eq_true] at c2
      have hl : R.leeway = none := by simpa using hl
      obtain ⟨d1, d2⟩ := c2
      rcases lb_more ok hl hr hb with ⟨q1, q2⟩ | ⟨p, q1, q2⟩
      · have hc : (R.new || decide (R.keep = 0)) = true := by
          rcases q1 with z | z
          · rw [z]; rfl
          · simp [z]
        rw [if_pos hc] at d1
        cases hm : runW R true (firstA R) 0 (candW R true) with
        | none => rw [hm] at d1; cases d1
        | some m =>
          rw [hm] at d1
          have := of_decide_eq_true d1
          exact fin m hm (by omega)
      · rw [q1] at d2
        cases hm : runW R true (firstA R) 0 (candW R true) with
        | none => rw [hm] at d2; cases d2
        | some m =>
          rw [hm] at d2
          have := of_decide_eq_true d2
          exact fin m hm (by omega)
end TT
end

section
set_option linter.all false
set_option autoImplicit false
namespace TT
/-! ### a way is a history -/
def hwR (w : Bool) : AEv → Option Bool
  | .got => if w = true then some false else none
  | .late => some true
  | _ => some w
def hwE : Option Bool → List AEv → Option Bool
  | o, [] => o
  | none, _ :: _ => none
  | some w, e :: es => hwE (hwR w e) es
theorem hwE_none : ∀ es : List AEv, hwE none es = none
  | [] => rfl
  | _ :: _ => rfl
theorem hwE_snoc (e : AEv) : ∀ (p : List AEv) (o : Option Bool), hwE o (p ++ [e]) = (hwE o p).bind fun w => hwR w e
  | [], none => rfl
  | [], some w => rfl
  | x :: p, none => by rw [List.cons_append]; rfl
  | x :: p, some w => by
    rw [List.cons_append]
    show hwE (hwR w x) (p ++ [e]) = (hwE (hwR w x) p).bind _
    exact hwE_snoc e p _
theorem wk_hist {R : Rule} {c : Bool} {n : An} {f : Nat} {p : List AEv} (h : Wlk (gbP R c) n f p) : ∃ w, hwE (some false) p = some w ∧ (n.wait.isSome = true → w = true) := by
  induction h with
  | nil => exact ⟨false, rfl, fun z => by cases z⟩
  | @step n m f w p e h1 h2 h3 ih =>
    obtain ⟨u, u1, u2⟩ := ih
    obtain ⟨e', he', hm⟩ := List.mem_map.mp h3
    simp only [Prod.mk.injEq] at hm
    obtain ⟨rfl, rfl, rfl⟩ := hm
    obtain ⟨_, q2⟩ := List.mem_filter.mp he'
    rw [hwE_snoc, u1]
    show ∃ w, hwR u e' = some w ∧ _
    obtain ⟨S, k, hq, hk⟩ := ask_of h2
    have old : (oldO R n.wait k).isSome = n.wait.isSome := by cases n.wait <;> rfl
    cases e' with
    | ask =>
      refine ⟨u, rfl, fun z => u2 ?_⟩
      have e : aloneN R n .ask = _ := askA_ne hq hk fun _ y => (0, y)
      unfold movedA at z
      rw [e] at z
      split at z
      · cases z
      · rw [← old]; exact z
    | drop =>
      refine ⟨u, rfl, fun z => u2 ?_⟩
      have e : aloneN R n .drop = _ := askA_ne hq hk fun x y => (x, y)
      unfold movedA at z
      rw [if_neg (by simp), e] at z
      rw [← old]; exact z
    | tick =>
      refine ⟨u, rfl, fun z => u2 ?_⟩
      unfold movedA at z
      rw [if_neg (by simp)] at z
      exact z
    | late => exact ⟨true, rfl, fun _ => rfl⟩
    | got =>
      have hw : n.wait.isSome = true := by simpa [mayE] using q2
      have := u2 hw
      subst this
      refine ⟨false, rfl, fun z => ?_⟩
      unfold movedA at z
      rw [if_neg (by simp)] at z
      cases z
def hiB : SS := (sSeq (sIf (tNot (tT (eN (cP f_is_event) (aCons (eVar 3) aNil)))) (sRet (eC (.bl false))) sSkip)
  (sSeq (sIf (tV (e2 oEq (eVar 3) (eC c_TICK))) sCont sSkip)
  (sSeq (sAsg (eM .str mIndexS (eC c_HOLDERS) (aCons (e2 oIx (eVar 3) (eC (.int 0))) aNil)) (TT.gName 4))
  (sSeq (sIf (tOr (tNot (tT (e2 oIx (eVar 1) (eVar 4)))) (tAnd (tV (e2 oEq (e2 oIx (eVar 3) (eC (.int 1))) (eC (.str [43])))) (tNot (tT (e2 oIx (eVar 2) (eVar 4)))))) (sRet (eC (.bl false))) sSkip)
  (sIf (tV (e2 (oIn false) (e2 oIx (eVar 3) (eC (.int 1))) (eC c_HOLDERS))) (sSeq (sAsg (eC (.bl true)) (TT.gSub (eVar 1) (e2 oSub (eC (.int 1)) (eVar 4))))
  (sAsg (eC (.bl false)) (TT.gSub (eVar 2) (e2 oSub (eC (.int 1)) (eVar 4))))) (sIf (tV (e2 (oIn false) (e2 oIx (eVar 3) (eC (.int 1))) (eC (.str [126, 43])))) (sAsg (e2 oEq (e2 oIx (eVar 3) (eC (.int 1))) (eC (.str [126]))) (TT.gSub (eVar 2) (eVar 4))) sSkip))))))
theorem hi_eq : s_is_history = (sSeq (sIf (tOr (tNot (tT (e1 (oIsA .tTup) (eVar 0)))) (tV (e2 oGt (eN fLen (aCons (eVar 0) aNil)) (eC c_MOST_EVENTS)))) (sRet (eC (.bl false))) sSkip)
  (sSeq (sAsg (eLstM (aCons (eC (.bl true)) (aCons (eC (.bl false)) aNil))) (TT.gName 1))
  (sSeq (sAsg (eLstM (aCons (eC (.bl false)) (aCons (eC (.bl false)) aNil))) (TT.gName 2))
  (sSeq (sFor (iT (eVar 0)) (TT.gName 3) hiB)
  (sRet (eC (.bl true))))))) := rfl
def hiM (w : Bool) : Mm := [.lst [.bl true, .bl false], .lst [.bl w, .bl false]]
theorem hi_ev (V : PV) (s4 : Option PV) (w : Bool) (e : AEv) {w' : Bool} (h : hwR w e = some w') : ∃ fl y4, (fl = .nx ∨ fl = .ct) ∧ hiB [some V, some (.ref 0), some (.ref 1), some e.lenc, s4] (hiM w) = .ok (fl, [some V, some (.ref 0), some (.ref 1), some e.lenc, y4], hiM w') := by
  cases e with
  | ask => cases h; exact ⟨.nx, some (.int 0), .inl rfl, by cases w <;> rfl⟩
  | drop => cases h; exact ⟨.nx, some (.int 0), .inl rfl, by cases w <;> rfl⟩
  | late => cases h; exact ⟨.nx, some (.int 0), .inl rfl, by cases w <;> rfl⟩
  | got =>
    cases w with
    | false => cases h
    | true => cases h; exact ⟨.nx, some (.int 0), .inl rfl, rfl⟩
  | tick => cases h; exact ⟨.ct, s4, .inr rfl, by cases w <;> rfl⟩
theorem hi_loop (V : PV) : ∀ (es : List AEv) (w w' : Bool) (s3 s4 : Option PV), hwE (some w) es = some w' → ∃ y3 y4, forL (gName 3) hiB (es.map AEv.lenc) [some V, some (.ref 0), some (.ref 1), s3, s4] (hiM w) = .ok (.nx, [some V, some (.ref 0), some (.ref 1), y3, y4], hiM w')
  | [], w, w', s3, s4, h => by cases h; exact ⟨s3, s4, rfl⟩
  | e :: es, w, w', s3, s4, h => by
    have h : hwE (hwR w e) es = some w' := h
    cases hr : hwR w e with
    | none => rw [hr, hwE_none] at h; cases h
    | some u =>
      rw [hr] at h
      obtain ⟨fl, y4, hf, e1⟩ := hi_ev V s4 w e hr
      obtain ⟨z3, z4, e2⟩ := hi_loop V es u w' (some e.lenc) y4 h
      refine ⟨z3, z4, ?_⟩
      rw [List.map_cons, forL_cons]
      simp only [gName_ap, Rs.bind_ok]
      show Rs.bind (hiB [some V, some (.ref 0), some (.ref 1), some e.lenc, s4] (hiM w)) _ = _
      rw [e1]
      simp only [Rs.bind_ok]
      rcases hf with rfl | rfl <;> exact e2
theorem encP_pu (p : List AEv) : (encP p).pu = true := by
  show pus (p.map AEv.lenc) = true
  induction p with
  | nil => rfl
  | cons e l ih => simp [lenc_pu, ih]
theorem history_ok {p : List AEv} {w : Bool} (h : hwE (some false) p = some w) (hl : p.length ≤ 40) (m : Mm) : cP f_is_history [encP p] m = .ok (.bl true, m) := by
  refine cP_ok (by simp [encP_pu]) ?_
  obtain ⟨y3, y4, e3⟩ := hi_loop (encP p) p false w none none h
  have a1 : (sIf (tOr (tNot (tT (e1 (oIsA .tTup) (eVar 0)))) (tV (e2 oGt (eN fLen (aCons (eVar 0) aNil)) (eC c_MOST_EVENTS)))) (sRet (eC (.bl false))) sSkip) [some (encP p), none, none, none, none] [] = .ok (.nx, [some (encP p), none, none, none, none], []) := by
    have ia : oIsA .tTup (encP p) [] = .ok (.bl true, []) := rfl
    have fl : fLen [encP p] [] = .ok (.int p.length, []) := by
      show Rs.ok (PV.int ((p.map AEv.lenc).length : Nat), ([] : Mm)) = _
      rw [List.length_map]
    have gt : oGt (.int p.length) c_MOST_EVENTS [] = .ok (.bl false, []) := by
      show oGt (.int p.length) (.int 40) [] = _
      rw [oGt_int, decide_eq_false (by omega)]
    simp [ia, fl, gt]
  have a2 : (sAsg (eLstM (aCons (eC (.bl true)) (aCons (eC (.bl false)) aNil))) (TT.gName 1)) [some (encP p), none, none, none, none] [] = .ok (.nx, [some (encP p), some (.ref 0), none, none, none], [.lst [.bl true, .bl false]]) := rfl
  have a3 : (sAsg (eLstM (aCons (eC (.bl false)) (aCons (eC (.bl false)) aNil))) (TT.gName 2)) [some (encP p), some (.ref 0), none, none, none] [.lst [.bl true, .bl false]] = .ok (.nx, [some (encP p), some (.ref 0), some (.ref 1), none, none], hiM false) := rfl
  have a4 : (sFor (iT (eVar 0)) (TT.gName 3) hiB) [some (encP p), some (.ref 0), some (.ref 1), none, none] (hiM false) = .ok (.nx, [some (encP p), some (.ref 0), some (.ref 1), y3, y4], hiM w) := by
    have it : iT (eVar 0) [some (encP p), some (.ref 0), some (.ref 1), none, none] (hiM false) = .ok (p.map AEv.lenc, hiM false) := rfl
    rw [sFor_ap, it, Rs.bind_ok]; exact e3
  have b : bodyI 5 1 s_is_history [encP p] [] = .ok (.bl true, hiM w) := by
    unfold bodyI
    rw [if_pos (show [encP p].length = 1 from rfl), hi_eq]
    have e1 : startS 5 [encP p] = [some (encP p), none, none, none, none] := rfl
    rw [e1, seq_nx a1, seq_nx a2, seq_nx a3, seq_nx a4]; rfl
  exact body_fin b rfl
end TT
end

section
set_option linter.all false
set_option autoImplicit false
namespace TT
/-! ### the law's course of a way -/
def endL (R : Rule) (c : Bool) (b : LN) (p : List AEv) : LN := p.foldl (lstep R c) b
def validL (R : Rule) (c : Bool) : LN → List AEv → Prop
  | _, [] => True
  | b, e :: es => (gbL R c).bad b = false ∧ (e = .got → b.an.wait.isSome = true) ∧ validL R c (lstep R c b e) es
theorem valid_snoc {R : Rule} {c : Bool} {e : AEv} : ∀ (p : List AEv) (b : LN), validL R c b p → (gbL R c).bad (endL R c b p) = false → (e = .got → (endL R c b p).an.wait.isSome = true) → validL R c b (p ++ [e])
  | [], b, _, h1, h2 => ⟨h1, h2, trivial⟩
  | x :: p, b, ⟨v1, v2, v3⟩, h1, h2 => ⟨v1, v2, valid_snoc p (lstep R c b x) v3 h1 h2⟩
theorem wk_valid {R : Rule} {c : Bool} {b : LN} {f : Nat} {p : List AEv} (h : Wlk (gbL R c) b f p) : validL R c ⟨firstA R, true⟩ p ∧ endL R c ⟨firstA R, true⟩ p = b ∧ f = (p.map costE).sum := by
  induction h with
  | nil => exact ⟨trivial, rfl, rfl⟩
  | @step b m f w p e h1 h2 h3 ih =>
    obtain ⟨i1, i2, i3⟩ := ih
    obtain ⟨e', he', hm⟩ := List.mem_map.mp h3
    simp only [Prod.mk.injEq] at hm
    obtain ⟨rfl, rfl, rfl⟩ := hm
    refine ⟨valid_snoc p _ i1 (by rw [i2]; exact h2) (by rw [i2]; exact got_of he'), ?_, ?_⟩
    · unfold endL at i2 ⊢
      rw [List.foldl_append, i2]; rfl
    · rw [List.map_append, List.sum_append, i3]; simp
def outP (R : Rule) (c : Bool) (x : Wd) : List AEv → List Pair
  | [] => [(tryL R c x .ask).1]
  | e :: es => (tryL R c x e).1 :: outP R c (tryL R c x e).2 es
def crB : SS := (sExpr (eM .list mAppend (eVar 4) (aCons (eN (cI i_law_event) (aCons (eVar 0) (aCons (eVar 3) (aCons (eVar 5) (aCons (eVar 2) aNil))))) aNil)))
theorem cr_eq : s_law_course = (sSeq (sPar2 3 4 (aCons (eN (cI i_law_world) (aCons (eVar 0) aNil)) (aCons (eLstM aNil) aNil)))
  (sSeq (sFor (iT (eVar 1)) (TT.gName 5) crB)
  (sRet (eTup (aCons (eVar 4) (aCons (eVar 3) aNil)))))) := rfl
theorem cr_ev {R : Rule} (c : Bool) {x : Wd} (hx : WOk R x) (e : AEv) (he : e = .got → x.wait.isSome = true) (V : PV) (outs : List Pair) (hl : outs.length ≤ 1000) :
    crB [some R.enc, some V, some (.bl c), some (.ref 3), some (.ref 4), some e.lenc] (x.M [.lst (outs.map encW)]) = .ok (.nx, [some R.enc, some V, some (.bl c), some (.ref 3), some (.ref 4), some e.lenc], (tryL R c x e).2.M [.lst ((outs ++ [(tryL R c x e).1]).map encW)]) := by
  have ev := event_ok (rest := [.lst (outs.map encW)]) c hx e he
  have ty : ∀ y : Wd, tyOk (y.M [.lst (outs.map encW)]) .list (.ref 4) = true := fun y => rfl
  have ap : mAppend (.ref 4) [encW (tryL R c x e).1] ((tryL R c x e).2.M [.lst (outs.map encW)]) = .ok (.non, (tryL R c x e).2.M [.lst ((outs ++ [(tryL R c x e).1]).map encW)]) := by
    rw [mAppend_ref (show ((tryL R c x e).2.M [.lst (outs.map encW)])[4]? = some (.lst (outs.map encW)) from rfl) (by rw [List.length_map]; exact line_lt' (by omega)), List.map_append]
    rfl
  generalize (tryL R c x e).2.M [.lst ((outs ++ [(tryL R c x e).1]).map encW)] = M3 at ap ⊢
  have t1 := ty x
  generalize (tryL R c x e).2.M [.lst (outs.map encW)] = M2 at ap ev
  generalize x.M [.lst (outs.map encW)] = M1 at *
  simp [crB, t1, cI, ev, ap]
theorem cr_loop {R : Rule} (ok : R.Ok) (c : Bool) (V : PV) : ∀ (es : List AEv) (b : LN) (x : Wd) (outs : List Pair) (s5 : Option PV), Lw R b x → x.srv.newest + es.length ≤ 1000 → outs.length + es.length ≤ 999 → validL R c b es →
    ∃ y5 z, forL (gName 5) crB ((es ++ [AEv.ask]).map AEv.lenc) [some R.enc, some V, some (.bl c), some (.ref 3), some (.ref 4), s5] (x.M [.lst (outs.map encW)]) = .ok (.nx, [some R.enc, some V, some (.bl c), some (.ref 3), some (.ref 4), y5], Wd.M z [.lst ((outs ++ outP R c x es).map encW)])
  | [], b, x, outs, s5, lw, h1, h2, _ => by
    have wk := lw_wok lw (by simp only [List.length_nil] at h1; omega)
    have e1 := cr_ev c wk .ask (fun z => nomatch z) V outs (by omega)
    refine ⟨some AEv.ask.lenc, (tryL R c x .ask).2, ?_⟩
    rw [List.nil_append, List.map_cons, forL_cons]
    simp only [gName_ap, Rs.bind_ok]
    show Rs.bind (crB [some R.enc, some V, some (.bl c), some (.ref 3), some (.ref 4), some AEv.ask.lenc] (x.M [.lst (outs.map encW)])) _ = _
    rw [e1]; rfl
  | e :: es, b, x, outs, s5, lw, h1, h2, ⟨v1, v2, v3⟩ => by
    simp only [List.length_cons] at h1 h2
    have wk := lw_wok lw (by omega)
    have hw : e = .got → x.wait.isSome = true := fun z => by
      have := v2 z
      rcases lw.w with ⟨w1, _⟩ | ⟨sh, a, w1, _⟩
      · rw [w1] at this; cases this
      · rw [w1]; rfl
    have e1 := cr_ev c wk e hw V outs (by omega)
    obtain ⟨s1, s2⟩ := lw_step ok c lw v1 e v2
    obtain ⟨y5, z, e2⟩ := cr_loop ok c V es (lstep R c b e) (tryL R c x e).2 (outs ++ [(tryL R c x e).1]) (some e.lenc) s1 (by omega) (by rw [List.length_append, List.length_singleton]; omega) v3
    refine ⟨y5, z, ?_⟩
    rw [List.cons_append, List.map_cons, forL_cons]
    simp only [gName_ap, Rs.bind_ok]
    show Rs.bind (crB [some R.enc, some V, some (.bl c), some (.ref 3), some (.ref 4), some e.lenc] (x.M [.lst (outs.map encW)])) _ = _
    rw [e1]
    simp only [Rs.bind_ok]
    rw [e2, List.append_assoc]
    rfl
/-- all answered but the last -/
theorem outs_told {R : Rule} (ok : R.Ok) (c : Bool) : ∀ (es : List AEv) (b : LN) (x : Wd), Lw R b x → validL R c b es → (gbL R c).bad (endL R c b es) = true → ∃ k, ((outP R c x es).filterMap id).map (fun q => q.2.isNone) = List.replicate k false ++ [true]
  | [], b, x, lw, _, hb => by
    have hb : (gbL R c).bad b = true := hb
    rcases ask_core ok lw with ⟨h1, h2⟩ | ⟨S, k, y, h1, h2, h3, _⟩
    · refine ⟨0, ?_⟩
      show (([(some (x.tok, (R.askL x.srv x.tok).1) : Pair)] : List Pair).filterMap id).map _ = _
      rw [h2]; rfl
    · have e1 : aloneN R b.an .ask = _ := askA_ne h1 h2 fun _ y => (0, y)
      have hb : (aloneN R b.an .ask).1 = true := hb
      rw [e1] at hb; cases hb
  | e :: es, b, x, lw, ⟨v1, v2, v3⟩, hb => by
    obtain ⟨s1, s2⟩ := lw_step ok c lw v1 e v2
    obtain ⟨k, hk⟩ := outs_told ok c es (lstep R c b e) (tryL R c x e).2 s1 v3 hb
    have v1 : (aloneN R b.an .ask).1 = false := v1
    have an : ∃ y, R.askL x.srv x.tok = (some y.newest, y) := by
      rcases ask_core ok lw with ⟨h1, h2⟩ | ⟨S, k, y, h1, h2, h3, _⟩
      · rw [h1] at v1; cases v1
      · exact ⟨y, h3⟩
    obtain ⟨y, hy⟩ := an
    have hd : (tryL R c x e).1 = none ∨ ∃ t a, (tryL R c x e).1 = some (t, some a) := by
      cases e with
      | tick => exact .inl rfl
      | got =>
        left
        unfold tryL
        cases x.wait with
        | none => rfl
        | some q => rfl
      | ask => exact .inr ⟨x.tok, y.newest, by unfold tryL; rw [hy]⟩
      | drop => exact .inr ⟨x.tok, y.newest, by unfold tryL; rw [hy]⟩
      | late => exact .inr ⟨x.tok, y.newest, by unfold tryL; rw [hy]⟩
    show ∃ k, (((tryL R c x e).1 :: outP R c (tryL R c x e).2 es).filterMap id).map _ = _
    rcases hd with hd | ⟨t, a, hd⟩
    · rw [hd]
      exact ⟨k, hk⟩
    · rw [hd]
      refine ⟨k + 1, ?_⟩
      show ((((t, some a) : Int × Option Int) :: (outP R c (tryL R c x e).2 es).filterMap id).map fun q => q.2.isNone) = _
      rw [List.map_cons, hk]
      rfl
theorem outP_len {R : Rule} {c : Bool} : ∀ (es : List AEv) (x : Wd), (outP R c x es).length = es.length + 1
  | [], _ => rfl
  | e :: es, x => by
    show (outP R c (tryL R c x e).2 es).length + 1 = es.length + 1 + 1
    rw [outP_len es]
theorem frzs_map {f : PV → Option PV} (outs : List Pair) (hf : ∀ v, v.pu = true → f v = some v) : frz.frzs f (outs.map encW) = some (outs.map encW) := frzs_pu hf _ (by
  induction outs with
  | nil => rfl
  | cons p l ih => simp [encW_pu, ih])
theorem course_ok {R : Rule} (ok : R.Ok) (c : Bool) {p : List AEv} (hl : p.length ≤ 900) (hv : validL R c ⟨firstA R, true⟩ p) (m : Mm) : ∃ z : Wd, cP f_law_course [R.enc, encP (p ++ [.ask]), .bl c] m = .ok (.tup [.vl ((outP R c ⟨R.server, 0, none⟩ p).map encW), z.V], m) := by
  obtain ⟨y5, z, e1⟩ := cr_loop ok c (encP (p ++ [.ask])) p ⟨firstA R, true⟩ ⟨R.server, 0, none⟩ [] none (lw_first ok) (by show (0 : Int) + p.length ≤ 1000; omega) (by simp; omega) hv
  refine ⟨z, cP_ok (by simp [enc_pu, encP_pu]) ?_⟩
  rw [List.nil_append] at e1
  have a1 : (sPar2 3 4 (aCons (eN (cI i_law_world) (aCons (eVar 0) aNil)) (aCons (eLstM aNil) aNil))) [some R.enc, some (encP (p ++ [.ask])), some (.bl c), none, none, none] [] = .ok (.nx, [some R.enc, some (encP (p ++ [.ask])), some (.bl c), some (.ref 3), some (.ref 4), none], Wd.M ⟨R.server, 0, none⟩ [.lst (([] : List Pair).map encW)]) := by
    have iw : i_law_world [R.enc] [] = .ok (.ref 3, Wd.M ⟨R.server, 0, none⟩) := rfl
    simp [cI, iw]
    exact ⟨rfl, rfl⟩
  have a2 : (sFor (iT (eVar 1)) (TT.gName 5) crB) [some R.enc, some (encP (p ++ [.ask])), some (.bl c), some (.ref 3), some (.ref 4), none] (Wd.M ⟨R.server, 0, none⟩ [.lst (([] : List Pair).map encW)]) = .ok (.nx, [some R.enc, some (encP (p ++ [.ask])), some (.bl c), some (.ref 3), some (.ref 4), y5], Wd.M z [.lst ((outP R c ⟨R.server, 0, none⟩ p).map encW)]) := by
    have it : iT (eVar 1) [some R.enc, some (encP (p ++ [.ask])), some (.bl c), some (.ref 3), some (.ref 4), none] (Wd.M ⟨R.server, 0, none⟩ [.lst (([] : List Pair).map encW)]) = .ok ((p ++ [AEv.ask]).map AEv.lenc, Wd.M ⟨R.server, 0, none⟩ [.lst (([] : List Pair).map encW)]) := rfl
    rw [sFor_ap, it, Rs.bind_ok]; exact e1
  have b : bodyI 6 3 s_law_course [R.enc, encP (p ++ [.ask]), .bl c] [] = .ok (.tup [.ref 4, .ref 3], Wd.M z [.lst ((outP R c ⟨R.server, 0, none⟩ p).map encW)]) := by
    unfold bodyI
    rw [if_pos (show [R.enc, encP (p ++ [.ask]), PV.bl c].length = 3 from rfl), cr_eq]
    have e1 : startS 6 [R.enc, encP (p ++ [.ask]), PV.bl c] = [some R.enc, some (encP (p ++ [.ask])), some (.bl c), none, none, none] := rfl
    rw [e1, seq_nx a1, seq_nx a2]; rfl
  unfold f_law_course bodyP
  rw [b]
  simp only
  generalize outP R c ⟨R.server, 0, none⟩ p = outs
  have hi := items_pu z.srv
  have h0 : frz 2 (z.M [.lst (outs.map encW)]) (.ref 0) = some (.vl z.srv.items) := by
    have : (z.M [.lst (outs.map encW)])[0]? = some z.srv.ob := rfl
    rw [show (2 : Nat) = 1 + 1 from rfl]
    unfold frz
    rw [if_neg (by simp [PV.pu])]
    simp only [this, Srv.ob]
    rw [frzs_pu (fun v hv => frz_pu hv) _ hi]; rfl
  have h1 : frz 2 (z.M [.lst (outs.map encW)]) (.ref 1) = some (.vl [.int z.tok, .non]) := rfl
  have h2 : frz 2 (z.M [.lst (outs.map encW)]) (.ref 2) = some (.vl [encW z.wait, .non]) := by
    have : (z.M [.lst (outs.map encW)])[2]? = some (.lst [encW z.wait, .non]) := rfl
    rw [show (2 : Nat) = 1 + 1 from rfl]
    unfold frz
    rw [if_neg (by simp [PV.pu])]
    simp only [this]
    rw [frzs_pu (fun v hv => frz_pu hv) _ (by simp [encW_pu])]; rfl
  have h3 : frz 3 (z.M [.lst (outs.map encW)]) (.ref 3) = some z.V := by
    have g3 : (z.M [.lst (outs.map encW)])[3]? = some (.lst [.ref 0, .ref 1, .ref 2]) := rfl
    rw [show (3 : Nat) = 2 + 1 from rfl]
    unfold frz
    rw [if_neg (by simp [PV.pu])]
    simp only [g3, frz.frzs, h0, h1, h2, Option.map_some]
    rfl
  have h4 : frz 3 (z.M [.lst (outs.map encW)]) (.ref 4) = some (.vl (outs.map encW)) := by
    have g4 : (z.M [.lst (outs.map encW)])[4]? = some (.lst (outs.map encW)) := rfl
    rw [show (3 : Nat) = 2 + 1 from rfl]
    unfold frz
    rw [if_neg (by simp [PV.pu])]
    simp only [g4]
    rw [frzs_map outs fun v hv => frz_pu hv]; rfl
  have h5 : frz 4 (z.M [.lst (outs.map encW)]) (.tup [.ref 4, .ref 3]) = some (.tup [.vl (outs.map encW), z.V]) := by
    rw [show (4 : Nat) = 3 + 1 from rfl]
    unfold frz
    rw [if_neg (by simp [PV.pu])]
    simp only [frz.frzs, h3, h4]
    rfl
  rw [h5]; rfl
end TT
end

section
set_option linter.all false
set_option autoImplicit false
namespace TT
/-! ### what the law checks -/
theorem eNK_at {f : ON} {fs gs : SA} {s : Sl} {m : Mm} : eNK f fs gs s m = (fs s m).bind fun p => (gs s p.2).bind fun q => f (p.1 ++ q.1) q.2 := rfl
theorem eND_at {f : ON} {fs : SA} {ds : List PV} {s : Sl} {m : Mm} : eND f fs ds s m = (fs s m).bind fun p => f (p.1 ++ ds) p.2 := rfl
/-- what the program tells -/
theorem fault_none {R : Rule} (ok : R.Ok) {c : Bool} (h : f_fewest [R.enc, .bl c] = .ok .non) (m : Mm) : cP f_fault_history [R.enc, .bl c] m = .ok (.non, m) := by
  refine cP_ok (by simp [enc_pu]) ?_
  have c1 := fun m => need_rule_ok ok m
  have c2 : ∀ m, cP f_fewest [R.enc, .bl c] m = .ok (.non, m) := fun m => cP_ok (by simp [enc_pu]) h
  have fz : ∀ m, frz 4 m .non = some .non := fun m => frz_pu rfl
  simp [f_fault_history, bodyP, bodyI, s_fault_history, startS, c1, c2, endF, fz]
theorem fault_some {R : Rule} (ok : R.Ok) {c : Bool} {f : Nat} {p : List AEv} (h : f_fewest [R.enc, .bl c] = .ok (.int f)) (h2 : f_shortest [R.enc, .bl c, .int f] = .ok (encP p)) (m : Mm) : cP f_fault_history [R.enc, .bl c] m = .ok (encP p, m) := by
  refine cP_ok (by simp [enc_pu]) ?_
  have c1 := fun m => need_rule_ok ok m
  have c2 : ∀ m, cP f_fewest [R.enc, .bl c] m = .ok (.int f, m) := fun m => cP_ok (by simp [enc_pu]) h
  have c3 : ∀ m, cP f_shortest [R.enc, .bl c, .int f] m = .ok (encP p, m) := fun m => cP_ok (by simp [enc_pu]) h2
  have fz : ∀ m, frz 4 m (encP p) = some (encP p) := fun m => frz_pu (encP_pu p)
  simp [f_fault_history, bodyP, bodyI, s_fault_history, startS, c1, c2, c3, endF, fz]
theorem faults_ok {R : Rule} (ok : R.Ok) {c : Bool} {r : Option Nat} (h : f_fewest [R.enc, .bl c] = .ok (encF r)) (m : Mm) : cP f_fewest_faults [R.enc, .bl c] m = .ok (encF r, m) := by
  refine cP_ok (by simp [enc_pu]) ?_
  have c1 := fun m => need_rule_ok ok m
  have c2 : ∀ m, cP f_fewest [R.enc, .bl c] m = .ok (encF r, m) := fun m => cP_ok (by simp [enc_pu]) h
  have fz : ∀ m, frz 4 m (encF r) = some (encF r) := fun m => frz_pu (by cases r <;> rfl)
  simp [f_fewest_faults, bodyP, bodyI, s_fewest_faults, startS, c1, c2, endF, fz]
/-! the comprehensions -/
def okT : ST := (tV (e2 (oIn true) (eVar 4) (eLst (aCons (eC (.str [97, 33])) (aCons (eC (.str [97, 45])) (aCons (eC (.str [97, 126])) (aCons (eC (.str [97, 43])) (aCons (eC (.str [46, 46])) aNil))))))))
def ftT : ST := (tV (e2 (oIn false) (eVar 4) (eLst (aCons (eC (.str [97, 45])) (aCons (eC (.str [97, 126])) aNil)))))
def prT : ST := (tV (e1 (oIs true .non) (eVar 6)))
theorem lc_ok (s : Sl) (hl : s.length = 7) (m : Mm) (acc : List PV) : ∀ es : List AEv, lcL (TT.gName 4) okT (eVar 4) s (es.map AEv.lenc) m acc = .ok (acc, m)
  | [] => rfl
  | e :: es => by
    have g : (s.set 4 (some e.lenc))[4]? = some (some e.lenc) := List.getElem?_set_self (by omega)
    have t : okT (s.set 4 (some e.lenc)) m = .ok (false, m) := by
      have i : oIn true e.lenc (.vl [.str [97, 33], .str [97, 45], .str [97, 126], .str [97, 43], .str [46, 46]]) m = .ok (.bl false, m) := by cases e <;> rfl
      unfold okT
      simp [g, i]
    rw [List.map_cons]
    unfold lcL
    simp only [gName_ap, Rs.nx_ok, Rs.bind_ok, t]
    exact lc_ok s hl m acc es
theorem lc_ft (s : Sl) (hl : s.length = 7) (m : Mm) : ∀ (es : List AEv) (acc : List PV), acc.length + es.length ≤ 900 → ∃ L : List PV, lcL (TT.gName 4) ftT (eVar 4) s (es.map AEv.lenc) m acc = .ok (acc ++ L, m) ∧ L.length = (es.map costE).sum
  | [], acc, _ => ⟨[], by simp [lcL], rfl⟩
  | e :: es, acc, h => by
    simp only [List.length_cons] at h
    have g : (s.set 4 (some e.lenc))[4]? = some (some e.lenc) := List.getElem?_set_self (by omega)
    have t : ftT (s.set 4 (some e.lenc)) m = .ok (decide (e = .drop ∨ e = .late), m) := by
      have i : oIn false e.lenc (.vl [.str [97, 45], .str [97, 126]]) m = .ok (.bl (decide (e = .drop ∨ e = .late)), m) := by cases e <;> rfl
      unfold ftT
      generalize decide (e = .drop ∨ e = .late) = B at i ⊢
      simp [g, i]
    rw [List.map_cons]
    unfold lcL
    simp only [gName_ap, Rs.nx_ok, Rs.bind_ok, t, eVar_ap, g]
    by_cases hc : e = .drop ∨ e = .late
    · have l : acc.length < LINE := line_lt' (by omega)
      obtain ⟨L, h1, h2⟩ := lc_ft s hl m es (acc ++ [e.lenc]) (by simp; omega)
      refine ⟨e.lenc :: L, ?_, ?_⟩
      · rw [decide_eq_true hc]
        simp only [if_true, if_pos l]
        rw [h1]; simp
      · rw [List.map_cons, List.sum_cons, List.length_cons, h2]
        unfold costE
        rw [if_pos hc]; omega
    · obtain ⟨L, h1, h2⟩ := lc_ft s hl m es acc (by omega)
      refine ⟨L, ?_, ?_⟩
      · rw [decide_eq_false hc]
        simp only [Bool.false_eq_true, if_false]
        exact h1
      · rw [List.map_cons, List.sum_cons, h2]
        unfold costE
        rw [if_neg hc]; omega
theorem lc_pr (s : Sl) (hl : s.length = 7) (m : Mm) : ∀ (outs : List Pair) (acc : List PV), acc.length + outs.length ≤ 2000 → lcL (TT.gName 6) prT (eVar 6) s (outs.map encW) m acc = .ok (acc ++ (outs.filterMap id).map fun q => encW (some q), m)
  | [], acc, _ => by simp [lcL]
  | o :: outs, acc, h => by
    simp only [List.length_cons] at h
    have g : (s.set 6 (some (encW o)))[6]? = some (some (encW o)) := List.getElem?_set_self (by omega)
    have t : prT (s.set 6 (some (encW o))) m = .ok (o.isSome, m) := by
      have i : oIs true .non (encW o) m = .ok (.bl o.isSome, m) := by cases o <;> rfl
      unfold prT
      generalize o.isSome = B at i ⊢
      simp [g, i]
    rw [List.map_cons]
    unfold lcL
    simp only [gName_ap, Rs.nx_ok, Rs.bind_ok, t, eVar_ap, g]
    cases o with
    | none =>
      show (if (false : Bool) = true then _ else _) = _
      rw [if_neg (by decide), lc_pr s hl m outs acc (by omega)]
      rfl
    | some q =>
      have l : acc.length < LINE := line_lt' (by omega)
      show (if (true : Bool) = true then (if acc.length < LINE then _ else _) else _) = _
      rw [if_pos rfl, if_pos l, lc_pr s hl m outs (acc ++ [encW (some q)]) (by simp; omega), List.append_assoc]
      rfl
theorem lc_nn (s : Sl) (hl : s.length = 7) (m : Mm) : ∀ (L : List (Int × Option Int)) (acc : List PV), acc.length + L.length ≤ 2000 → lcL (TT.gName 6) tYes (e1 (oIs false .non) (e2 oIx (eVar 6) (eC (.int 1)))) s (L.map fun q => encW (some q)) m acc = .ok (acc ++ (L.map fun q => q.2.isNone).map PV.bl, m)
  | [], acc, _ => by simp [lcL]
  | q :: L, acc, h => by
    simp only [List.length_cons] at h
    have g : (s.set 6 (some (encW (some q))))[6]? = some (some (encW (some q))) := List.getElem?_set_self (by omega)
    have i : oIx (encW (some q)) (.int 1) m = .ok (encO q.2, m) := rfl
    have i2 : oIs false .non (encO q.2) m = .ok (.bl q.2.isNone, m) := by cases q.2 <;> rfl
    have l : acc.length < LINE := line_lt' (by omega)
    rw [List.map_cons]
    unfold lcL
    simp only [gName_ap, Rs.nx_ok, Rs.bind_ok, tYes_ap, if_true, e1_ap, e2_ap, eVar_ap, eC_ap, g, i, i2, if_pos l]
    rw [lc_nn s hl m L (acc ++ [PV.bl q.2.isNone]) (by simp; omega), List.append_assoc]
    rfl
theorem eqvs_bl : ∀ xs : List Bool, PV.eqvs (xs.map PV.bl) (xs.map PV.bl) = true
  | [] => rfl
  | x :: xs => by
    rw [List.map_cons]
    simp only [PV.eqvs, PV.eqv, eqvs_bl xs]
    cases x <;> rfl
theorem bls_sh (xs : List Bool) : (PV.vl (xs.map PV.bl)).sh DEP = true := by
  show ((xs.map PV.bl).all (PV.sh 11)) = true
  rw [List.all_map, List.all_eq_true]
  intro x _
  rfl
end TT
end

section
set_option linter.all false
set_option autoImplicit false
namespace TT
theorem right_eq : s_law_right = (sSeq (sAsg (eNK (cP f_fewest_faults) (aCons (eVar 0) aNil) (aCons (eVar 1) aNil)) (TT.gName 3))
  (sSeq (sIf (tOr (tV (e1 (oIs false .non) (eVar 3))) (tV (e1 (oIs false .non) (eVar 2)))) (sRet (eAnd (e1 (oIs false .non) (eVar 3)) (e1 (oIs false .non) (eVar 2)))) sSkip)
  (sSeq (sIf (tNot (tT (eN (cP f_is_history) (aCons (eVar 2) aNil)))) (sRet (eC (.bl false))) sSkip)
  (sSeq (sIf (tV (e2 oNe (eLc [4] (iT (eVar 2)) (TT.gName 4) okT (eVar 4)) (eLst aNil))) (sRet (eC (.bl false))) sSkip)
  (sSeq (sAsg (eLc [6] (iL (e2 oIx (eN (cP f_law_course) (aCons (eVar 0) (aCons (eVar 2) (aCons (eVar 1) aNil)))) (eC (.int 0)))) (TT.gName 6) prT (eVar 6)) (TT.gName 5))
  (sSeq (sIf (tV (e2 oNe (eLc [6] (iL (eVar 5)) (TT.gName 6) tYes (e1 (oIs false .non) (e2 oIx (eVar 6) (eC (.int 1))))) (e2 oAdd (e2 oMul (eLst (aCons (eC (.bl false)) aNil)) (e2 oSub (eN fLen (aCons (eVar 5) aNil)) (eC (.int 1)))) (eLst (aCons (eC (.bl true)) aNil))))) (sRet (eC (.bl false))) sSkip)
  (sSeq (sIf (tV (e2 (oIn false) (e2 oIx (eVar 2) (e1 oNeg (eC (.int 1)))) (eLst (aCons (eC (.str [46, 46])) (aCons (eC (.str [97, 43])) aNil))))) (sRet (eC (.bl false))) sSkip)
  (sSeq (sIf (tV (e2 oNe (eN fLen (aCons (eLc [4] (iT (eVar 2)) (TT.gName 4) ftT (eVar 4)) aNil)) (eVar 3))) (sRet (eC (.bl false))) sSkip)
  (sRet (e2 oEq (eN fLen (aCons (eVar 2) aNil)) (eN (cP f_law_shortest) (aCons (eVar 0) (aCons (eVar 3) (aCons (eVar 1) aNil)))))))))))))) := rfl
theorem rep_flat : ∀ k : Nat, (List.replicate k [PV.bl false]).flatten = (List.replicate k false).map PV.bl
  | 0 => rfl
  | k + 1 => by
    rw [List.replicate_succ, List.flatten_cons, rep_flat k, List.replicate_succ]; rfl
theorem rep_false (k : Nat) : rep [PV.bl false] (k : Int) = (List.replicate k false).map PV.bl := by
  unfold rep
  rw [Int.toNat_natCast]
  exact rep_flat k
theorem len_p (p : List AEv) (m : Mm) : fLen [encP p] m = .ok (.int p.length, m) := by
  show Rs.ok (PV.int ((p.map AEv.lenc).length : Nat), m) = _
  rw [List.length_map]
/-- nothing to be told -/
theorem right_none {R : Rule} (ok : R.Ok) {c : Bool} (h : f_fewest [R.enc, .bl c] = .ok .non) (m : Mm) : cP f_law_right [R.enc, .bl c, .non] m = .ok (.bl true, m) := by
  refine cP_ok (by simp [enc_pu]) ?_
  have c1 := faults_ok ok (r := none) h []
  have c1 : cP f_fewest_faults [R.enc, .bl c] [] = .ok (.non, []) := c1
  have a1 : (sAsg (eNK (cP f_fewest_faults) (aCons (eVar 0) aNil) (aCons (eVar 1) aNil)) (TT.gName 3)) [some R.enc, some (.bl c), some .non, none, none, none, none] [] = .ok (.nx, [some R.enc, some (.bl c), some .non, some .non, none, none, none], []) := by simp [eNK_at, c1]
  have a2 : (sIf (tOr (tV (e1 (oIs false .non) (eVar 3))) (tV (e1 (oIs false .non) (eVar 2)))) (sRet (eAnd (e1 (oIs false .non) (eVar 3)) (e1 (oIs false .non) (eVar 2)))) sSkip) [some R.enc, some (.bl c), some .non, some .non, none, none, none] [] = .ok (.rt (.bl true), [some R.enc, some (.bl c), some .non, some .non, none, none, none], []) := rfl
  have b : bodyI 7 3 s_law_right [R.enc, .bl c, .non] [] = .ok (.bl true, []) := by
    unfold bodyI
    rw [if_pos (show [R.enc, PV.bl c, PV.non].length = 3 from rfl), right_eq]
    have e1 : startS 7 [R.enc, PV.bl c, PV.non] = [some R.enc, some (.bl c), some .non, none, none, none, none] := rfl
    rw [e1, seq_nx a1, seq_rt a2]; rfl
  exact body_fin b rfl
theorem right_some {R : Rule} (ok : R.Ok) {c : Bool} {f : Nat} {p : List AEv} {w : Bool} (h : f_fewest [R.enc, .bl c] = .ok (.int f)) (hh : hwE (some false) p = some w) (hl : p.length ≤ 38) (hv : validL R c ⟨firstA R, true⟩ p) (hb : (gbL R c).bad (endL R c ⟨firstA R, true⟩ p) = true) (hf : f = (p.map costE).sum) (hs : f_law_shortest [R.enc, .int f, .bl c] = .ok (.int (p.length + 1 : Nat))) (m : Mm) :
    cP f_law_right [R.enc, .bl c, encP (p ++ [.ask])] m = .ok (.bl true, m) := by
  refine cP_ok (by simp [enc_pu, encP_pu]) ?_
  obtain ⟨F, hF⟩ : ∃ F, F = encP (p ++ [.ask]) := ⟨_, rfl⟩
  have c1 : cP f_fewest_faults [R.enc, .bl c] [] = .ok (.int f, []) := faults_ok ok (r := some f) h []
  have hist : hwE (some false) (p ++ [.ask]) = some w := by rw [hwE_snoc, hh]; rfl
  have c2 : cP f_is_history [F] [] = .ok (.bl true, []) := by rw [hF]; exact history_ok hist (by simp; omega) []
  obtain ⟨z, c3⟩ := course_ok ok c (show p.length ≤ 900 by omega) hv []
  rw [← hF] at c3
  obtain ⟨outs, hO⟩ : ∃ outs, outs = outP R c ⟨R.server, 0, none⟩ p := ⟨_, rfl⟩
  rw [← hO] at c3
  have ol : outs.length ≤ 40 := by rw [hO, outP_len]; omega
  obtain ⟨k, hk⟩ := outs_told ok c p ⟨firstA R, true⟩ ⟨R.server, 0, none⟩ (lw_first ok) hv hb
  rw [← hO] at hk
  obtain ⟨prs, hP⟩ : ∃ prs, prs = outs.filterMap id := ⟨_, rfl⟩
  rw [← hP] at hk
  have pl : prs.length = k + 1 := by
    have := congrArg List.length hk
    rw [List.length_map, List.length_append, List.length_replicate] at this
    simpa using this
  have pl2 : prs.length ≤ 40 := by rw [hP]; exact Nat.le_trans (List.length_filterMap_le _ _) ol
  have c4 : cP f_law_shortest [R.enc, .int f, .bl c] [] = .ok (.int (p.length + 1 : Nat), []) := cP_ok (by simp [enc_pu]) hs
  have iF : ∀ s : Sl, s[2]? = some (some F) → iT (eVar 2) s [] = .ok ((p ++ [AEv.ask]).map AEv.lenc, []) := fun s hs => by
    unfold iT
    simp only [eVar_ap, hs, Rs.bind_ok]
    rw [hF]; rfl
  have a1 : (sAsg (eNK (cP f_fewest_faults) (aCons (eVar 0) aNil) (aCons (eVar 1) aNil)) (TT.gName 3)) [some R.enc, some (.bl c), some F, none, none, none, none] [] = .ok (.nx, [some R.enc, some (.bl c), some F, some (.int f), none, none, none], []) := by simp [eNK_at, c1]
  have a2 : (sIf (tOr (tV (e1 (oIs false .non) (eVar 3))) (tV (e1 (oIs false .non) (eVar 2)))) (sRet (eAnd (e1 (oIs false .non) (eVar 3)) (e1 (oIs false .non) (eVar 2)))) sSkip) [some R.enc, some (.bl c), some F, some (.int f), none, none, none] [] = .ok (.nx, [some R.enc, some (.bl c), some F, some (.int f), none, none, none], []) := by
    have i : oIs false .non F [] = .ok (.bl false, []) := by rw [hF]; rfl
    simp [i]
  have a3 : (sIf (tNot (tT (eN (cP f_is_history) (aCons (eVar 2) aNil)))) (sRet (eC (.bl false))) sSkip) [some R.enc, some (.bl c), some F, some (.int f), none, none, none] [] = .ok (.nx, [some R.enc, some (.bl c), some F, some (.int f), none, none, none], []) := by simp [c2]
  have a4 : (sIf (tV (e2 oNe (eLc [4] (iT (eVar 2)) (TT.gName 4) okT (eVar 4)) (eLst aNil))) (sRet (eC (.bl false))) sSkip) [some R.enc, some (.bl c), some F, some (.int f), none, none, none] [] = .ok (.nx, [some R.enc, some (.bl c), some F, some (.int f), none, none, none], []) := by
    have l : (eLc [4] (iT (eVar 2)) (TT.gName 4) okT (eVar 4)) [some R.enc, some (.bl c), some F, some (.int f), none, none, none] [] = .ok (.vl [], []) := by
      rw [eLc_ap, iF _ rfl, Rs.bind_ok]
      show Rs.bind (lcL (TT.gName 4) okT (eVar 4) [some R.enc, some (.bl c), some F, some (.int f), none, none, none] ((p ++ [AEv.ask]).map AEv.lenc) [] []) _ = _
      rw [lc_ok _ rfl]; rfl
    have ne : oNe (.vl []) (.vl []) [] = .ok (.bl false, []) := rfl
    generalize (eLc [4] (iT (eVar 2)) (TT.gName 4) okT (eVar 4)) = LC at l ⊢
    simp [l, ne]
  have a5 : (sAsg (eLc [6] (iL (e2 oIx (eN (cP f_law_course) (aCons (eVar 0) (aCons (eVar 2) (aCons (eVar 1) aNil)))) (eC (.int 0)))) (TT.gName 6) prT (eVar 6)) (TT.gName 5)) [some R.enc, some (.bl c), some F, some (.int f), none, none, none] [] = .ok (.nx, [some R.enc, some (.bl c), some F, some (.int f), none, some (.vl (prs.map fun q => encW (some q))), none], []) := by
    have ix : oIx (.tup [.vl (outs.map encW), z.V]) (.int 0) [] = .ok (.vl (outs.map encW), []) := rfl
    have il : (iL (e2 oIx (eN (cP f_law_course) (aCons (eVar 0) (aCons (eVar 2) (aCons (eVar 1) aNil)))) (eC (.int 0)))) [some R.enc, some (.bl c), some F, some (.int f), none, none, none] [] = .ok (outs.map encW, []) := by
      simp [c3, ix]
    have l : (eLc [6] (iL (e2 oIx (eN (cP f_law_course) (aCons (eVar 0) (aCons (eVar 2) (aCons (eVar 1) aNil)))) (eC (.int 0)))) (TT.gName 6) prT (eVar 6)) [some R.enc, some (.bl c), some F, some (.int f), none, none, none] [] = .ok (.vl (prs.map fun q => encW (some q)), []) := by
      rw [eLc_ap, il, Rs.bind_ok]
      show Rs.bind (lcL (TT.gName 6) prT (eVar 6) [some R.enc, some (.bl c), some F, some (.int f), none, none, none] (outs.map encW) [] []) _ = _
      rw [lc_pr _ rfl _ _ _ (by simp; omega), hP]; rfl
    rw [sAsg_ap, l, Rs.bind_ok]; rfl
  have a6 : (sIf (tV (e2 oNe (eLc [6] (iL (eVar 5)) (TT.gName 6) tYes (e1 (oIs false .non) (e2 oIx (eVar 6) (eC (.int 1))))) (e2 oAdd (e2 oMul (eLst (aCons (eC (.bl false)) aNil)) (e2 oSub (eN fLen (aCons (eVar 5) aNil)) (eC (.int 1)))) (eLst (aCons (eC (.bl true)) aNil))))) (sRet (eC (.bl false))) sSkip) [some R.enc, some (.bl c), some F, some (.int f), none, some (.vl (prs.map fun q => encW (some q))), none] [] = .ok (.nx, [some R.enc, some (.bl c), some F, some (.int f), none, some (.vl (prs.map fun q => encW (some q))), none], []) := by
    have l : (eLc [6] (iL (eVar 5)) (TT.gName 6) tYes (e1 (oIs false .non) (e2 oIx (eVar 6) (eC (.int 1))))) [some R.enc, some (.bl c), some F, some (.int f), none, some (.vl (prs.map fun q => encW (some q))), none] [] = .ok (.vl ((List.replicate k false ++ [true]).map PV.bl), []) := by
      have il : iL (eVar 5) [some R.enc, some (.bl c), some F, some (.int f), none, some (.vl (prs.map fun q => encW (some q))), none] [] = .ok (prs.map fun q => encW (some q), []) := rfl
      rw [eLc_ap, il, Rs.bind_ok]
      show Rs.bind (lcL (TT.gName 6) tYes (e1 (oIs false .non) (e2 oIx (eVar 6) (eC (.int 1)))) [some R.enc, some (.bl c), some F, some (.int f), none, some (.vl (prs.map fun q => encW (some q))), none] (prs.map fun q => encW (some q)) [] []) _ = _
      rw [lc_nn _ rfl _ _ _ (by simp; omega), hk]; rfl
    have r : (e2 oAdd (e2 oMul (eLst (aCons (eC (.bl false)) aNil)) (e2 oSub (eN fLen (aCons (eVar 5) aNil)) (eC (.int 1)))) (eLst (aCons (eC (.bl true)) aNil))) [some R.enc, some (.bl c), some F, some (.int f), none, some (.vl (prs.map fun q => encW (some q))), none] [] = .ok (.vl ((List.replicate k false ++ [true]).map PV.bl), []) := by
      have fl : fLen [.vl (prs.map fun q => encW (some q))] [] = .ok (.int (k + 1 : Nat), []) := by
        rw [fLen_vl, List.length_map, pl]
      have mu : oMul (.vl [.bl false]) (.int (k : Nat)) [] = .ok (.vl ((List.replicate k false).map PV.bl), []) := by
        have h1 : (k : Int) ≤ 1000 := by omega
        have h2 : (-1000 : Int) ≤ k := by omega
        have h3 := rep_false k
        simp [oMul, look1, h1, h2, h3]
      have ad : oAdd (.vl ((List.replicate k false).map PV.bl)) (.vl [.bl true]) [] = .ok (.vl ((List.replicate k false ++ [true]).map PV.bl), []) := by
        rw [oAdd_vl, if_pos (by rw [List.length_map, List.length_replicate]; exact line_small (by simp; omega)), List.map_append]; rfl
      have e1 : (e2 oSub (eN fLen (aCons (eVar 5) aNil)) (eC (.int 1))) [some R.enc, some (.bl c), some F, some (.int f), none, some (.vl (prs.map fun q => encW (some q))), none] [] = .ok (.int (k : Nat), []) := by
        simp [pl]
      generalize (e2 oSub (eN fLen (aCons (eVar 5) aNil)) (eC (.int 1))) = SB at e1 ⊢
      simp only [e2_ap, eLst_ap, aCons_ap, aNil_ap, eC_ap, Rs.bind_ok, e1, mu, ad]
    have ne : oNe (.vl ((List.replicate k false ++ [true]).map PV.bl)) (.vl ((List.replicate k false ++ [true]).map PV.bl)) [] = .ok (.bl false, []) := by
      refine (oNe_of (v := .vl ((List.replicate k false ++ [true]).map PV.bl)) (w := .vl ((List.replicate k false ++ [true]).map PV.bl)) (m := []) (bls_sh _) (bls_sh _)).trans ?_
      show Rs.ok (PV.bl (!PV.eqvs ((List.replicate k false ++ [true]).map PV.bl) ((List.replicate k false ++ [true]).map PV.bl)), ([] : Mm)) = _
      rw [eqvs_bl]; rfl
    generalize (PV.vl ((List.replicate k false ++ [true]).map PV.bl)) = BV at l r ne
    generalize (e2 oAdd (e2 oMul (eLst (aCons (eC (.bl false)) aNil)) (e2 oSub (eN fLen (aCons (eVar 5) aNil)) (eC (.int 1)))) (eLst (aCons (eC (.bl true)) aNil))) = RE at r ⊢
    generalize (eLc [6] (iL (eVar 5)) (TT.gName 6) tYes (e1 (oIs false .non) (e2 oIx (eVar 6) (eC (.int 1))))) = LC at l ⊢
    simp [l, r, ne]
  obtain ⟨PR, hPR⟩ : ∃ PR, PR = PV.vl (prs.map fun q => encW (some q)) := ⟨_, rfl⟩
  rw [← hPR] at a5 a6
  have a7 : (sIf (tV (e2 (oIn false) (e2 oIx (eVar 2) (e1 oNeg (eC (.int 1)))) (eLst (aCons (eC (.str [46, 46])) (aCons (eC (.str [97, 43])) aNil))))) (sRet (eC (.bl false))) sSkip) [some R.enc, some (.bl c), some F, some (.int f), none, some PR, none] [] = .ok (.nx, [some R.enc, some (.bl c), some F, some (.int f), none, some PR, none], []) := by
    have ix : oIx F (.int (-1)) [] = .ok (.str [97, 33], []) := by
      rw [hF]
      refine oIx_tup ?_
      have e : (p ++ [AEv.ask]).map AEv.lenc = p.map AEv.lenc ++ [.str [97, 33]] := by rw [List.map_append]; rfl
      rw [e]
      unfold atI ixN
      have l : (p.map AEv.lenc ++ [PV.str [97, 33]]).length = p.length + 1 := by simp
      rw [l]
      rw [if_neg (by decide), if_pos (by omega)]
      show (p.map AEv.lenc ++ [PV.str [97, 33]])[((-1 : Int) + ((p.length + 1 : Nat) : Int)).toNat]? = _
      rw [show ((-1 : Int) + ((p.length + 1 : Nat) : Int)).toNat = p.length by omega, List.getElem?_append_right (by simp)]
      simp
    have i : oIn false (.str [97, 33]) (.vl [.str [46, 46], .str [97, 43]]) [] = .ok (.bl false, []) := rfl
    simp [ix, i]
  have a8 : (sIf (tV (e2 oNe (eN fLen (aCons (eLc [4] (iT (eVar 2)) (TT.gName 4) ftT (eVar 4)) aNil)) (eVar 3))) (sRet (eC (.bl false))) sSkip) [some R.enc, some (.bl c), some F, some (.int f), none, some PR, none] [] = .ok (.nx, [some R.enc, some (.bl c), some F, some (.int f), none, some PR, none], []) := by
    obtain ⟨L, l1, l2⟩ := lc_ft [some R.enc, some (.bl c), some F, some (.int f), none, some PR, none] rfl [] (p ++ [AEv.ask]) [] (by simp; omega)
    have l3 : L.length = f := by rw [l2, hf, List.map_append, List.sum_append]; rfl
    have l : (eLc [4] (iT (eVar 2)) (TT.gName 4) ftT (eVar 4)) [some R.enc, some (.bl c), some F, some (.int f), none, some PR, none] [] = .ok (.vl L, []) := by
      rw [eLc_ap, iF _ rfl, Rs.bind_ok]
      show Rs.bind (lcL (TT.gName 4) ftT (eVar 4) [some R.enc, some (.bl c), some F, some (.int f), none, some PR, none] ((p ++ [AEv.ask]).map AEv.lenc) [] []) _ = _
      rw [l1]; rfl
    generalize (eLc [4] (iT (eVar 2)) (TT.gName 4) ftT (eVar 4)) = LC at l ⊢
    simp [l, l3]
  have a9 : (sRet (e2 oEq (eN fLen (aCons (eVar 2) aNil)) (eN (cP f_law_shortest) (aCons (eVar 0) (aCons (eVar 3) (aCons (eVar 1) aNil)))))) [some R.enc, some (.bl c), some F, some (.int f), none, some PR, none] [] = .ok (.rt (.bl true), [some R.enc, some (.bl c), some F, some (.int f), none, some PR, none], []) := by
    have fl : fLen [F] [] = .ok (.int (p.length + 1 : Nat), []) := by
      rw [hF, len_p, List.length_append]; rfl
    generalize ((p.length + 1 : Nat) : Int) = A at fl c4
    simp [fl, c4]
  have b : bodyI 7 3 s_law_right [R.enc, .bl c, F] [] = .ok (.bl true, []) := by
    unfold bodyI
    rw [if_pos (show [R.enc, PV.bl c, F].length = 3 from rfl), right_eq]
    have e1 : startS 7 [R.enc, PV.bl c, F] = [some R.enc, some (.bl c), some F, none, none, none, none] := rfl
    rw [e1, seq_nx a1, seq_nx a2, seq_nx a3, seq_nx a4, seq_nx a5, seq_nx a6, seq_nx a7, seq_nx a8, a9]; rfl
  rw [← hF]
  exact body_fin b rfl
end TT
end

section
set_option linter.all false
set_option autoImplicit false
namespace TT
theorem easy_ok {m : Mm} {b : Nat} {a s : Int} (h : m[b]? = some (.lst [.int a, .int s])) :
    ∃ R : Rule, R.Ok ∧ (R.leeway = none ∨ R.spare = none) ∧ ∃ a' s' : Int, i_law_easy [.ref b] m = .ok (R.enc, m.set b (.lst [.int a', .int s'])) := by
  obtain ⟨R, ok, a0, s0, e0⟩ := rule_ok h
  have h0 := getset1 (o' := .lst [.int a0, .int s0]) h
  obtain ⟨keep, new, strict, leeway, spare, every, fin⟩ := R
  have i3 : ∀ m, oIx (Rule.enc ⟨keep, new, strict, leeway, spare, every, fin⟩) (.int 3) m = .ok (encO leeway, m) := fun m => rfl
  have i4 : ∀ m, oIx (Rule.enc ⟨keep, new, strict, leeway, spare, every, fin⟩) (.int 4) m = .ok (encO spare, m) := fun m => rfl
  have h3 : ∀ m, oSlice none (some 3) (Rule.enc ⟨keep, new, strict, leeway, spare, every, fin⟩) m = .ok (.tup [.int keep, .str (if new then sNew else sSame), .bl strict], m) := fun m => rfl
  have l5 : ∀ m, oSlice (some 5) none (Rule.enc ⟨keep, new, strict, leeway, spare, every, fin⟩) m = .ok (.tup [.int every, .str (if fin then sEnd else sRefuse)], m) := fun m => rfl
  have ad : ∀ (x y : PV) m, oAdd (.tup [.int keep, .str (if new then sNew else sSame), .bl strict]) (.tup [x, y]) m = .ok (.tup [.int keep, .str (if new then sNew else sSame), .bl strict, x, y], m) := fun x y m => rfl
  have ad2 : ∀ (x y : Option Int) m, oAdd (.tup [.int keep, .str (if new then sNew else sSame), .bl strict, encO x, encO y]) (.tup [.int every, .str (if fin then sEnd else sRefuse)]) m = .ok (Rule.enc ⟨keep, new, strict, x, y, every, fin⟩, m) := fun x y m => rfl
  by_cases hc : leeway = none ∨ spare = none
  · refine ⟨⟨keep, new, strict, leeway, spare, every, fin⟩, ok, hc, a0, s0, ?_⟩
    generalize Rule.enc ⟨keep, new, strict, leeway, spare, every, fin⟩ = V at *
    simp only [i_law_easy, bodyI, s_law_easy]
    rcases hc with rfl | rfl
    · simp [startS, cI, e0, i3, encO, endF]
    · cases leeway <;> simp [startS, cI, e0, i3, i4, encO, endF]
  · cases leeway with
    | none => exact absurd (.inl rfl) hc
    | some x =>
      cases spare with
      | none => exact absurd (.inr rfl) hc
      | some y =>
        obtain ⟨v, mv, a1, s1, e1⟩ := of_ok (xs := [.tup [.non, .int y], .tup [.int x, .non]]) h0 (show 0 < 2 by decide) (show 2 < 1073741824 by decide)
        simp only [List.set_set] at e1
        simp only [List.mem_cons, List.mem_nil_iff, or_false] at mv
        rcases mv with rfl | rfl
        · have q1 := ad .non (.int y)
          have q2 := ad2 none (some y)
          refine ⟨⟨keep, new, strict, none, some y, every, fin⟩, ⟨ok.keep, .inl rfl, ok.spare, ok.every⟩, .inl rfl, a1, s1, ?_⟩
          generalize Rule.enc ⟨keep, new, strict, some x, some y, every, fin⟩ = V at *
          generalize Rule.enc ⟨keep, new, strict, none, some y, every, fin⟩ = V2 at *
          generalize PV.str (if new then sNew else sSame) = w1 at *
          generalize PV.str (if fin then sEnd else sRefuse) = w2 at *
          simp only [encO] at q2 i3 i4
          simp only [i_law_easy, bodyI, s_law_easy]
          simp [startS, cI, e0, e1, i3, i4, h3, l5, q1, q2, encO, endF]
        · have q1 := ad (.int x) .non
          have q2 := ad2 (some x) none
          refine ⟨⟨keep, new, strict, some x, none, every, fin⟩, ⟨ok.keep, ok.leeway, .inl rfl, ok.every⟩, .inr rfl, a1, s1, ?_⟩
          generalize Rule.enc ⟨keep, new, strict, some x, some y, every, fin⟩ = V at *
          generalize Rule.enc ⟨keep, new, strict, some x, none, every, fin⟩ = V2 at *
          generalize PV.str (if new then sNew else sSame) = w1 at *
          generalize PV.str (if fin then sEnd else sRefuse) = w2 at *
          simp only [encO] at q2 i3 i4
          simp only [i_law_easy, bodyI, s_law_easy]
          simp [startS, cI, e0, e1, i3, i4, h3, l5, q1, q2, encO, endF]


theorem two_ok {R : Rule} (ok : R.Ok) (ez : R.leeway = none ∨ R.spare = none) (c : Bool) : ∃ (F : PV) (r : Option Nat), Tells (grP R c) r ∧ F.pu = true ∧ (∀ m, cP f_fault_history [R.enc, .bl c] m = .ok (F, m)) ∧ (∀ m, cP f_law_right [R.enc, .bl c, F] m = .ok (.bl true, m)) ∧
    ∀ f, r = some f → ∃ p n, F = encP (p ++ [.ask]) ∧ Wlk (gbP R c) n f p ∧ (gbP R c).bad n = true ∧ ∀ n' f' p', Wlk (gbP R c) n' f' p' → f' ≤ f → (gbP R c).bad n' = true → p.length ≤ p'.length := by
  obtain ⟨r, ht, hf⟩ := fewest_ok ok c
  cases r with
  | none => exact ⟨.non, none, ht, rfl, fault_none ok hf, right_none ok hf, fun f z => nomatch z⟩
  | some f =>
    obtain ⟨f3, n0, p0, w0, b0, l0⟩ := near_ok ok ez ht
    obtain ⟨p, n, f', e1, w1, h1, b1, m1⟩ := shortest_ok ok c (most := f) (by omega) w0 (Nat.le_refl _) b0
    have ef : f' = f := by
      by_cases h : f' < f
      · have q1 := ht.2 f' h n (wk_rch w1)
        have q2 : (grP R c).bad n = true := b1
        rw [q1] at q2; cases q2
      · omega
    subst ef
    have pl := m1 n0 f' p0 w0 (Nat.le_refl _) b0
    obtain ⟨b, hb, wb⟩ := wk_up w1
    obtain ⟨v1, v2, v3⟩ := wk_valid wb
    obtain ⟨w, hw, _⟩ := wk_hist w1
    have bb : (gbL R c).bad b = true := by rw [phi_bad, hb]; exact b1
    obtain ⟨b2, hb2, wb2⟩ := wk_up w0
    have bb2 : (gbL R c).bad b2 = true := by rw [phi_bad, hb2]; exact b0
    obtain ⟨d, n2, f2, p2, s1, s2, s3, s4, s5, s6⟩ := lshortest_ok ok ez (most := f') (by omega) wb2 (Nat.le_refl _) bb2 (by omega)
    have d1 := s6 b f' p wb (Nat.le_refl _) bb
    obtain ⟨p3, w3, l3⟩ := wk_down s2
    have d2 := m1 (phi c n2) f2 p3 w3 s3 (by rw [← phi_bad]; exact s4)
    have ed : d = p.length := by omega
    rw [ed] at s1
    refine ⟨encP (p ++ [.ask]), some f', ht, encP_pu _, fault_some ok hf e1, right_some ok hf hw (by omega) v1 (by rw [v2]; exact bb) v3 s1, fun f z => ?_⟩
    cases z
    exact ⟨p, n, rfl, w1, b1, m1⟩
/-! the rule of the last line -/
def R2 : Rule := ⟨0, false, false, none, none, 1, true⟩
theorem r2_ok : R2.Ok := ⟨⟨by decide, by decide⟩, .inl rfl, .inl rfl, ⟨by decide, by decide⟩⟩
theorem r2_tells : Tells (grP R2 false) (some 1) := by
  refine ⟨⟨movedA R2 false (firstA R2) .drop, by decide, .fault (.start 0) (by decide) (List.mem_map.mpr ⟨.drop, by decide, rfl⟩)⟩, fun j hj n hn => ?_⟩
  cases hb : (grP R2 false).bad n with
  | false => rfl
  | true => exact absurd (lb_one hn hb) (by omega)
theorem wk_nil {α ε : Type} {G : Bg α ε} {n : α} {f : Nat} {p : List ε} (h : Wlk G n f p) (hp : p = []) : n = G.start := by
  cases h with
  | nil => rfl
  | step h1 h2 h3 => exact absurd hp (by simp)
theorem r2_len : ∃ F : PV, (∀ m, cP f_fault_history [R2.enc, .bl false] m = .ok (F, m)) ∧ ∀ m, fLen [F] m = .ok (.int 2, m) := by
  obtain ⟨F, r, ht, _, h1, _, h2⟩ := two_ok r2_ok (.inl rfl) false
  have := tells_unique _ ht r2_tells
  subst this
  obtain ⟨p, n, rfl, w, b, hm⟩ := h2 1 rfl
  refine ⟨_, h1, fun m => ?_⟩
  have l1 := hm (movedA R2 false (firstA R2) .drop) 1 [.drop] (.step (w := 1) (.nil (G := gbP R2 false)) (by decide) (List.mem_map.mpr ⟨.drop, by decide, rfl⟩)) (Nat.le_refl _) (by decide)
  have l2 : p ≠ [] := fun z => by
    have := wk_nil w z
    rw [this] at b
    exact absurd b (by decide)
  have l3 : 0 < p.length := List.length_pos_iff.mpr l2
  simp only [List.length_singleton] at l1
  rw [len_p, List.length_append, List.length_singleton, show p.length = 1 by omega]
  rfl
/-! the law -/
def twoB : SS := (sIf (tNot (tT (eN (cP f_law_right) (aCons (eVar 3) (aCons (eVar 4) (aCons (eNK (cP f_fault_history) (aCons (eVar 3) aNil) (aCons (eVar 4) aNil)) aNil)))))) (sRet (eC (.bl false))) sSkip)
def bagB : SS := (sSeq (sAsg (eN (cI i_law_bag) (aCons (eVar 0) (aCons (eVar 1) aNil))) (TT.gName 2))
  (sSeq (sAsg (eN (cI i_law_easy) (aCons (eVar 2) aNil)) (TT.gName 3))
  (sFor (iL (eLst (aCons (eC (.bl false)) (aCons (eC (.bl true)) aNil)))) (TT.gName 4) twoB)))
theorem law_eq : s_law = (sSeq (sFor (TT.iRng1 (e2 oAdd (eN fMin (aCons (eN fLen (aCons (eVar 0) aNil)) (aCons (eC (.int 5)) aNil))) (eC (.int 1)))) (TT.gName 1) bagB)
  (sRet (e2 oEq (eN fLen (aCons (eND (cP f_fault_history) (aCons (eTup (aCons (eC (.int 0)) (aCons (eC (.str [115, 97, 109, 101])) (aCons (eC (.bl false)) (aCons (eC .non) (aCons (eC .non) (aCons (eC (.int 1)) (aCons (eC (.str [101, 110, 100])) aNil)))))))) aNil) [(.bl false)]) aNil)) (eC (.int 2))))) := rfl
theorem bag_turn (ns : List Int) (k : Int) (h0 : 0 ≤ k) (h1 : k < 1000) (x2 x3 x4 : Option PV) (m : Mm) :
    ∃ y2 y3 y4 m', bagB [some (.fz (ns.map PV.int)), some (.int k), x2, x3, x4] m = .ok (.nx, [some (.fz (ns.map PV.int)), some (.int k), y2, y3, y4], m') := by
  obtain ⟨a, s, eb⟩ := bag_ok (m := m) (xs := ns.map PV.int) h0 h1 (fun x hx => by obtain ⟨i, _, e⟩ := List.mem_map.mp hx; exact ⟨i, e.symm⟩)
  obtain ⟨m1, hm1⟩ : ∃ m1, m1 = m ++ [Ob.lst [.int a, .int s]] := ⟨_, rfl⟩
  rw [← hm1] at eb
  have k1 : m1[m.length]? = some (.lst [.int a, .int s]) := by rw [hm1]; simp
  generalize m.length = b at eb k1
  obtain ⟨R, ok, ez, a2, s2, er⟩ := easy_ok k1
  obtain ⟨m2, hm2⟩ : ∃ m2, m2 = m1.set b (.lst [.int a2, .int s2]) := ⟨_, rfl⟩
  rw [← hm2] at er
  have one : ∀ c : Bool, ∃ F : PV, (∀ m, cP f_fault_history [R.enc, .bl c] m = .ok (F, m)) ∧ ∀ m, cP f_law_right [R.enc, .bl c, F] m = .ok (.bl true, m) := fun c => by
    obtain ⟨F, r, _, _, h1, h2, _⟩ := two_ok ok ez c
    exact ⟨F, h1, h2⟩
  generalize R.enc = V at er one
  have b1 : (sAsg (eN (cI i_law_bag) (aCons (eVar 0) (aCons (eVar 1) aNil))) (TT.gName 2)) [some (.fz (ns.map PV.int)), some (.int k), x2, x3, x4] m = .ok (.nx, [some (.fz (ns.map PV.int)), some (.int k), some (.ref b), x3, x4], m1) := by simp [cI, eb]
  have b2 : (sAsg (eN (cI i_law_easy) (aCons (eVar 2) aNil)) (TT.gName 3)) [some (.fz (ns.map PV.int)), some (.int k), some (.ref b), x3, x4] m1 = .ok (.nx, [some (.fz (ns.map PV.int)), some (.int k), some (.ref b), some V, x4], m2) := by simp [cI, er]
  have tw : ∀ c : Bool, twoB [some (.fz (ns.map PV.int)), some (.int k), some (.ref b), some V, some (.bl c)] m2 = .ok (.nx, [some (.fz (ns.map PV.int)), some (.int k), some (.ref b), some V, some (.bl c)], m2) := fun c => by
    obtain ⟨F, h2, h3⟩ := one c
    simp [twoB, eNK_at, h2, h3]
  have b3 : (sFor (iL (eLst (aCons (eC (.bl false)) (aCons (eC (.bl true)) aNil)))) (TT.gName 4) twoB) [some (.fz (ns.map PV.int)), some (.int k), some (.ref b), some V, x4] m2 = .ok (.nx, [some (.fz (ns.map PV.int)), some (.int k), some (.ref b), some V, some (.bl true)], m2) := by
    have il : (iL (eLst (aCons (eC (.bl false)) (aCons (eC (.bl true)) aNil)))) [some (.fz (ns.map PV.int)), some (.int k), some (.ref b), some V, x4] m2 = .ok ([.bl false, .bl true], m2) := rfl
    rw [sFor_ap, il, Rs.bind_ok, forL_cons]
    simp only [gName_ap, Rs.bind_ok]
    show Rs.bind (twoB [some (.fz (ns.map PV.int)), some (.int k), some (.ref b), some V, some (.bl false)] m2) _ = _
    rw [tw false]
    simp only [Rs.bind_ok]
    rw [forL_cons]
    simp only [gName_ap, Rs.bind_ok]
    show Rs.bind (twoB [some (.fz (ns.map PV.int)), some (.int k), some (.ref b), some V, some (.bl true)] m2) _ = _
    rw [tw true]
    rfl
  refine ⟨some (.ref b), some V, some (.bl true), m2, ?_⟩
  unfold bagB
  rw [seq_nx b1, seq_nx b2, b3]
theorem bags_ok (ns : List Int) : ∀ (n : Nat) (k : Int), 0 ≤ k → k + n ≤ 1000 → ∀ (x1 x2 x3 x4 : Option PV) (m : Mm), ∃ y1 y2 y3 y4 m', forL (gName 1) bagB (rngL k n) [some (.fz (ns.map PV.int)), x1, x2, x3, x4] m = .ok (.nx, [some (.fz (ns.map PV.int)), y1, y2, y3, y4], m')
  | 0, k, _, _, x1, x2, x3, x4, m => ⟨x1, x2, x3, x4, m, rfl⟩
  | n + 1, k, h0, h1, x1, x2, x3, x4, m => by
    obtain ⟨y2, y3, y4, m1, e1⟩ := bag_turn ns k h0 (by omega) x2 x3 x4 m
    obtain ⟨z1, z2, z3, z4, m2, e2⟩ := bags_ok ns n (k + 1) (by omega) (by omega) (some (.int k)) y2 y3 y4 m1
    refine ⟨z1, z2, z3, z4, m2, ?_⟩
    rw [rngL, forL_cons]
    simp [e1, e2]
theorem law_holds (ns : List Int) (hl : ns.length ≤ 63) : ∃ m, bodyI 5 1 s_law [.fz (ns.map PV.int)] [] = .ok (.bl true, m) := by
  obtain ⟨n, hn2, eg⟩ := span_ok 5 1 (by omega) (by omega) ns hl [some (.fz (ns.map PV.int)), none, none, none, none] rfl []
  obtain ⟨y1, y2, y3, y4, m', e3⟩ := bags_ok ns n 0 (by decide) (by omega) none none none none []
  refine ⟨m', ?_⟩
  obtain ⟨F, cc, fl⟩ := r2_len
  have en : R2.enc = .tup [.int 0, .str [115, 97, 109, 101], .bl false, .non, .non, .int 1, .str [101, 110, 100]] := rfl
  rw [en] at cc
  rw [law_eq]
  unfold bodyI
  rw [if_pos (show [PV.fz (ns.map PV.int)].length = 1 from rfl)]
  show endF (sSeq _ _ [some (.fz (ns.map PV.int)), none, none, none, none] []) = _
  rw [sSeq_ap, sFor_ap]
  have eg : TT.iRng1 (e2 oAdd (eN fMin (aCons (eN fLen (aCons (eVar 0) aNil)) (aCons (eC (.int 5)) aNil))) (eC (.int 1))) [some (.fz (ns.map PV.int)), none, none, none, none] [] = .ok (rngL 0 n, []) := eg
  rw [eg, Rs.bind_ok, e3]
  simp [eND_at, cc, fl, endF]
end TT
end

section
set_option Elab.async false
set_option linter.all false
set_option autoImplicit false
set_option maxRecDepth 100000
set_option maxHeartbeats 4000000
namespace TT
open PySem PySem.Spec PyProof.Rows L2
def topS (i : Nat) : Stmt := PySem.Challenge.pw_tokenturns_k06_histories_with_fewest_fau.main.body.getD i (.Pass ⟨0, 0, 0, 0⟩)
structure Blt (mg : Str → Option Value) : Prop where
  b_all : mg "all" = none
  b_bool : mg "bool" = none
  b_int : mg "int" = none
  b_isinstance : mg "isinstance" = none
  b_len : mg "len" = none
  b_list : mg "list" = none
  b_max : mg "max" = none
  b_min : mg "min" = none
  b_range : mg "range" = none
  b_str : mg "str" = none
  b_tuple : mg "tuple" = none
  b_zip : mg "zip" = none
abbrev st_is_choice : Stmt := topS 6
abbrev n_is_choice : List Str := ["value", "choices", "one"]
theorem S_is_choice : FnScope n_is_choice ["value", "choices"] (defScope st_is_choice) := ⟨rfl, rfl, rfl, by decide +kernel, rfl, by decide +kernel, by decide +kernel⟩
abbrev st_first_stand : Stmt := topS 9
abbrev n_first_stand : List Str := ["rule", "keep", "reply", "strict", "leeway", "spare", "ages"]
theorem S_first_stand : FnScope n_first_stand ["rule"] (defScope st_first_stand) := ⟨rfl, rfl, rfl, by decide +kernel, rfl, by decide +kernel, by decide +kernel⟩
abbrev st_is_good : Stmt := topS 10
abbrev n_is_good : List Str := ["rule", "stand", "old_by", "keep", "reply", "strict", "leeway", "spare"]
theorem S_is_good : FnScope n_is_good ["rule", "stand", "old_by"] (defScope st_is_good) := ⟨rfl, rfl, rfl, by decide +kernel, rfl, by decide +kernel, by decide +kernel⟩
abbrev st_with_token : Stmt := topS 11
abbrev n_with_token : List Str := ["rule", "lead", "ages", "spared", "counted"]
theorem S_with_token : FnScope n_with_token ["rule", "lead", "ages", "spared", "counted"] (defScope st_with_token) := ⟨rfl, rfl, rfl, by decide +kernel, rfl, by decide +kernel, by decide +kernel⟩
abbrev st_ticked : Stmt := topS 13
abbrev n_ticked : List Str := ["rule", "stand", "leeway", "age"]
theorem S_ticked : FnScope n_ticked ["rule", "stand"] (defScope st_ticked) := ⟨rfl, rfl, rfl, by decide +kernel, rfl, by decide +kernel, by decide +kernel⟩
abbrev st_older : Stmt := topS 14
abbrev n_older : List Str := ["rule", "old_by", "outcome"]
theorem S_older : FnScope n_older ["rule", "old_by", "outcome"] (defScope st_older) := ⟨rfl, rfl, rfl, by decide +kernel, rfl, by decide +kernel, by decide +kernel⟩
abbrev st_is_event : Stmt := topS 30
abbrev n_is_event : List Str := ["value"]
theorem S_is_event : FnScope n_is_event ["value"] (defScope st_is_event) := ⟨rfl, rfl, rfl, by decide +kernel, rfl, by decide +kernel, by decide +kernel⟩
abbrev st__law_bag : Stmt := topS 33
abbrev n__law_bag : List Str := ["_law_script", "_law_k", "_law_cell", "_law_first", "_law_seed"]
theorem S__law_bag : FnScope n__law_bag ["_law_script", "_law_k"] (defScope st__law_bag) := ⟨rfl, rfl, rfl, by decide +kernel, rfl, by decide +kernel, by decide +kernel⟩
abbrev st__law_take : Stmt := topS 34
abbrev n__law_take : List Str := ["_law_bag_here", "_law_count", "_law_found", "_law_mixed"]
theorem S__law_take : FnScope n__law_take ["_law_bag_here", "_law_count"] (defScope st__law_take) := ⟨rfl, rfl, rfl, by decide +kernel, rfl, by decide +kernel, by decide +kernel⟩
abbrev st__law_server : Stmt := topS 38
abbrev n__law_server : List Str := ["_law_rule_here"]
theorem S__law_server : FnScope n__law_server ["_law_rule_here"] (defScope st__law_server) := ⟨rfl, rfl, rfl, by decide +kernel, rfl, by decide +kernel, by decide +kernel⟩
abbrev st__law_accepts : Stmt := topS 39
abbrev n__law_accepts : List Str := ["_law_rule_here", "_law_server_here", "_law_token"]
theorem S__law_accepts : FnScope n__law_accepts ["_law_rule_here", "_law_server_here", "_law_token"] (defScope st__law_accepts) := ⟨rfl, rfl, rfl, by decide +kernel, rfl, by decide +kernel, by decide +kernel⟩
abbrev st__law_key : Stmt := topS 44
abbrev n__law_key : List Str := ["_law_rule_here", "_law_server_here", "_law_ages", "_law_k", "_law_age", "_law_lead"]
theorem S__law_key : FnScope n__law_key ["_law_rule_here", "_law_server_here"] (defScope st__law_key) := ⟨rfl, rfl, rfl, by decide +kernel, rfl, by decide +kernel, by decide +kernel⟩
abbrev st__law_old : Stmt := topS 45
abbrev n__law_old : List Str := ["_law_rule_here", "_law_server_here", "_law_token"]
theorem S__law_old : FnScope n__law_old ["_law_rule_here", "_law_server_here", "_law_token"] (defScope st__law_old) := ⟨rfl, rfl, rfl, by decide +kernel, rfl, by decide +kernel, by decide +kernel⟩
abbrev st__law_copied : Stmt := topS 46
abbrev n__law_copied : List Str := ["_law_world_here", "_law_server_here", "_law_tokens", "_law_waits"]
theorem S__law_copied : FnScope n__law_copied ["_law_world_here"] (defScope st__law_copied) := ⟨rfl, rfl, rfl, by decide +kernel, rfl, by decide +kernel, by decide +kernel⟩
abbrev st_is_rule : Stmt := topS 7
abbrev n_is_rule : List Str := ["value", "part", "choices"]
theorem S_is_rule : FnScope n_is_rule ["value"] (defScope st_is_rule) := ⟨rfl, rfl, rfl, by decide +kernel, rfl, by decide +kernel, by decide +kernel⟩
abbrev st_requested : Stmt := topS 12
abbrev n_requested : List Str := ["rule", "stand", "old_by", "over", "lead", "ages", "spared", "counted", "spare", "every"]
theorem S_requested : FnScope n_requested ["rule", "stand", "old_by"] (defScope st_requested) := ⟨rfl, rfl, rfl, by decide +kernel, rfl, by decide +kernel, by decide +kernel⟩
abbrev st_first_node : Stmt := topS 20
abbrev n_first_node : List Str := ["rule"]
theorem S_first_node : FnScope n_first_node ["rule"] (defScope st_first_node) := ⟨rfl, rfl, rfl, by decide +kernel, rfl, by decide +kernel, by decide +kernel⟩
abbrev st_is_history : Stmt := topS 31
abbrev n_is_history : List Str := ["value", "holds", "waits", "event", "holder"]
theorem S_is_history : FnScope n_is_history ["value"] (defScope st_is_history) := ⟨rfl, rfl, rfl, by decide +kernel, rfl, by decide +kernel, by decide +kernel⟩
abbrev st__law_of : Stmt := topS 35
abbrev n__law_of : List Str := ["_law_bag_here", "_law_some"]
theorem S__law_of : FnScope n__law_of ["_law_bag_here", "_law_some"] (defScope st__law_of) := ⟨rfl, rfl, rfl, by decide +kernel, rfl, by decide +kernel, by decide +kernel⟩
abbrev st__law_asked : Stmt := topS 40
abbrev n__law_asked : List Str := ["_law_rule_here", "_law_server_here", "_law_token", "_law_present"]
theorem S__law_asked : FnScope n__law_asked ["_law_rule_here", "_law_server_here", "_law_token"] (defScope st__law_asked) := ⟨rfl, rfl, rfl, by decide +kernel, rfl, by decide +kernel, by decide +kernel⟩
abbrev st__law_world : Stmt := topS 42
abbrev n__law_world : List Str := ["_law_rule_here"]
theorem S__law_world : FnScope n__law_world ["_law_rule_here"] (defScope st__law_world) := ⟨rfl, rfl, rfl, by decide +kernel, rfl, by decide +kernel, by decide +kernel⟩
abbrev st__law_node : Stmt := topS 47
abbrev n__law_node : List Str := ["_law_rule_here", "_law_world_here", "_law_server_here", "_law_tokens", "_law_waits", "_law_row", "_law_who"]
theorem S__law_node : FnScope n__law_node ["_law_rule_here", "_law_world_here"] (defScope st__law_node) := ⟨rfl, rfl, rfl, by decide +kernel, rfl, by decide +kernel, by decide +kernel⟩
abbrev st_need_rule : Stmt := topS 8
abbrev n_need_rule : List Str := ["value"]
theorem S_need_rule : FnScope n_need_rule ["value"] (defScope st_need_rule) := ⟨rfl, rfl, rfl, by decide +kernel, rfl, by decide +kernel, by decide +kernel⟩
abbrev st_alone : Stmt := topS 18
abbrev n_alone : List Str := ["rule", "node", "event", "stand", "old_by", "waiting", "after", "outcome", "late"]
theorem S_alone : FnScope n_alone ["rule", "node", "event"] (defScope st_alone) := ⟨rfl, rfl, rfl, by decide +kernel, rfl, by decide +kernel, by decide +kernel⟩
abbrev st__law_rule : Stmt := topS 36
abbrev n__law_rule : List Str := ["_law_bag_here", "_law_first", "_law_second"]
theorem S__law_rule : FnScope n__law_rule ["_law_bag_here"] (defScope st__law_rule) := ⟨rfl, rfl, rfl, by decide +kernel, rfl, by decide +kernel, by decide +kernel⟩
abbrev st__law_event : Stmt := topS 41
abbrev n__law_event : List Str := ["_law_rule_here", "_law_world_here", "_law_event_here", "_law_cautious", "_law_server_here", "_law_tokens", "_law_waits", "_law_who", "_law_shown", "_law_was", "_law_answer"]
theorem S__law_event : FnScope n__law_event ["_law_rule_here", "_law_world_here", "_law_event_here", "_law_cautious"] (defScope st__law_event) := ⟨rfl, rfl, rfl, by decide +kernel, rfl, by decide +kernel, by decide +kernel⟩
abbrev st_moved : Stmt := topS 19
abbrev n_moved : List Str := ["rule", "node", "event", "careful", "after"]
theorem S_moved : FnScope n_moved ["rule", "node", "event", "careful"] (defScope st_moved) := ⟨rfl, rfl, rfl, by decide +kernel, rfl, by decide +kernel, by decide +kernel⟩
abbrev st__law_easy : Stmt := topS 37
abbrev n__law_easy : List Str := ["_law_bag_here", "_law_rule_here"]
theorem S__law_easy : FnScope n__law_easy ["_law_bag_here"] (defScope st__law_easy) := ⟨rfl, rfl, rfl, by decide +kernel, rfl, by decide +kernel, by decide +kernel⟩
abbrev st__law_course : Stmt := topS 43
abbrev n__law_course : List Str := ["_law_rule_here", "_law_events", "_law_cautious", "_law_world_here", "_law_found", "_law_event_here"]
theorem S__law_course : FnScope n__law_course ["_law_rule_here", "_law_events", "_law_cautious"] (defScope st__law_course) := ⟨rfl, rfl, rfl, by decide +kernel, rfl, by decide +kernel, by decide +kernel⟩
abbrev st__law_try : Stmt := topS 48
abbrev n__law_try : List Str := ["_law_rule_here", "_law_world_here", "_law_event_here", "_law_cautious", "_law_later", "_law_pair"]
theorem S__law_try : FnScope n__law_try ["_law_rule_here", "_law_world_here", "_law_event_here", "_law_cautious"] (defScope st__law_try) := ⟨rfl, rfl, rfl, by decide +kernel, rfl, by decide +kernel, by decide +kernel⟩
abbrev st_spread : Stmt := topS 21
abbrev n_spread : List Str := ["rule", "careful", "known", "starts", "line", "new", "at", "node", "event"]
theorem S_spread : FnScope n_spread ["rule", "careful", "known", "starts"] (defScope st_spread) := ⟨rfl, rfl, rfl, by decide +kernel, rfl, by decide +kernel, by decide +kernel⟩
abbrev st_shortest : Stmt := topS 23
abbrev n_shortest : List Str := ["rule", "careful", "most", "line", "known", "at", "node", "faults", "path", "event", "more", "after"]
theorem S_shortest : FnScope n_shortest ["rule", "careful", "most"] (defScope st_shortest) := ⟨rfl, rfl, rfl, by decide +kernel, rfl, by decide +kernel, by decide +kernel⟩
abbrev st__law_shortest : Stmt := topS 49
abbrev n__law_shortest : List Str := ["_law_rule_here", "_law_most", "_law_cautious", "_law_rows", "_law_seen", "_law_length", "_law_later", "_law_world_here", "_law_faults", "_law_event_here", "_law_more", "_law_after", "_law_node_here"]
theorem S__law_shortest : FnScope n__law_shortest ["_law_rule_here", "_law_most", "_law_cautious"] (defScope st__law_shortest) := ⟨rfl, rfl, rfl, by decide +kernel, rfl, by decide +kernel, by decide +kernel⟩
abbrev st_fewest : Stmt := topS 22
abbrev n_fewest : List Str := ["rule", "careful", "known", "starts", "faults", "new", "refused", "node", "event"]
theorem S_fewest : FnScope n_fewest ["rule", "careful"] (defScope st_fewest) := ⟨rfl, rfl, rfl, by decide +kernel, rfl, by decide +kernel, by decide +kernel⟩
abbrev st_fewest_faults : Stmt := topS 24
abbrev n_fewest_faults : List Str := ["rule", "careful"]
theorem S_fewest_faults : FnScope n_fewest_faults ["rule", "careful"] (defScope st_fewest_faults) := ⟨rfl, rfl, rfl, by decide +kernel, rfl, by decide +kernel, by decide +kernel⟩
abbrev st_fault_history : Stmt := topS 25
abbrev n_fault_history : List Str := ["rule", "careful", "faults"]
theorem S_fault_history : FnScope n_fault_history ["rule", "careful"] (defScope st_fault_history) := ⟨rfl, rfl, rfl, by decide +kernel, rfl, by decide +kernel, by decide +kernel⟩
abbrev st__law_right : Stmt := topS 50
abbrev n__law_right : List Str := ["_law_rule_here", "_law_cautious", "_law_found", "_law_least", "_law_event_here", "_law_outcomes", "_law_pair"]
theorem S__law_right : FnScope n__law_right ["_law_rule_here", "_law_cautious", "_law_found"] (defScope st__law_right) := ⟨rfl, rfl, rfl, by decide +kernel, rfl, by decide +kernel, by decide +kernel⟩
abbrev st_law : Stmt := topS 51
abbrev n_law : List Str := ["_law_script", "_law_k", "_law_bag_here", "_law_rule_here", "_law_cautious"]
theorem S_law : FnScope n_law ["_law_script"] (defScope st_law) := ⟨rfl, rfl, rfl, by decide +kernel, rfl, by decide +kernel, by decide +kernel⟩
section
variable {P : Program} {w : World} {K : PySem.W.Frag} {mg : Str → Option Value} {base : Heap}
theorem ok_is_choice (B : Blt mg) {f : Addr} {fd : FuncData} (F : Fun K "is_choice" "is_choice" st_is_choice f fd) (hm : mg "is_choice" = some (.ref f)) : Has P w (TT.KW.mk K w) mg base "is_choice" 1 (spI (TT.KW.mk K w) 2 (bodyI 3 2 s_is_choice)) :=
  has_def (K := (TT.KW.mk K w)) F hm S_is_choice (by decide) (fun _ _ _ _ _ _ us hl => match us, hl with | [_, _], _ => rfl) fun cdv A outer s H E hr => (ss_cons (ss_if (st_isN (se_var 0)) (ss_one (ss_ret (se_cmp (op_tIn hr.units) se_non (se_var 1) rfl))) ss_nil)
  (ss_cons (ss_if (st_tru (se_isA .tStr (by rfl) B.b_isinstance bb_isinstance (se_var 0) (by rfl) B.b_str bb_str)) (ss_one (ss_ret (se_cmp (op_tIn hr.units) (se_var 0) (se_lc 2 rfl S_is_choice.nd (si_tup (se_var 1)) (blkOk_by (own := [("one", 2)]) (N := n_is_choice) (sc := defScope st_is_choice) (by decide +kernel)) (fun _ _ _ _ _ => pg_name (i := 2) S_is_choice.nd rfl (Or.inl rfl)) (fun _ _ _ _ _ => (sts_one (st_tru (se_isA .tStr (by rfl) B.b_isinstance bb_isinstance (se_var 2) (by rfl) B.b_str bb_str)))) (fun _ _ _ _ _ => (se_var 2))) rfl))) ss_nil)
  (ss_cons (ss_if (st_tru (se_isA .tBool (by rfl) B.b_isinstance bb_isinstance (se_var 0) (by rfl) B.b_bool bb_bool)) (ss_one (ss_ret (se_cmp (op_tIn hr.units) (se_var 0) (se_lc 2 rfl S_is_choice.nd (si_tup (se_var 1)) (blkOk_by (own := [("one", 2)]) (N := n_is_choice) (sc := defScope st_is_choice) (by decide +kernel)) (fun _ _ _ _ _ => pg_name (i := 2) S_is_choice.nd rfl (Or.inl rfl)) (fun _ _ _ _ _ => (sts_one (st_tru (se_isA .tBool (by rfl) B.b_isinstance bb_isinstance (se_var 2) (by rfl) B.b_bool bb_bool)))) (fun _ _ _ _ _ => (se_var 2))) rfl))) ss_nil)
  (ss_cons (ss_if (st_not (st_tru (se_isA .tInt (by rfl) B.b_isinstance bb_isinstance (se_var 0) (by rfl) B.b_int bb_int))) (ss_one (ss_ret se_bl)) ss_nil)
  (ss_one (ss_ret (se_cmp (op_tIn hr.units) (se_var 0) (se_lc 2 rfl S_is_choice.nd (si_tup (se_var 1)) (blkOk_by (own := [("one", 2)]) (N := n_is_choice) (sc := defScope st_is_choice) (by decide +kernel)) (fun _ _ _ _ _ => pg_name (i := 2) S_is_choice.nd rfl (Or.inl rfl)) (fun _ _ _ _ _ => (sts_one (st_w (sw_and (st_tru (se_isA .tInt (by rfl) B.b_isinstance bb_isinstance (se_var 2) (by rfl) B.b_int bb_int)) (sw_and1 (st_not (st_tru (se_isA .tBool (by rfl) B.b_isinstance bb_isinstance (se_var 2) (by rfl) B.b_bool bb_bool)))))))) (fun _ _ _ _ _ => (se_var 2))) rfl)))))))
theorem ok_first_stand (B : Blt mg) {f : Addr} {fd : FuncData} (F : Fun K "first_stand" "first_stand" st_first_stand f fd) (hm : mg "first_stand" = some (.ref f)) : Has P w (TT.KW.mk K w) mg base "first_stand" 1 (spI (TT.KW.mk K w) 1 (bodyI 7 1 s_first_stand)) :=
  has_def (K := (TT.KW.mk K w)) F hm S_first_stand (by decide) (fun _ _ _ _ _ _ us hl => match us, hl with | [_], _ => rfl) fun cdv A outer s H E hr => (ss_cons (ss_asg (se_slH (se_var 0) se_int) (sg_tup 5 rfl (sgs_cons 1 S_first_stand.nd (sgs_cons 2 S_first_stand.nd (sgs_cons 3 S_first_stand.nd (sgs_cons 4 S_first_stand.nd (sgs_cons 5 S_first_stand.nd sgs_nil)))))))
  (ss_cons (ss_set 6 S_first_stand.nd (se_if (st_isN (se_var 4)) (se_tup sa_nil al_nil) (se_bin op_tMul (se_tup (sa_cons (se_bin op_tAdd (se_var 4) se_int) sa_nil) (al_cons al_nil)) (se_var 1))))
  (ss_one (ss_ret (se_tup (sa_cons se_bl (sa_cons (se_if (st_tru (se_var 3)) se_int se_int) (sa_cons (se_var 6) (sa_cons (se_if (st_isN (se_var 5)) se_int (se_var 5)) (sa_cons se_int sa_nil))))) (al_cons (al_cons (al_cons (al_cons (al_cons al_nil))))))))))
theorem ok_is_good (B : Blt mg) {f : Addr} {fd : FuncData} (F : Fun K "is_good" "is_good" st_is_good f fd) (hm : mg "is_good" = some (.ref f)) : Has P w (TT.KW.mk K w) mg base "is_good" 1 (spI (TT.KW.mk K w) 3 (bodyI 8 3 s_is_good)) :=
  has_def (K := (TT.KW.mk K w)) F hm S_is_good (by decide) (fun _ _ _ _ _ _ us hl => match us, hl with | [_, _, _], _ => rfl) fun cdv A outer s H E hr => (ss_cons (ss_asg (se_slH (se_var 0) se_int) (sg_tup 5 rfl (sgs_cons 3 S_is_good.nd (sgs_cons 4 S_is_good.nd (sgs_cons 5 S_is_good.nd (sgs_cons 6 S_is_good.nd (sgs_cons 7 S_is_good.nd sgs_nil)))))))
  (ss_cons (ss_if (st_tru (se_ix (se_var 1) se_int)) (ss_one (ss_ret se_bl)) ss_nil)
  (ss_cons (ss_if (st_cmp (op_tEq hr.units) (se_var 2) se_int (nomark _)) (ss_one (ss_ret se_bl)) ss_nil)
  (ss_cons (ss_if (st_w (sw_or (st_cmp op_tGt (se_var 2) (se_var 3) (nomark _)) (sw_or1 (st_w (sw_and (st_tru (se_var 5)) (sw_and1 (st_cmp op_tGt (se_var 2) (se_ix (se_var 1) se_int) (nomark _)))))))) (ss_one (ss_ret se_bl)) ss_nil)
  (ss_cons (ss_if (st_w (sw_and (st_notN (se_var 6)) (sw_and1 (st_cmp op_tGt (se_ix (se_ix (se_var 1) se_int) (se_bin op_tSub (se_var 2) se_int)) (se_var 6) (nomark _))))) (ss_one (ss_ret se_bl)) ss_nil)
  (ss_one (ss_ret (se_or (se_isN (se_var 7)) (se_and1 (se_cmp op_tGt (se_ix (se_var 1) se_int) se_int (nomark _)))))))))))
theorem ok_with_token (B : Blt mg) {f : Addr} {fd : FuncData} (F : Fun K "with_token" "with_token" st_with_token f fd) (hm : mg "with_token" = some (.ref f)) : Has P w (TT.KW.mk K w) mg base "with_token" 1 (spI (TT.KW.mk K w) 5 (bodyI 5 5 s_with_token)) :=
  has_def (K := (TT.KW.mk K w)) F hm S_with_token (by decide) (fun _ _ _ _ _ _ us hl => match us, hl with | [_, _, _, _, _], _ => rfl) fun cdv A outer s H E hr => (ss_one (ss_ret (se_tup (sa_cons se_bl (sa_cons (se_if (st_tru (se_ix (se_var 0) se_int)) (se_callB (call_tMin rfl) (by rfl) B.b_min bb_min (sa_cons (se_callTy call_tInt (by rfl) B.b_int bb_int (sa_cons (se_bin op_tAdd (se_var 1) se_int) sa_nil)) (sa_cons (se_callTy call_tInt (by rfl) B.b_int bb_int (sa_cons (se_bin op_tAdd (se_ix (se_var 0) se_int) se_int) sa_nil)) sa_nil))) se_int) (sa_cons (se_slH (se_bin op_tAdd (se_tup (sa_cons se_int sa_nil) (al_cons al_nil)) (se_var 2)) (se_callB call_tLen (by rfl) B.b_len bb_len (sa_cons (se_var 2) sa_nil))) (sa_cons (se_var 3) (sa_cons (se_var 4) sa_nil))))) (al_cons (al_cons (al_cons (al_cons (al_cons al_nil))))))))
theorem ok_ticked (B : Blt mg) {f : Addr} {fd : FuncData} (F : Fun K "ticked" "ticked" st_ticked f fd) (hm : mg "ticked" = some (.ref f)) : Has P w (TT.KW.mk K w) mg base "ticked" 1 (spI (TT.KW.mk K w) 2 (bodyI 4 2 s_ticked)) :=
  has_def (K := (TT.KW.mk K w)) F hm S_ticked (by decide) (fun _ _ _ _ _ _ us hl => match us, hl with | [_, _], _ => rfl) fun cdv A outer s H E hr => (ss_cons (ss_set 2 S_ticked.nd (se_ix (se_var 0) se_int))
  (ss_cons (ss_if (st_w (sw_or (st_isN (se_var 2)) (sw_or1 (st_tru (se_ix (se_var 1) se_int))))) (ss_one (ss_ret (se_var 1))) ss_nil)
  (ss_one (ss_ret (se_tup (sa_cons se_bl (sa_cons (se_ix (se_var 1) se_int) (sa_cons (se_callTy call_tTuple (by rfl) B.b_tuple bb_tuple (sa_cons (se_lc 3 rfl S_ticked.nd (si_tup (se_ix (se_var 1) se_int)) (blkOk_by (own := [("age", 3)]) (N := n_ticked) (sc := defScope st_ticked) (by decide +kernel)) (fun _ _ _ _ _ => pg_name (i := 3) S_ticked.nd rfl (Or.inl rfl)) (fun _ _ _ _ _ => sts_nil) (fun _ _ _ _ _ => (se_callB (call_tMin rfl) (by rfl) B.b_min bb_min (sa_cons (se_callTy call_tInt (by rfl) B.b_int bb_int (sa_cons (se_bin op_tAdd (se_var 3) se_int) sa_nil)) (sa_cons (se_callTy call_tInt (by rfl) B.b_int bb_int (sa_cons (se_bin op_tAdd (se_var 2) se_int) sa_nil)) sa_nil))))) sa_nil)) (sa_cons (se_ix (se_var 1) se_int) (sa_cons (se_ix (se_var 1) se_int) sa_nil))))) (al_cons (al_cons (al_cons (al_cons (al_cons al_nil))))))))))
theorem ok_older (B : Blt mg) {f : Addr} {fd : FuncData} (F : Fun K "older" "older" st_older f fd) (hm : mg "older" = some (.ref f)) : Has P w (TT.KW.mk K w) mg base "older" 1 (spI (TT.KW.mk K w) 3 (bodyI 3 3 s_older)) :=
  has_def (K := (TT.KW.mk K w)) F hm S_older (by decide) (fun _ _ _ _ _ _ us hl => match us, hl with | [_, _, _], _ => rfl) fun cdv A outer s H E hr => (ss_cons (ss_if (st_w (sw_or (st_isN (se_var 1)) (sw_or1 (st_cmp (op_tNe hr.units) (se_var 2) (se_str [109, 97, 100, 101]) (nomark _))))) (ss_one (ss_ret (se_var 1))) ss_nil)
  (ss_one (ss_ret (se_callB (call_tMin rfl) (by rfl) B.b_min bb_min (sa_cons (se_callTy call_tInt (by rfl) B.b_int bb_int (sa_cons (se_bin op_tAdd (se_var 1) se_int) sa_nil)) (sa_cons (se_callTy call_tInt (by rfl) B.b_int bb_int (sa_cons (se_bin op_tAdd (se_ix (se_var 0) se_int) se_int) sa_nil)) sa_nil))))))
theorem ok_is_event (B : Blt mg) (C_HOLDERS : HasC (TT.KW.mk K w) mg "HOLDERS" c_HOLDERS) (C_TICK : HasC (TT.KW.mk K w) mg "TICK" c_TICK) {f : Addr} {fd : FuncData} (F : Fun K "is_event" "is_event" st_is_event f fd) (hm : mg "is_event" = some (.ref f)) : Has P w (TT.KW.mk K w) mg base "is_event" 1 (spI (TT.KW.mk K w) 1 (bodyI 1 1 s_is_event)) :=
  has_def (K := (TT.KW.mk K w)) F hm S_is_event (by decide) (fun _ _ _ _ _ _ us hl => match us, hl with | [_], _ => rfl) fun cdv A outer s H E hr => (ss_cons (ss_if (st_not (st_tru (se_isA .tStr (by rfl) B.b_isinstance bb_isinstance (se_var 0) (by rfl) B.b_str bb_str))) (ss_one (ss_ret se_bl)) ss_nil)
  (ss_cons (ss_if (st_cmp (op_tIn hr.units) (se_var 0) (se_tup (sa_cons (sh_glob C_TICK) (sa_cons (se_str [97, 98]) (sa_cons (se_str [98, 97]) sa_nil))) (al_cons (al_cons (al_cons al_nil)))) rfl) (ss_one (ss_ret se_bl)) ss_nil)
  (ss_one (ss_ret (se_and (se_cmp (op_tEq hr.units) (se_callB call_tLen (by rfl) B.b_len bb_len (sa_cons (se_var 0) sa_nil)) se_int (nomark _)) (se_and (se_cmp (op_tIn hr.units) (se_ix (se_var 0) se_int) (sh_glob C_HOLDERS) rfl) (se_and1 (se_cmp (op_tIn hr.units) (se_ix (se_var 0) se_int) (se_str [33, 45, 126, 43]) rfl))))))))
theorem ok__law_bag (B : Blt mg) {f : Addr} {fd : FuncData} (F : Fun K "_law_bag" "_law_bag" st__law_bag f fd) (hm : mg "_law_bag" = some (.ref f)) : Has P w (TT.KW.mk K w) mg base "_law_bag" 1 (spI (TT.KW.mk K w) 2 (bodyI 5 2 s_law_bag)) :=
  has_def (K := (TT.KW.mk K w)) F hm S__law_bag (by decide) (fun _ _ _ _ _ _ us hl => match us, hl with | [_, _], _ => rfl) fun cdv A outer s H E hr => (ss_cons (ss_set 2 S__law_bag.nd se_int)
  (ss_cons (ss_if (st_cmp op_tLt (se_var 1) (se_callB call_tLen (by rfl) B.b_len bb_len (sa_cons (se_var 0) sa_nil)) (nomark _)) (ss_one (ss_set 2 S__law_bag.nd (se_bin op_tMod (se_callTy call_tInt (by rfl) B.b_int bb_int (sa_cons (se_ix (se_var 0) (se_var 1)) sa_nil)) (se_bin op_tPow se_int se_int)))) ss_nil)
  (ss_cons (ss_set 3 S__law_bag.nd (se_bin op_tAdd (se_bin op_tMul (se_bin op_tMod (se_callTy call_tInt (by rfl) B.b_int bb_int (sa_cons (se_var 2) sa_nil)) se_int) se_int) (se_bin op_tMul (se_bin op_tMul se_int (se_var 1)) (se_var 1))))
  (ss_cons (ss_set 4 S__law_bag.nd (se_bin op_tAdd se_int (se_bin op_tMod (se_callTy call_tInt (by rfl) B.b_int bb_int (sa_cons (se_bin op_tAdd (se_bin op_tAdd (se_var 3) (se_bin op_tMul se_int (se_var 1))) se_int) sa_nil)) se_int)))
  (ss_cons (ss_if (st_cmp op_tLt (se_var 2) (se_bin op_tPow se_int se_int) (nomark _)) (ss_one (ss_ret (se_lstM (sa_cons se_int (sa_cons (se_var 4) sa_nil)) (al_cons (al_cons al_nil))))) ss_nil)
  (ss_one (ss_ret (se_lstM (sa_cons (se_var 2) (sa_cons (se_var 4) sa_nil)) (al_cons (al_cons al_nil))))))))))
theorem ok__law_take (B : Blt mg) {f : Addr} {fd : FuncData} (F : Fun K "_law_take" "_law_take" st__law_take f fd) (hm : mg "_law_take" = some (.ref f)) : Has P w (TT.KW.mk K w) mg base "_law_take" 1 (spI (TT.KW.mk K w) 2 (bodyI 4 2 s_law_take)) :=
  has_def (K := (TT.KW.mk K w)) F hm S__law_take (by decide) (fun _ _ _ _ _ _ us hl => match us, hl with | [_, _], _ => rfl) fun cdv A outer s H E hr => (ss_cons (ss_if (st_cmp op_tGt (se_ix (se_var 0) se_int) se_int (nomark _)) (ss_cons (ss_set 2 S__law_take.nd (se_bin op_tMod (se_callTy call_tInt (by rfl) B.b_int bb_int (sa_cons (se_ix (se_var 0) se_int) sa_nil)) (se_var 1)))
  (ss_cons (ss_asg (se_bin op_tFDiv (se_callTy call_tInt (by rfl) B.b_int bb_int (sa_cons (se_ix (se_var 0) se_int) sa_nil)) (se_var 1)) (sg_sub (se_var 0) se_int))
  (ss_one (ss_ret (se_var 2))))) ss_nil)
  (ss_cons (ss_asg (se_bin op_tMod (se_callTy call_tInt (by rfl) B.b_int bb_int (sa_cons (se_bin op_tMul (se_ix (se_var 0) se_int) se_int) sa_nil)) se_int) (sg_sub (se_var 0) se_int))
  (ss_cons (ss_set 3 S__law_take.nd (se_bin op_tMul (se_bin op_tFDiv (se_callTy call_tInt (by rfl) B.b_int bb_int (sa_cons (se_ix (se_var 0) se_int) sa_nil)) se_int) (se_bin op_tAdd (se_bin op_tMod (se_callTy call_tInt (by rfl) B.b_int bb_int (sa_cons (se_ix (se_var 0) se_int) sa_nil)) se_int) se_int)))
  (ss_one (ss_ret (se_bin op_tMod (se_callTy call_tInt (by rfl) B.b_int bb_int (sa_cons (se_bin op_tFDiv (se_bin op_tMod (se_callTy call_tInt (by rfl) B.b_int bb_int (sa_cons (se_var 3) sa_nil)) se_int) se_int) sa_nil)) (se_var 1)))))))
theorem ok__law_server (B : Blt mg) {f : Addr} {fd : FuncData} (F : Fun K "_law_server" "_law_server" st__law_server f fd) (hm : mg "_law_server" = some (.ref f)) : Has P w (TT.KW.mk K w) mg base "_law_server" 1 (spI (TT.KW.mk K w) 1 (bodyI 1 1 s_law_server)) :=
  has_def (K := (TT.KW.mk K w)) F hm S__law_server (by decide) (fun _ _ _ _ _ _ us hl => match us, hl with | [_], _ => rfl) fun cdv A outer s H E hr => (ss_one (ss_ret (se_lstM (sa_cons se_int (sa_cons (se_neg se_int) (sa_cons (se_lst (sa_cons se_int sa_nil) (al_cons al_nil)) (sa_cons se_int (sa_cons (se_ix (se_var 0) se_int) (sa_cons se_int (sa_cons se_bl sa_nil))))))) (al_cons (al_cons (al_cons (al_cons (al_cons (al_cons (al_cons al_nil))))))))))
theorem ok__law_accepts (B : Blt mg) {f : Addr} {fd : FuncData} (F : Fun K "_law_accepts" "_law_accepts" st__law_accepts f fd) (hm : mg "_law_accepts" = some (.ref f)) : Has P w (TT.KW.mk K w) mg base "_law_accepts" 1 (spI (TT.KW.mk K w) 3 (bodyI 3 3 s_law_accepts)) :=
  has_def (K := (TT.KW.mk K w)) F hm S__law_accepts (by decide) (fun _ _ _ _ _ _ us hl => match us, hl with | [_, _, _], _ => rfl) fun cdv A outer s H E hr => (ss_cons (ss_if (st_tru (se_ix (se_var 1) se_int)) (ss_one (ss_ret se_bl)) ss_nil)
  (ss_cons (ss_if (st_cmp (op_tEq hr.units) (se_var 2) (se_ix (se_var 1) se_int) (nomark _)) (ss_one (ss_ret se_bl)) ss_nil)
  (ss_cons (ss_if (st_w (sw_or (st_cmp op_tGt (se_bin op_tSub (se_ix (se_var 1) se_int) (se_var 2)) (se_ix (se_var 0) se_int) (nomark _)) (sw_or1 (st_w (sw_and (st_tru (se_ix (se_var 0) se_int)) (sw_and1 (st_cmp op_tLt (se_var 2) (se_ix (se_var 1) se_int) (nomark _)))))))) (ss_one (ss_ret se_bl)) ss_nil)
  (ss_cons (ss_if (st_w (sw_and (st_notN (se_ix (se_var 0) se_int)) (sw_and1 (st_cmp op_tGt (se_bin op_tSub (se_ix (se_var 1) se_int) (se_ix (se_ix (se_var 1) se_int) (se_bin op_tAdd (se_var 2) se_int))) (se_ix (se_var 0) se_int) (nomark _))))) (ss_one (ss_ret se_bl)) ss_nil)
  (ss_one (ss_ret (se_or (se_isN (se_ix (se_var 0) se_int)) (se_and1 (se_cmp op_tGt (se_ix (se_var 1) se_int) se_int (nomark _))))))))))
theorem ok__law_key (B : Blt mg) {f : Addr} {fd : FuncData} (F : Fun K "_law_key" "_law_key" st__law_key f fd) (hm : mg "_law_key" = some (.ref f)) : Has P w (TT.KW.mk K w) mg base "_law_key" 1 (spI (TT.KW.mk K w) 2 (bodyI 6 2 s_law_key)) :=
  has_def (K := (TT.KW.mk K w)) F hm S__law_key (by decide) (fun _ _ _ _ _ _ us hl => match us, hl with | [_, _], _ => rfl) fun cdv A outer s H E hr => (ss_cons (ss_if (st_tru (se_ix (se_var 1) se_int)) (ss_one (ss_ret (se_tup (sa_cons (se_str [111, 118, 101, 114]) sa_nil) (al_cons al_nil)))) ss_nil)
  (ss_cons (ss_set 2 S__law_key.nd (se_lstM sa_nil al_nil))
  (ss_cons (ss_for PassesOwn.never rfl (si_rng1 (by rfl) B.b_range (se_ix (se_var 0) se_int)) (sg_name 3 S__law_key.nd) (ss_one (ss_if (st_notN (se_ix (se_var 0) se_int)) (ss_cons (ss_set 4 S__law_key.nd (se_if (st_cmp op_tGt (se_ix (se_var 1) se_int) (se_var 3) (nomark _)) (se_bin op_tSub (se_ix (se_var 1) se_int) (se_ix (se_ix (se_var 1) se_int) (se_bin op_tSub (se_ix (se_var 1) se_int) (se_var 3)))) (se_bin op_tAdd (se_ix (se_var 0) se_int) se_int)))
  (ss_one (ss_expr (se_meth (t := .list) PySem.F.plainAttrs_list PySem.F.slot_list_append PySem.F.type_list_append mt_tAppend (se_var 2) (sa_cons (se_callB (call_tMin rfl) (by rfl) B.b_min bb_min (sa_cons (se_callTy call_tInt (by rfl) B.b_int bb_int (sa_cons (se_var 4) sa_nil)) (sa_cons (se_callTy call_tInt (by rfl) B.b_int bb_int (sa_cons (se_bin op_tAdd (se_ix (se_var 0) se_int) se_int) sa_nil)) sa_nil))) sa_nil))))) ss_nil)))
  (ss_cons (ss_set 5 S__law_key.nd (se_if (st_tru (se_ix (se_var 0) se_int)) (se_callB (call_tMin rfl) (by rfl) B.b_min bb_min (sa_cons (se_callTy call_tInt (by rfl) B.b_int bb_int (sa_cons (se_bin op_tSub (se_ix (se_var 1) se_int) (se_ix (se_var 1) se_int)) sa_nil)) (sa_cons (se_callTy call_tInt (by rfl) B.b_int bb_int (sa_cons (se_bin op_tAdd (se_ix (se_var 0) se_int) se_int) sa_nil)) sa_nil))) se_int))
  (ss_one (ss_ret (se_tup (sa_cons (se_var 5) (sa_cons (se_callTy call_tTuple (by rfl) B.b_tuple bb_tuple (sa_cons (se_var 2) sa_nil)) (sa_cons (se_ix (se_var 1) se_int) (sa_cons (se_if (st_notN (se_ix (se_var 0) se_int)) (se_ix (se_var 1) se_int) se_int) sa_nil)))) (al_cons (al_cons (al_cons (al_cons al_nil)))))))))))
theorem ok__law_old (B : Blt mg) {f : Addr} {fd : FuncData} (F : Fun K "_law_old" "_law_old" st__law_old f fd) (hm : mg "_law_old" = some (.ref f)) : Has P w (TT.KW.mk K w) mg base "_law_old" 1 (spI (TT.KW.mk K w) 3 (bodyI 3 3 s_law_old)) :=
  has_def (K := (TT.KW.mk K w)) F hm S__law_old (by decide) (fun _ _ _ _ _ _ us hl => match us, hl with | [_, _, _], _ => rfl) fun cdv A outer s H E hr => (ss_one (ss_ret (se_if (st_isN (se_var 2)) se_non (se_callB (call_tMin rfl) (by rfl) B.b_min bb_min (sa_cons (se_callTy call_tInt (by rfl) B.b_int bb_int (sa_cons (se_bin op_tSub (se_ix (se_var 1) se_int) (se_var 2)) sa_nil)) (sa_cons (se_callTy call_tInt (by rfl) B.b_int bb_int (sa_cons (se_bin op_tAdd (se_ix (se_var 0) se_int) se_int) sa_nil)) sa_nil))))))
theorem ok__law_copied (B : Blt mg) {f : Addr} {fd : FuncData} (F : Fun K "_law_copied" "_law_copied" st__law_copied f fd) (hm : mg "_law_copied" = some (.ref f)) : Has P w (TT.KW.mk K w) mg base "_law_copied" 1 (spI (TT.KW.mk K w) 1 (bodyI 4 1 s_law_copied)) :=
  has_def (K := (TT.KW.mk K w)) F hm S__law_copied (by decide) (fun _ _ _ _ _ _ us hl => match us, hl with | [_], _ => rfl) fun cdv A outer s H E hr => (ss_cons (ss_asg (se_var 0) (sg_seq 3 rfl (sgs_cons 1 S__law_copied.nd (sgs_cons 2 S__law_copied.nd (sgs_cons 3 S__law_copied.nd sgs_nil)))))
  (ss_one (ss_ret (se_lstM (sa_cons (se_bin op_tAddM (se_bin op_tAdd (se_slH (se_var 1) se_int) (se_lst (sa_cons (se_callTy call_tList (by rfl) B.b_list bb_list (sa_cons (se_ix (se_var 1) se_int) sa_nil)) sa_nil) (al_cons al_nil))) (se_slL (se_var 1) se_int)) (sa_cons (se_callTy call_tListM (by rfl) B.b_list bb_list (sa_cons (se_var 2) sa_nil)) (sa_cons (se_callTy call_tListM (by rfl) B.b_list bb_list (sa_cons (se_var 3) sa_nil)) sa_nil))) (al_cons (al_cons (al_cons al_nil)))))))
theorem ok_is_rule (B : Blt mg) (H_is_choice : Has P w (TT.KW.mk K w) mg base "is_choice" 1 (spP (TT.KW.mk K w) 2 f_is_choice)) (C_CHOICES : HasC (TT.KW.mk K w) mg "CHOICES" c_CHOICES) (C_PARTS : HasC (TT.KW.mk K w) mg "PARTS" c_PARTS) {f : Addr} {fd : FuncData} (F : Fun K "is_rule" "is_rule" st_is_rule f fd) (hm : mg "is_rule" = some (.ref f)) : Has P w (TT.KW.mk K w) mg base "is_rule" 2 (spI (TT.KW.mk K w) 1 (bodyI 3 1 s_is_rule)) :=
  has_def (K := (TT.KW.mk K w)) F hm S_is_rule (by decide) (fun _ _ _ _ _ _ us hl => match us, hl with | [_], _ => rfl) fun cdv A outer s H E hr => (ss_cons (ss_if (st_w (sw_or (st_not (st_tru (se_isA .tTup (by rfl) B.b_isinstance bb_isinstance (se_var 0) (by rfl) B.b_tuple bb_tuple))) (sw_or1 (st_cmp (op_tNe hr.units) (se_callB call_tLen (by rfl) B.b_len bb_len (sa_cons (se_var 0) sa_nil)) (se_callB call_tLen (by rfl) B.b_len bb_len (sa_cons (sh_glob C_PARTS) sa_nil)) (nomark _))))) (ss_one (ss_ret se_bl)) ss_nil)
  (ss_one (ss_ret (se_callB (call_tAll rfl) (by rfl) B.b_all bb_all (sa_cons (se_lcT [1, 2] rfl S_is_rule.nd (si_zip (by rfl) B.b_zip (se_var 0) (sh_glob C_CHOICES)) (blkOk_by (own := [("part", 1), ("choices", 2)]) (N := n_is_rule) (sc := defScope st_is_rule) (by decide +kernel)) (fun _ _ _ _ _ => pg_tup rfl (sgt_cons 1 S_is_rule.nd (sgt_cons 2 S_is_rule.nd sgt_nil))) (fun _ _ _ _ _ => sts_nil) (fun _ _ _ _ _ => (sh_callP H_is_choice (hr.mono (by decide)) (sa_cons (se_var 1) (sa_cons (se_var 2) sa_nil)) (al_cons (al_cons al_nil))))) sa_nil)))))
theorem ok_requested (B : Blt mg) (H_with_token : Has P w (TT.KW.mk K w) mg base "with_token" 1 (spP (TT.KW.mk K w) 5 f_with_token)) (H_is_good : Has P w (TT.KW.mk K w) mg base "is_good" 1 (spP (TT.KW.mk K w) 3 f_is_good)) {f : Addr} {fd : FuncData} (F : Fun K "requested" "requested" st_requested f fd) (hm : mg "requested" = some (.ref f)) : Has P w (TT.KW.mk K w) mg base "requested" 2 (spI (TT.KW.mk K w) 3 (bodyI 10 3 s_requested)) :=
  has_def (K := (TT.KW.mk K w)) F hm S_requested (by decide) (fun _ _ _ _ _ _ us hl => match us, hl with | [_, _, _], _ => rfl) fun cdv A outer s H E hr => (ss_cons (ss_if (st_not (st_tru (sh_callP H_is_good (hr.mono (by decide)) (sa_cons (se_var 0) (sa_cons (se_var 1) (sa_cons (se_var 2) sa_nil))) (al_cons (al_cons (al_cons al_nil)))))) (ss_one (ss_ret (se_tup (sa_cons (se_bin op_tAdd (se_tup (sa_cons (se_or (se_ix (se_var 1) se_int) (se_and1 (se_cmp (op_tEq hr.units) (se_ix (se_var 0) se_int) (se_str [101, 110, 100]) (nomark _)))) sa_nil) (al_cons al_nil)) (se_slL (se_var 1) se_int)) (sa_cons (se_str [114, 101, 102, 117, 115, 101, 100]) sa_nil)) (al_cons (al_cons al_nil))))) ss_nil)
  (ss_cons (ss_asg (se_var 1) (sg_tup 5 rfl (sgs_cons 3 S_requested.nd (sgs_cons 4 S_requested.nd (sgs_cons 5 S_requested.nd (sgs_cons 6 S_requested.nd (sgs_cons 7 S_requested.nd sgs_nil)))))))
  (ss_cons (ss_par2 8 9 rfl S_requested.nd (sa_cons (se_ix (se_var 0) se_int) (sa_cons (se_ix (se_var 0) se_int) sa_nil)))
  (ss_cons (ss_if (st_cmp (op_tEq hr.units) (se_var 2) se_int (nomark _)) (ss_cons (ss_if (st_notN (se_var 8)) (ss_cons (ss_set 7 S_requested.nd (se_bin op_tMod (se_bin op_tAdd (se_var 7) se_int) (se_var 9)))
  (ss_one (ss_set 6 S_requested.nd (se_callB (call_tMin rfl) (by rfl) B.b_min bb_min (sa_cons (se_callTy call_tInt (by rfl) B.b_int bb_int (sa_cons (se_var 8) sa_nil)) (sa_cons (se_callTy call_tInt (by rfl) B.b_int bb_int (sa_cons (se_bin op_tAdd (se_var 6) (se_callTy call_tInt (by rfl) B.b_int bb_int (sa_cons (se_cmp (op_tEq hr.units) (se_var 7) se_int (nomark _)) sa_nil))) sa_nil)) sa_nil)))))) ss_nil)
  (ss_one (ss_ret (se_tup (sa_cons (sh_callP H_with_token (hr.mono (by decide)) (sa_cons (se_var 0) (sa_cons se_int (sa_cons (se_var 5) (sa_cons (se_var 6) (sa_cons (se_var 7) sa_nil))))) (al_cons (al_cons (al_cons (al_cons (al_cons al_nil)))))) (sa_cons (se_str [109, 97, 100, 101]) sa_nil)) (al_cons (al_cons al_nil)))))) ss_nil)
  (ss_cons (ss_set 4 S_requested.nd (se_callB (call_tMin rfl) (by rfl) B.b_min bb_min (sa_cons (se_callTy call_tInt (by rfl) B.b_int bb_int (sa_cons (se_var 4) sa_nil)) (sa_cons (se_callTy call_tInt (by rfl) B.b_int bb_int (sa_cons (se_var 2) sa_nil)) sa_nil))))
  (ss_cons (ss_set 6 S_requested.nd (se_if (st_isN (se_var 8)) se_int (se_bin op_tSub (se_var 6) se_int)))
  (ss_cons (ss_if (st_cmp (op_tEq hr.units) (se_ix (se_var 0) se_int) (se_str [115, 97, 109, 101]) (nomark _)) (ss_one (ss_ret (se_tup (sa_cons (se_tup (sa_cons se_bl (sa_cons (se_var 4) (sa_cons (se_var 5) (sa_cons (se_var 6) (sa_cons (se_var 7) sa_nil))))) (al_cons (al_cons (al_cons (al_cons (al_cons al_nil)))))) (sa_cons (se_str [110, 101, 119, 101, 115, 116]) sa_nil)) (al_cons (al_cons al_nil))))) ss_nil)
  (ss_one (ss_ret (se_tup (sa_cons (sh_callP H_with_token (hr.mono (by decide)) (sa_cons (se_var 0) (sa_cons (se_var 4) (sa_cons (se_var 5) (sa_cons (se_var 6) (sa_cons (se_var 7) sa_nil))))) (al_cons (al_cons (al_cons (al_cons (al_cons al_nil)))))) (sa_cons (se_str [109, 97, 100, 101]) sa_nil)) (al_cons (al_cons al_nil))))))))))))
theorem ok_first_node (B : Blt mg) (H_first_stand : Has P w (TT.KW.mk K w) mg base "first_stand" 1 (spP (TT.KW.mk K w) 1 f_first_stand)) {f : Addr} {fd : FuncData} (F : Fun K "first_node" "first_node" st_first_node f fd) (hm : mg "first_node" = some (.ref f)) : Has P w (TT.KW.mk K w) mg base "first_node" 2 (spI (TT.KW.mk K w) 1 (bodyI 1 1 s_first_node)) :=
  has_def (K := (TT.KW.mk K w)) F hm S_first_node (by decide) (fun _ _ _ _ _ _ us hl => match us, hl with | [_], _ => rfl) fun cdv A outer s H E hr => (ss_one (ss_ret (se_tup (sa_cons (sh_callP H_first_stand (hr.mono (by decide)) (sa_cons (se_var 0) sa_nil) (al_cons al_nil)) (sa_cons se_int (sa_cons se_non sa_nil))) (al_cons (al_cons (al_cons al_nil))))))
theorem ok_is_history (B : Blt mg) (H_is_event : Has P w (TT.KW.mk K w) mg base "is_event" 1 (spP (TT.KW.mk K w) 1 f_is_event)) (C_HOLDERS : HasC (TT.KW.mk K w) mg "HOLDERS" c_HOLDERS) (C_TICK : HasC (TT.KW.mk K w) mg "TICK" c_TICK) (C_MOST_EVENTS : HasC (TT.KW.mk K w) mg "MOST_EVENTS" c_MOST_EVENTS) {f : Addr} {fd : FuncData} (F : Fun K "is_history" "is_history" st_is_history f fd) (hm : mg "is_history" = some (.ref f)) : Has P w (TT.KW.mk K w) mg base "is_history" 2 (spI (TT.KW.mk K w) 1 (bodyI 5 1 s_is_history)) :=
  has_def (K := (TT.KW.mk K w)) F hm S_is_history (by decide) (fun _ _ _ _ _ _ us hl => match us, hl with | [_], _ => rfl) fun cdv A outer s H E hr => (ss_cons (ss_if (st_w (sw_or (st_not (st_tru (se_isA .tTup (by rfl) B.b_isinstance bb_isinstance (se_var 0) (by rfl) B.b_tuple bb_tuple))) (sw_or1 (st_cmp op_tGt (se_callB call_tLen (by rfl) B.b_len bb_len (sa_cons (se_var 0) sa_nil)) (sh_glob C_MOST_EVENTS) (nomark _))))) (ss_one (ss_ret se_bl)) ss_nil)
  (ss_cons (ss_set 1 S_is_history.nd (se_lstM (sa_cons se_bl (sa_cons se_bl sa_nil)) (al_cons (al_cons al_nil))))
  (ss_cons (ss_set 2 S_is_history.nd (se_lstM (sa_cons se_bl (sa_cons se_bl sa_nil)) (al_cons (al_cons al_nil))))
  (ss_cons (ss_for PassesOwn.never rfl (si_tup (se_var 0)) (sg_name 3 S_is_history.nd) (ss_cons (ss_if (st_not (st_tru (sh_callP H_is_event (hr.mono (by decide)) (sa_cons (se_var 3) sa_nil) (al_cons al_nil)))) (ss_one (ss_ret se_bl)) ss_nil)
  (ss_cons (ss_if (st_cmp (op_tEq hr.units) (se_var 3) (sh_glob C_TICK) (nomark _)) (ss_one ss_cont) ss_nil)
  (ss_cons (ss_set 4 S_is_history.nd (se_meth (t := .str) PySem.F.plainAttrs_str PySem.F.slot_str_index PySem.F.type_str_index mt_tIndexS (sh_glob C_HOLDERS) (sa_cons (se_ix (se_var 3) se_int) sa_nil)))
  (ss_cons (ss_if (st_w (sw_or (st_not (st_tru (se_ix (se_var 1) (se_var 4)))) (sw_or1 (st_w (sw_and (st_cmp (op_tEq hr.units) (se_ix (se_var 3) se_int) (se_str [43]) (nomark _)) (sw_and1 (st_not (st_tru (se_ix (se_var 2) (se_var 4)))))))))) (ss_one (ss_ret se_bl)) ss_nil)
  (ss_one (ss_if (st_cmp (op_tIn hr.units) (se_ix (se_var 3) se_int) (sh_glob C_HOLDERS) rfl) (ss_cons (ss_asg se_bl (sg_sub (se_var 1) (se_bin op_tSub se_int (se_var 4))))
  (ss_one (ss_asg se_bl (sg_sub (se_var 2) (se_bin op_tSub se_int (se_var 4)))))) (ss_one (ss_if (st_cmp (op_tIn hr.units) (se_ix (se_var 3) se_int) (se_str [126, 43]) rfl) (ss_one (ss_asg (se_cmp (op_tEq hr.units) (se_ix (se_var 3) se_int) (se_str [126]) (nomark _)) (sg_sub (se_var 2) (se_var 4)))) ss_nil)))))))))
  (ss_one (ss_ret se_bl))))))
theorem ok__law_of (B : Blt mg) (H__law_take : Has P w (TT.KW.mk K w) mg base "_law_take" 1 (spI (TT.KW.mk K w) 2 i_law_take)) {f : Addr} {fd : FuncData} (F : Fun K "_law_of" "_law_of" st__law_of f fd) (hm : mg "_law_of" = some (.ref f)) : Has P w (TT.KW.mk K w) mg base "_law_of" 2 (spI (TT.KW.mk K w) 2 (bodyI 2 2 s_law_of)) :=
  has_def (K := (TT.KW.mk K w)) F hm S__law_of (by decide) (fun _ _ _ _ _ _ us hl => match us, hl with | [_, _], _ => rfl) fun cdv A outer s H E hr => (ss_one (ss_ret (se_ix (se_var 1) (sh_callI H__law_take (hr.mono (by decide)) (sa_cons (se_var 0) (sa_cons (se_callB call_tLen (by rfl) B.b_len bb_len (sa_cons (se_var 1) sa_nil)) sa_nil)) (al_cons (al_cons al_nil))))))
theorem ok__law_asked (B : Blt mg) (H__law_accepts : Has P w (TT.KW.mk K w) mg base "_law_accepts" 1 (spI (TT.KW.mk K w) 3 i_law_accepts)) {f : Addr} {fd : FuncData} (F : Fun K "_law_asked" "_law_asked" st__law_asked f fd) (hm : mg "_law_asked" = some (.ref f)) : Has P w (TT.KW.mk K w) mg base "_law_asked" 2 (spI (TT.KW.mk K w) 3 (bodyI 4 3 s_law_asked)) :=
  has_def (K := (TT.KW.mk K w)) F hm S__law_asked (by decide) (fun _ _ _ _ _ _ us hl => match us, hl with | [_, _, _], _ => rfl) fun cdv A outer s H E hr => (ss_cons (ss_if (st_not (st_tru (sh_callI H__law_accepts (hr.mono (by decide)) (sa_cons (se_var 0) (sa_cons (se_var 1) (sa_cons (se_var 2) sa_nil))) (al_cons (al_cons (al_cons al_nil)))))) (ss_cons (ss_asg (se_or (se_ix (se_var 1) se_int) (se_and1 (se_cmp (op_tEq hr.units) (se_ix (se_var 0) se_int) (se_str [101, 110, 100]) (nomark _)))) (sg_sub (se_var 1) se_int))
  (ss_one (ss_ret se_non))) ss_nil)
  (ss_cons (ss_set 3 S__law_asked.nd (se_cmp (op_tEq hr.units) (se_var 2) (se_ix (se_var 1) se_int) (nomark _)))
  (ss_cons (ss_if (st_w (sw_or (st_tru (se_var 3)) (sw_or1 (st_cmp (op_tEq hr.units) (se_ix (se_var 0) se_int) (se_str [110, 101, 119]) (nomark _))))) (ss_cons (ss_asg (se_bin op_tAdd (se_ix (se_var 1) se_int) se_int) (sg_sub (se_var 1) se_int))
  (ss_one (ss_asg (se_bin op_tAdd (se_ix (se_var 1) se_int) (se_lst (sa_cons (se_ix (se_var 1) se_int) sa_nil) (al_cons al_nil))) (sg_sub (se_var 1) se_int)))) ss_nil)
  (ss_cons (ss_asg (se_callB (call_tMax rfl) (by rfl) B.b_max bb_max (sa_cons (se_callTy call_tInt (by rfl) B.b_int bb_int (sa_cons (se_ix (se_var 1) se_int) sa_nil)) (sa_cons (se_callTy call_tInt (by rfl) B.b_int bb_int (sa_cons (se_var 2) sa_nil)) sa_nil))) (sg_sub (se_var 1) se_int))
  (ss_cons (ss_if (st_not (st_tru (se_var 3))) (ss_cons (ss_asg (se_if (st_isN (se_ix (se_var 0) se_int)) se_non (se_bin op_tSub (se_ix (se_var 1) se_int) se_int)) (sg_sub (se_var 1) se_int))
  (ss_one (ss_ret (se_ix (se_var 1) se_int)))) ss_nil)
  (ss_cons (ss_asg (se_bin op_tAdd (se_ix (se_var 1) se_int) se_int) (sg_sub (se_var 1) se_int))
  (ss_cons (ss_if (st_cmp (op_tEq hr.units) (se_ix (se_var 1) se_int) (se_ix (se_var 0) se_int) (nomark _)) (ss_cons (ss_asg se_int (sg_sub (se_var 1) se_int))
  (ss_one (ss_asg (se_if (st_isN (se_ix (se_var 0) se_int)) se_non (se_callB (call_tMin rfl) (by rfl) B.b_min bb_min (sa_cons (se_callTy call_tInt (by rfl) B.b_int bb_int (sa_cons (se_ix (se_var 0) se_int) sa_nil)) (sa_cons (se_callTy call_tInt (by rfl) B.b_int bb_int (sa_cons (se_bin op_tAdd (se_ix (se_var 1) se_int) se_int) sa_nil)) sa_nil)))) (sg_sub (se_var 1) se_int)))) ss_nil)
  (ss_one (ss_ret (se_ix (se_var 1) se_int))))))))))
theorem ok__law_world (B : Blt mg) (H__law_server : Has P w (TT.KW.mk K w) mg base "_law_server" 1 (spI (TT.KW.mk K w) 1 i_law_server)) {f : Addr} {fd : FuncData} (F : Fun K "_law_world" "_law_world" st__law_world f fd) (hm : mg "_law_world" = some (.ref f)) : Has P w (TT.KW.mk K w) mg base "_law_world" 2 (spI (TT.KW.mk K w) 1 (bodyI 1 1 s_law_world)) :=
  has_def (K := (TT.KW.mk K w)) F hm S__law_world (by decide) (fun _ _ _ _ _ _ us hl => match us, hl with | [_], _ => rfl) fun cdv A outer s H E hr => (ss_one (ss_ret (se_lstM (sa_cons (sh_callI H__law_server (hr.mono (by decide)) (sa_cons (se_var 0) sa_nil) (al_cons al_nil)) (sa_cons (se_lstM (sa_cons se_int (sa_cons se_non sa_nil)) (al_cons (al_cons al_nil))) (sa_cons (se_lstM (sa_cons se_non (sa_cons se_non sa_nil)) (al_cons (al_cons al_nil))) sa_nil))) (al_cons (al_cons (al_cons al_nil))))))
theorem ok__law_node (B : Blt mg) (H__law_old : Has P w (TT.KW.mk K w) mg base "_law_old" 1 (spP (TT.KW.mk K w) 3 f_law_old)) (H__law_key : Has P w (TT.KW.mk K w) mg base "_law_key" 1 (spP (TT.KW.mk K w) 2 f_law_key)) {f : Addr} {fd : FuncData} (F : Fun K "_law_node" "_law_node" st__law_node f fd) (hm : mg "_law_node" = some (.ref f)) : Has P w (TT.KW.mk K w) mg base "_law_node" 2 (spI (TT.KW.mk K w) 2 (bodyI 7 2 s_law_node)) :=
  has_def (K := (TT.KW.mk K w)) F hm S__law_node (by decide) (fun _ _ _ _ _ _ us hl => match us, hl with | [_, _], _ => rfl) fun cdv A outer s H E hr => (ss_cons (ss_asg (se_var 1) (sg_seq 3 rfl (sgs_cons 2 S__law_node.nd (sgs_cons 3 S__law_node.nd (sgs_cons 4 S__law_node.nd sgs_nil)))))
  (ss_cons (ss_set 5 S__law_node.nd (se_lstM (sa_cons (sh_callP H__law_key (hr.mono (by decide)) (sa_cons (se_var 0) (sa_cons (se_var 2) sa_nil)) (al_cons (al_cons al_nil))) sa_nil) (al_cons al_nil)))
  (ss_cons (ss_for PassesOwn.never rfl (si_rng1 (by rfl) B.b_range se_int) (sg_name 6 S__law_node.nd) (ss_cons (ss_expr (se_meth (t := .list) PySem.F.plainAttrs_list PySem.F.slot_list_append PySem.F.type_list_append mt_tAppend (se_var 5) (sa_cons (sh_callP H__law_old (hr.mono (by decide)) (sa_cons (se_var 0) (sa_cons (se_var 2) (sa_cons (se_ix (se_var 3) (se_var 6)) sa_nil))) (al_cons (al_cons (al_cons al_nil)))) sa_nil)))
  (ss_one (ss_if (st_w (sw_or (st_isN (se_ix (se_var 4) (se_var 6))) (sw_or1 (st_isN (se_ix (se_ix (se_var 4) (se_var 6)) se_int))))) (ss_one (ss_expr (se_meth (t := .list) PySem.F.plainAttrs_list PySem.F.slot_list_append PySem.F.type_list_append mt_tAppend (se_var 5) (sa_cons se_non sa_nil)))) (ss_one (ss_expr (se_meth (t := .list) PySem.F.plainAttrs_list PySem.F.slot_list_append PySem.F.type_list_append mt_tAppend (se_var 5) (sa_cons (se_tup (sa_cons (sh_callP H__law_old (hr.mono (by decide)) (sa_cons (se_var 0) (sa_cons (se_var 2) (sa_cons (se_ix (se_ix (se_var 4) (se_var 6)) se_int) sa_nil))) (al_cons (al_cons (al_cons al_nil)))) (sa_cons (se_cmp (op_tEq hr.units) (se_ix (se_ix (se_var 4) (se_var 6)) se_int) (se_ix (se_var 3) (se_var 6)) (nomark _)) sa_nil)) (al_cons (al_cons al_nil))) sa_nil))))))))
  (ss_one (ss_ret (se_callTy call_tTuple (by rfl) B.b_tuple bb_tuple (sa_cons (se_var 5) sa_nil)))))))
theorem ok_need_rule (B : Blt mg) (H_is_rule : Has P w (TT.KW.mk K w) mg base "is_rule" 2 (spP (TT.KW.mk K w) 1 f_is_rule)) {f : Addr} {fd : FuncData} (F : Fun K "need_rule" "need_rule" st_need_rule f fd) (hm : mg "need_rule" = some (.ref f)) : Has P w (TT.KW.mk K w) mg base "need_rule" 3 (spI (TT.KW.mk K w) 1 (bodyI 1 1 s_need_rule)) :=
  has_def (K := (TT.KW.mk K w)) F hm S_need_rule (by decide) (fun _ _ _ _ _ _ us hl => match us, hl with | [_], _ => rfl) fun cdv A outer s H E hr => (ss_one (ss_if (st_not (st_tru (sh_callP H_is_rule (hr.mono (by decide)) (sa_cons (se_var 0) sa_nil) (al_cons al_nil)))) (ss_one ss_never) ss_nil))
theorem ok_alone (B : Blt mg) (H_older : Has P w (TT.KW.mk K w) mg base "older" 1 (spP (TT.KW.mk K w) 3 f_older)) (H_requested : Has P w (TT.KW.mk K w) mg base "requested" 2 (spP (TT.KW.mk K w) 3 f_requested)) (H_ticked : Has P w (TT.KW.mk K w) mg base "ticked" 1 (spP (TT.KW.mk K w) 2 f_ticked)) {f : Addr} {fd : FuncData} (F : Fun K "alone" "alone" st_alone f fd) (hm : mg "alone" = some (.ref f)) : Has P w (TT.KW.mk K w) mg base "alone" 3 (spI (TT.KW.mk K w) 3 (bodyI 9 3 s_alone)) :=
  has_def (K := (TT.KW.mk K w)) F hm S_alone (by decide) (fun _ _ _ _ _ _ us hl => match us, hl with | [_, _, _], _ => rfl) fun cdv A outer s H E hr => (ss_cons (ss_asg (se_var 1) (sg_tup 3 rfl (sgs_cons 3 S_alone.nd (sgs_cons 4 S_alone.nd (sgs_cons 5 S_alone.nd sgs_nil)))))
  (ss_cons (ss_if (st_cmp (op_tEq hr.units) (se_var 2) (se_str [46, 46]) (nomark _)) (ss_one (ss_ret (se_tup (sa_cons se_bl (sa_cons (se_tup (sa_cons (sh_callP H_ticked (hr.mono (by decide)) (sa_cons (se_var 0) (sa_cons (se_var 3) sa_nil)) (al_cons (al_cons al_nil))) (sa_cons (se_var 4) (sa_cons (se_var 5) sa_nil))) (al_cons (al_cons (al_cons al_nil)))) sa_nil)) (al_cons (al_cons al_nil))))) ss_nil)
  (ss_cons (ss_if (st_cmp (op_tEq hr.units) (se_var 2) (se_str [43]) (nomark _)) (ss_one (ss_ret (se_tup (sa_cons se_bl (sa_cons (se_tup (sa_cons (se_var 3) (sa_cons (se_if (st_isN (se_var 5)) (se_var 4) (se_var 5)) (sa_cons se_non sa_nil))) (al_cons (al_cons (al_cons al_nil)))) sa_nil)) (al_cons (al_cons al_nil))))) ss_nil)
  (ss_cons (ss_asg (sh_callP H_requested (hr.mono (by decide)) (sa_cons (se_var 0) (sa_cons (se_var 3) (sa_cons (se_var 4) sa_nil))) (al_cons (al_cons (al_cons al_nil)))) (sg_tup 2 rfl (sgs_cons 6 S_alone.nd (sgs_cons 7 S_alone.nd sgs_nil))))
  (ss_cons (ss_if (st_cmp (op_tEq hr.units) (se_var 7) (se_str [114, 101, 102, 117, 115, 101, 100]) (nomark _)) (ss_one (ss_ret (se_tup (sa_cons se_bl (sa_cons (se_tup (sa_cons (se_var 6) (sa_cons (se_var 4) (sa_cons (se_var 5) sa_nil))) (al_cons (al_cons (al_cons al_nil)))) sa_nil)) (al_cons (al_cons al_nil))))) ss_nil)
  (ss_cons (ss_if (st_cmp (op_tEq hr.units) (se_var 2) (se_str [33]) (nomark _)) (ss_one (ss_ret (se_tup (sa_cons se_bl (sa_cons (se_tup (sa_cons (se_var 6) (sa_cons se_int (sa_cons (sh_callP H_older (hr.mono (by decide)) (sa_cons (se_var 0) (sa_cons (se_var 5) (sa_cons (se_var 7) sa_nil))) (al_cons (al_cons (al_cons al_nil)))) sa_nil))) (al_cons (al_cons (al_cons al_nil)))) sa_nil)) (al_cons (al_cons al_nil))))) ss_nil)
  (ss_cons (ss_set 8 S_alone.nd (se_if (st_cmp (op_tEq hr.units) (se_var 2) (se_str [126]) (nomark _)) se_int (sh_callP H_older (hr.mono (by decide)) (sa_cons (se_var 0) (sa_cons (se_var 5) (sa_cons (se_var 7) sa_nil))) (al_cons (al_cons (al_cons al_nil))))))
  (ss_one (ss_ret (se_tup (sa_cons se_bl (sa_cons (se_tup (sa_cons (se_var 6) (sa_cons (sh_callP H_older (hr.mono (by decide)) (sa_cons (se_var 0) (sa_cons (se_var 4) (sa_cons (se_var 7) sa_nil))) (al_cons (al_cons (al_cons al_nil)))) (sa_cons (se_var 8) sa_nil))) (al_cons (al_cons (al_cons al_nil)))) sa_nil)) (al_cons (al_cons al_nil))))))))))))
theorem ok__law_rule (B : Blt mg) (H__law_of : Has P w (TT.KW.mk K w) mg base "_law_of" 2 (spI (TT.KW.mk K w) 2 i_law_of)) (H__law_take : Has P w (TT.KW.mk K w) mg base "_law_take" 1 (spI (TT.KW.mk K w) 2 i_law_take)) {f : Addr} {fd : FuncData} (F : Fun K "_law_rule" "_law_rule" st__law_rule f fd) (hm : mg "_law_rule" = some (.ref f)) : Has P w (TT.KW.mk K w) mg base "_law_rule" 3 (spI (TT.KW.mk K w) 1 (bodyI 3 1 s_law_rule)) :=
  has_def (K := (TT.KW.mk K w)) F hm S__law_rule (by decide) (fun _ _ _ _ _ _ us hl => match us, hl with | [_], _ => rfl) fun cdv A outer s H E hr => (ss_cons (ss_set 1 S__law_rule.nd (se_tup (sa_cons (sh_callI H__law_take (hr.mono (by decide)) (sa_cons (se_var 0) (sa_cons se_int sa_nil)) (al_cons (al_cons al_nil))) (sa_cons (sh_callI H__law_of (hr.mono (by decide)) (sa_cons (se_var 0) (sa_cons (se_lst (sa_cons (se_str [115, 97, 109, 101]) (sa_cons (se_str [110, 101, 119]) sa_nil)) (al_cons (al_cons al_nil))) sa_nil)) (al_cons (al_cons al_nil))) (sa_cons (se_cmp (op_tEq hr.units) (sh_callI H__law_take (hr.mono (by decide)) (sa_cons (se_var 0) (sa_cons se_int sa_nil)) (al_cons (al_cons al_nil))) se_int (nomark _)) sa_nil))) (al_cons (al_cons (al_cons al_nil)))))
  (ss_cons (ss_set 2 S__law_rule.nd (se_tup (sa_cons (sh_callI H__law_of (hr.mono (by decide)) (sa_cons (se_var 0) (sa_cons (se_lst (sa_cons se_non (sa_cons se_non (sa_cons se_int (sa_cons se_int (sa_cons se_int sa_nil))))) (al_cons (al_cons (al_cons (al_cons (al_cons al_nil)))))) sa_nil)) (al_cons (al_cons al_nil))) (sa_cons (sh_callI H__law_of (hr.mono (by decide)) (sa_cons (se_var 0) (sa_cons (se_lst (sa_cons se_non (sa_cons se_non (sa_cons se_int (sa_cons se_int (sa_cons se_int sa_nil))))) (al_cons (al_cons (al_cons (al_cons (al_cons al_nil)))))) sa_nil)) (al_cons (al_cons al_nil))) sa_nil)) (al_cons (al_cons al_nil))))
  (ss_one (ss_ret (se_bin op_tAdd (se_bin op_tAdd (se_var 1) (se_var 2)) (se_tup (sa_cons (se_bin op_tAdd se_int (sh_callI H__law_take (hr.mono (by decide)) (sa_cons (se_var 0) (sa_cons se_int sa_nil)) (al_cons (al_cons al_nil)))) (sa_cons (sh_callI H__law_of (hr.mono (by decide)) (sa_cons (se_var 0) (sa_cons (se_lst (sa_cons (se_str [114, 101, 102, 117, 115, 101]) (sa_cons (se_str [101, 110, 100]) sa_nil)) (al_cons (al_cons al_nil))) sa_nil)) (al_cons (al_cons al_nil))) sa_nil)) (al_cons (al_cons al_nil))))))))
theorem ok__law_event (B : Blt mg) (H__law_asked : Has P w (TT.KW.mk K w) mg base "_law_asked" 2 (spI (TT.KW.mk K w) 3 i_law_asked)) {f : Addr} {fd : FuncData} (F : Fun K "_law_event" "_law_event" st__law_event f fd) (hm : mg "_law_event" = some (.ref f)) : Has P w (TT.KW.mk K w) mg base "_law_event" 3 (spI (TT.KW.mk K w) 4 (bodyI 11 4 s_law_event)) :=
  has_def (K := (TT.KW.mk K w)) F hm S__law_event (by decide) (fun _ _ _ _ _ _ us hl => match us, hl with | [_, _, _, _], _ => rfl) fun cdv A outer s H E hr => (ss_cons (ss_asg (se_var 1) (sg_seq 3 rfl (sgs_cons 4 S__law_event.nd (sgs_cons 5 S__law_event.nd (sgs_cons 6 S__law_event.nd sgs_nil)))))
  (ss_cons (ss_if (st_cmp (op_tEq hr.units) (se_var 2) (se_str [46, 46]) (nomark _)) (ss_cons (ss_asg (se_bin op_tAdd (se_ix (se_var 4) se_int) se_int) (sg_sub (se_var 4) se_int))
  (ss_one (ss_ret se_non))) ss_nil)
  (ss_cons (ss_set 7 S__law_event.nd (se_meth (t := .str) PySem.F.plainAttrs_str PySem.F.slot_str_index PySem.F.type_str_index mt_tIndexS (se_str [97, 98]) (sa_cons (se_ix (se_var 2) se_int) sa_nil)))
  (ss_cons (ss_if (st_cmp (op_tIn hr.units) (se_var 2) (se_lst (sa_cons (se_str [97, 98]) (sa_cons (se_str [98, 97]) sa_nil)) (al_cons (al_cons al_nil))) rfl) (ss_cons (ss_asg (se_ix (se_var 5) (se_var 7)) (sg_sub (se_var 5) (se_bin op_tSub se_int (se_var 7))))
  (ss_cons (ss_asg se_non (sg_sub (se_var 6) (se_bin op_tSub se_int (se_var 7))))
  (ss_one (ss_ret se_non)))) ss_nil)
  (ss_cons (ss_set 8 S__law_event.nd (se_ix (se_var 5) (se_var 7)))
  (ss_cons (ss_if (st_cmp (op_tEq hr.units) (se_ix (se_var 2) se_int) (se_str [43]) (nomark _)) (ss_cons (ss_asg (se_ix (se_var 6) (se_var 7)) (sg_tup 2 rfl (sgs_cons 9 S__law_event.nd (sgs_cons 10 S__law_event.nd sgs_nil))))
  (ss_cons (ss_asg se_non (sg_sub (se_var 6) (se_var 7)))
  (ss_cons (ss_if (st_w (sw_and (st_notN (se_var 10)) (sw_and1 (st_w (sw_or (st_not (st_tru (se_var 3))) (sw_or1 (st_cmp (op_tEq hr.units) (se_var 9) (se_var 8) (nomark _)))))))) (ss_one (ss_asg (se_var 10) (sg_sub (se_var 5) (se_var 7)))) ss_nil)
  (ss_one (ss_ret se_non))))) ss_nil)
  (ss_cons (ss_set 10 S__law_event.nd (sh_callI H__law_asked (hr.mono (by decide)) (sa_cons (se_var 0) (sa_cons (se_var 4) (sa_cons (se_var 8) sa_nil))) (al_cons (al_cons (al_cons al_nil)))))
  (ss_cons (ss_if (st_w (sw_and (st_cmp (op_tEq hr.units) (se_ix (se_var 2) se_int) (se_str [33]) (nomark _)) (sw_and1 (st_notN (se_var 10))))) (ss_one (ss_asg (se_var 10) (sg_sub (se_var 5) (se_var 7)))) ss_nil)
  (ss_cons (ss_if (st_cmp (op_tEq hr.units) (se_ix (se_var 2) se_int) (se_str [126]) (nomark _)) (ss_one (ss_asg (se_tup (sa_cons (se_var 8) (sa_cons (se_var 10) sa_nil)) (al_cons (al_cons al_nil))) (sg_sub (se_var 6) (se_var 7)))) ss_nil)
  (ss_one (ss_ret (se_tup (sa_cons (se_var 8) (sa_cons (se_var 10) sa_nil)) (al_cons (al_cons al_nil))))))))))))))
theorem ok_moved (B : Blt mg) (H_alone : Has P w (TT.KW.mk K w) mg base "alone" 3 (spP (TT.KW.mk K w) 3 f_alone)) {f : Addr} {fd : FuncData} (F : Fun K "moved" "moved" st_moved f fd) (hm : mg "moved" = some (.ref f)) : Has P w (TT.KW.mk K w) mg base "moved" 4 (spI (TT.KW.mk K w) 4 (bodyI 5 4 s_moved)) :=
  has_def (K := (TT.KW.mk K w)) F hm S_moved (by decide) (fun _ _ _ _ _ _ us hl => match us, hl with | [_, _, _, _], _ => rfl) fun cdv A outer s H E hr => (ss_cons (ss_set 4 S_moved.nd (se_ix (sh_callP H_alone (hr.mono (by decide)) (sa_cons (se_var 0) (sa_cons (se_var 1) (sa_cons (se_var 2) sa_nil))) (al_cons (al_cons (al_cons al_nil)))) se_int))
  (ss_one (ss_ret (se_if (st_w (sw_and (st_tru (se_var 3)) (sw_and1 (st_cmp (op_tEq hr.units) (se_var 2) (se_str [33]) (nomark _))))) (se_bin op_tAdd (se_slH (se_var 4) se_int) (se_tup (sa_cons se_non sa_nil) (al_cons al_nil))) (se_var 4)))))
theorem ok__law_easy (B : Blt mg) (H__law_of : Has P w (TT.KW.mk K w) mg base "_law_of" 2 (spI (TT.KW.mk K w) 2 i_law_of)) (H__law_rule : Has P w (TT.KW.mk K w) mg base "_law_rule" 3 (spI (TT.KW.mk K w) 1 i_law_rule)) {f : Addr} {fd : FuncData} (F : Fun K "_law_easy" "_law_easy" st__law_easy f fd) (hm : mg "_law_easy" = some (.ref f)) : Has P w (TT.KW.mk K w) mg base "_law_easy" 4 (spI (TT.KW.mk K w) 1 (bodyI 2 1 s_law_easy)) :=
  has_def (K := (TT.KW.mk K w)) F hm S__law_easy (by decide) (fun _ _ _ _ _ _ us hl => match us, hl with | [_], _ => rfl) fun cdv A outer s H E hr => (ss_cons (ss_set 1 S__law_easy.nd (sh_callI H__law_rule (hr.mono (by decide)) (sa_cons (se_var 0) sa_nil) (al_cons al_nil)))
  (ss_cons (ss_if (st_w (sw_or (st_isN (se_ix (se_var 1) se_int)) (sw_or1 (st_isN (se_ix (se_var 1) se_int))))) (ss_one (ss_ret (se_var 1))) ss_nil)
  (ss_one (ss_ret (se_bin op_tAdd (se_bin op_tAdd (se_slH (se_var 1) se_int) (sh_callI H__law_of (hr.mono (by decide)) (sa_cons (se_var 0) (sa_cons (se_lst (sa_cons (se_tup (sa_cons se_non (sa_cons (se_ix (se_var 1) se_int) sa_nil)) (al_cons (al_cons al_nil))) (sa_cons (se_tup (sa_cons (se_ix (se_var 1) se_int) (sa_cons se_non sa_nil)) (al_cons (al_cons al_nil))) sa_nil)) (al_cons (al_cons al_nil))) sa_nil)) (al_cons (al_cons al_nil)))) (se_slL (se_var 1) se_int))))))
theorem ok__law_course (B : Blt mg) (H__law_event : Has P w (TT.KW.mk K w) mg base "_law_event" 3 (spI (TT.KW.mk K w) 4 i_law_event)) (H__law_world : Has P w (TT.KW.mk K w) mg base "_law_world" 2 (spI (TT.KW.mk K w) 1 i_law_world)) {f : Addr} {fd : FuncData} (F : Fun K "_law_course" "_law_course" st__law_course f fd) (hm : mg "_law_course" = some (.ref f)) : Has P w (TT.KW.mk K w) mg base "_law_course" 4 (spI (TT.KW.mk K w) 3 (bodyI 6 3 s_law_course)) :=
  has_def (K := (TT.KW.mk K w)) F hm S__law_course (by decide) (fun _ _ _ _ _ _ us hl => match us, hl with | [_, _, _], _ => rfl) fun cdv A outer s H E hr => (ss_cons (ss_par2 3 4 rfl S__law_course.nd (sa_cons (sh_callI H__law_world (hr.mono (by decide)) (sa_cons (se_var 0) sa_nil) (al_cons al_nil)) (sa_cons (se_lstM sa_nil al_nil) sa_nil)))
  (ss_cons (ss_for PassesOwn.never rfl (si_tup (se_var 1)) (sg_name 5 S__law_course.nd) (ss_one (ss_expr (se_meth (t := .list) PySem.F.plainAttrs_list PySem.F.slot_list_append PySem.F.type_list_append mt_tAppend (se_var 4) (sa_cons (sh_callI H__law_event (hr.mono (by decide)) (sa_cons (se_var 0) (sa_cons (se_var 3) (sa_cons (se_var 5) (sa_cons (se_var 2) sa_nil)))) (al_cons (al_cons (al_cons (al_cons al_nil))))) sa_nil)))))
  (ss_one (ss_ret (se_tup (sa_cons (se_var 4) (sa_cons (se_var 3) sa_nil)) (al_cons (al_cons al_nil)))))))
theorem ok__law_try (B : Blt mg) (H__law_event : Has P w (TT.KW.mk K w) mg base "_law_event" 3 (spI (TT.KW.mk K w) 4 i_law_event)) (H__law_copied : Has P w (TT.KW.mk K w) mg base "_law_copied" 1 (spI (TT.KW.mk K w) 1 i_law_copied)) {f : Addr} {fd : FuncData} (F : Fun K "_law_try" "_law_try" st__law_try f fd) (hm : mg "_law_try" = some (.ref f)) : Has P w (TT.KW.mk K w) mg base "_law_try" 4 (spI (TT.KW.mk K w) 4 (bodyI 6 4 s_law_try)) :=
  has_def (K := (TT.KW.mk K w)) F hm S__law_try (by decide) (fun _ _ _ _ _ _ us hl => match us, hl with | [_, _, _, _], _ => rfl) fun cdv A outer s H E hr => (ss_cons (ss_set 4 S__law_try.nd (sh_callI H__law_copied (hr.mono (by decide)) (sa_cons (se_var 1) sa_nil) (al_cons al_nil)))
  (ss_cons (ss_set 5 S__law_try.nd (sh_callI H__law_event (hr.mono (by decide)) (sa_cons (se_var 0) (sa_cons (se_var 4) (sa_cons (se_var 2) (sa_cons (se_var 3) sa_nil)))) (al_cons (al_cons (al_cons (al_cons al_nil))))))
  (ss_one (ss_ret (se_tup (sa_cons (se_and (se_notN (se_var 5)) (se_and1 (se_isN (se_ix (se_var 5) se_int)))) (sa_cons (se_var 4) sa_nil)) (al_cons (al_cons al_nil)))))))
theorem ok_spread (B : Blt mg) (H_moved : Has P w (TT.KW.mk K w) mg base "moved" 4 (spP (TT.KW.mk K w) 4 f_moved)) (H_alone : Has P w (TT.KW.mk K w) mg base "alone" 3 (spP (TT.KW.mk K w) 3 f_alone)) (C_SAFE : HasC (TT.KW.mk K w) mg "SAFE" c_SAFE) {f : Addr} {fd : FuncData} (F : Fun K "spread" "spread" st_spread f fd) (hm : mg "spread" = some (.ref f)) : Has P w (TT.KW.mk K w) mg base "spread" 5 (spI (TT.KW.mk K w) 4 (bodyI 9 4 s_spread)) :=
  has_def (K := (TT.KW.mk K w)) F hm S_spread (by decide) (fun _ _ _ _ _ _ us hl => match us, hl with | [_, _, _, _], _ => rfl) fun cdv A outer s H E hr => (ss_cons (ss_set 4 S_spread.nd (se_lstM sa_nil al_nil))
  (ss_cons (ss_set 5 S_spread.nd se_knew)
  (ss_cons (ss_set 6 S_spread.nd se_int)
  (ss_cons (ss_for PassesOwn.never rfl (si_list (se_var 3)) (sg_name 7 S_spread.nd) (ss_one (ss_expr (se_meth (t := .list) PySem.F.plainAttrs_list PySem.F.slot_list_append PySem.F.type_list_append mt_tAppend (se_var 4) (sa_cons (se_var 7) sa_nil)))))
  (ss_cons (ss_while PassesOwn.never (st_cmp op_tLt (se_var 6) (se_callB call_tLen (by rfl) B.b_len bb_len (sa_cons (se_var 4) sa_nil)) (nomark _)) (ss_cons (ss_set 7 S_spread.nd (se_ix (se_var 4) (se_var 6)))
  (ss_cons (ss_set 6 S_spread.nd (se_bin op_tAdd (se_var 6) se_int))
  (ss_cons (ss_if (st_w (sw_or (st_cmp (op_kin hr.units) (se_var 7) (se_var 2) rfl) (sw_or1 (st_cmp (op_kin hr.units) (se_var 7) (se_var 5) rfl)))) (ss_one ss_cont) ss_nil)
  (ss_cons (ss_asg se_bl (sg_ksub hr.units (se_var 5) (se_var 7)))
  (ss_cons (ss_if (st_tru (se_ix (sh_callP H_alone (hr.mono (by decide)) (sa_cons (se_var 0) (sa_cons (se_var 7) (sa_cons (se_str [33]) sa_nil))) (al_cons (al_cons (al_cons al_nil)))) se_int)) (ss_one (ss_ret (se_tup (sa_cons (se_var 5) (sa_cons se_bl sa_nil)) (al_cons (al_cons al_nil))))) ss_nil)
  (ss_one (ss_for PassesOwn.never rfl (si_tup (sh_glob C_SAFE)) (sg_name 8 S_spread.nd) (ss_one (ss_expr (se_meth (t := .list) PySem.F.plainAttrs_list PySem.F.slot_list_append PySem.F.type_list_append mt_tAppend (se_var 4) (sa_cons (sh_callP H_moved (hr.mono (by decide)) (sa_cons (se_var 0) (sa_cons (se_var 7) (sa_cons (se_var 8) (sa_cons (se_var 1) sa_nil)))) (al_cons (al_cons (al_cons (al_cons al_nil))))) sa_nil))))))))))))
  (ss_one (ss_ret (se_tup (sa_cons (se_var 5) (sa_cons se_bl sa_nil)) (al_cons (al_cons al_nil))))))))))
theorem ok_shortest (B : Blt mg) (H_alone : Has P w (TT.KW.mk K w) mg base "alone" 3 (spP (TT.KW.mk K w) 3 f_alone)) (H_moved : Has P w (TT.KW.mk K w) mg base "moved" 4 (spP (TT.KW.mk K w) 4 f_moved)) (H_first_node : Has P w (TT.KW.mk K w) mg base "first_node" 2 (spP (TT.KW.mk K w) 1 f_first_node)) (C_SAFE : HasC (TT.KW.mk K w) mg "SAFE" c_SAFE) (C_FAULTS : HasC (TT.KW.mk K w) mg "FAULTS" c_FAULTS) {f : Addr} {fd : FuncData} (F : Fun K "shortest" "shortest" st_shortest f fd) (hm : mg "shortest" = some (.ref f)) : Has P w (TT.KW.mk K w) mg base "shortest" 5 (spI (TT.KW.mk K w) 3 (bodyI 12 3 s_shortest)) :=
  has_def (K := (TT.KW.mk K w)) F hm S_shortest (by decide) (fun _ _ _ _ _ _ us hl => match us, hl with | [_, _, _], _ => rfl) fun cdv A outer s H E hr => (ss_cons (ss_par3 3 4 5 rfl S_shortest.nd (sa_cons (se_lstM (sa_cons (se_tup (sa_cons (sh_callP H_first_node (hr.mono (by decide)) (sa_cons (se_var 0) sa_nil) (al_cons al_nil)) (sa_cons se_int (sa_cons (se_tup sa_nil al_nil) sa_nil))) (al_cons (al_cons (al_cons al_nil)))) sa_nil) (al_cons al_nil)) (sa_cons se_knew (sa_cons se_int sa_nil))))
  (ss_cons (ss_while PassesOwn.never (st_not (st_tru (se_ix (sh_callP H_alone (hr.mono (by decide)) (sa_cons (se_var 0) (sa_cons (se_ix (se_ix (se_var 3) (se_var 5)) se_int) (sa_cons (se_str [33]) sa_nil))) (al_cons (al_cons (al_cons al_nil)))) se_int))) (ss_cons (ss_asg (se_ix (se_var 3) (se_var 5)) (sg_tup 3 rfl (sgs_cons 6 S_shortest.nd (sgs_cons 7 S_shortest.nd (sgs_cons 8 S_shortest.nd sgs_nil)))))
  (ss_cons (ss_set 5 S_shortest.nd (se_bin op_tAdd (se_var 5) se_int))
  (ss_one (ss_for PassesOwn.never rfl (si_tup (se_bin op_tAdd (sh_glob C_SAFE) (sh_glob C_FAULTS))) (sg_name 9 S_shortest.nd) (ss_cons (ss_set 10 S_shortest.nd (se_bin op_tAdd (se_var 7) (se_callTy call_tInt (by rfl) B.b_int bb_int (sa_cons (se_cmp (op_tIn hr.units) (se_var 9) (sh_glob C_FAULTS) rfl) sa_nil))))
  (ss_one (ss_if (st_w (sw_and (st_cmp op_tLe (se_var 10) (se_var 2) (nomark _)) (sw_and1 (st_w (sw_or (st_cmp (op_tNe hr.units) (se_var 9) (se_str [43]) (nomark _)) (sw_or1 (st_notN (se_ix (se_var 6) se_int)))))))) (ss_cons (ss_set 11 S_shortest.nd (sh_callP H_moved (hr.mono (by decide)) (sa_cons (se_var 0) (sa_cons (se_var 6) (sa_cons (se_var 9) (sa_cons (se_var 1) sa_nil)))) (al_cons (al_cons (al_cons (al_cons al_nil))))))
  (ss_one (ss_if (st_cmp op_tGt (se_kget hr.units (se_var 4) (se_var 11) (se_bin op_tAdd (se_var 2) se_int)) (se_var 10) (nomark _)) (ss_cons (ss_asg (se_var 10) (sg_ksub hr.units (se_var 4) (se_var 11)))
  (ss_one (ss_expr (se_meth (t := .list) PySem.F.plainAttrs_list PySem.F.slot_list_append PySem.F.type_list_append mt_tAppend (se_var 3) (sa_cons (se_tup (sa_cons (se_var 11) (sa_cons (se_var 10) (sa_cons (se_bin op_tAdd (se_var 8) (se_tup (sa_cons (se_if (st_cmp (op_tEq hr.units) (se_var 9) (se_str [46, 46]) (nomark _)) (se_str [46, 46]) (se_bin op_tAdd (se_str [97]) (se_var 9))) sa_nil) (al_cons al_nil))) sa_nil))) (al_cons (al_cons (al_cons al_nil)))) sa_nil))))) ss_nil))) ss_nil))))))))
  (ss_one (ss_ret (se_bin op_tAdd (se_ix (se_ix (se_var 3) (se_var 5)) se_int) (se_tup (sa_cons (se_str [97, 33]) sa_nil) (al_cons al_nil)))))))
theorem ok__law_shortest (B : Blt mg) (H__law_node : Has P w (TT.KW.mk K w) mg base "_law_node" 2 (spP (TT.KW.mk K w) 2 f_law_node)) (H__law_try : Has P w (TT.KW.mk K w) mg base "_law_try" 4 (spP (TT.KW.mk K w) 4 f_law_try)) (H__law_world : Has P w (TT.KW.mk K w) mg base "_law_world" 2 (spI (TT.KW.mk K w) 1 i_law_world)) (HP__law_world : Has P w (TT.KW.mk K w) mg base "_law_world" 2 (spP (TT.KW.mk K w) 1 f_law_world)) {f : Addr} {fd : FuncData} (F : Fun K "_law_shortest" "_law_shortest" st__law_shortest f fd) (hm : mg "_law_shortest" = some (.ref f)) : Has P w (TT.KW.mk K w) mg base "_law_shortest" 5 (spI (TT.KW.mk K w) 3 (bodyI 13 3 s_law_shortest)) :=
  has_def (K := (TT.KW.mk K w)) F hm S__law_shortest (by decide) (fun _ _ _ _ _ _ us hl => match us, hl with | [_, _, _], _ => rfl) fun cdv A outer s H E hr => (ss_cons (ss_set 3 S__law_shortest.nd (se_lst (sa_cons (se_tup (sa_cons (sh_callP HP__law_world (hr.mono (by decide)) (sa_cons (se_var 0) sa_nil) (al_cons al_nil)) (sa_cons se_int sa_nil)) (al_cons (al_cons al_nil))) sa_nil) (al_cons al_nil)))
  (ss_cons (ss_set 4 S__law_shortest.nd se_knew)
  (ss_cons (ss_for PassesOwn.never rfl (si_rng2 (by rfl) B.b_range se_int se_int) (sg_name 5 S__law_shortest.nd) (ss_cons (ss_set 6 S__law_shortest.nd (se_lstM sa_nil al_nil))
  (ss_cons (ss_for PassesOwn.never rfl (si_list (se_var 3)) (sg_tup 2 rfl (sgs_cons 7 S__law_shortest.nd (sgs_cons 8 S__law_shortest.nd sgs_nil))) (ss_cons (ss_if (st_tru (se_ix (sh_callP H__law_try (hr.mono (by decide)) (sa_cons (se_var 0) (sa_cons (se_var 7) (sa_cons (se_str [97, 33]) (sa_cons (se_var 2) sa_nil)))) (al_cons (al_cons (al_cons (al_cons al_nil))))) se_int)) (ss_one (ss_ret (se_var 5))) ss_nil)
  (ss_one (ss_for PassesOwn.never rfl (si_list (se_bin op_tAdd (se_lst (sa_cons (se_str [97, 33]) (sa_cons (se_str [46, 46]) (sa_cons (se_str [97, 45]) (sa_cons (se_str [97, 126]) sa_nil)))) (al_cons (al_cons (al_cons (al_cons al_nil))))) (se_bin op_tMul (se_lst (sa_cons (se_str [97, 43]) sa_nil) (al_cons al_nil)) (se_callTy call_tInt (by rfl) B.b_int bb_int (sa_cons (se_notN (se_ix (se_ix (se_var 7) se_int) se_int)) sa_nil))))) (sg_name 9 S__law_shortest.nd) (ss_cons (ss_set 10 S__law_shortest.nd (se_bin op_tAdd (se_var 8) (se_callTy call_tInt (by rfl) B.b_int bb_int (sa_cons (se_cmp (op_tIn hr.units) (se_var 9) (se_lst (sa_cons (se_str [97, 45]) (sa_cons (se_str [97, 126]) sa_nil)) (al_cons (al_cons al_nil))) rfl) sa_nil))))
  (ss_one (ss_if (st_cmp op_tLe (se_var 10) (se_var 1) (nomark _)) (ss_cons (ss_set 11 S__law_shortest.nd (se_ix (sh_callP H__law_try (hr.mono (by decide)) (sa_cons (se_var 0) (sa_cons (se_var 7) (sa_cons (se_var 9) (sa_cons (se_var 2) sa_nil)))) (al_cons (al_cons (al_cons (al_cons al_nil))))) se_int))
  (ss_cons (ss_set 12 S__law_shortest.nd (sh_callP H__law_node (hr.mono (by decide)) (sa_cons (se_var 0) (sa_cons (se_var 11) sa_nil)) (al_cons (al_cons al_nil))))
  (ss_one (ss_if (st_cmp op_tGt (se_kget hr.units (se_var 4) (se_var 12) (se_bin op_tAdd (se_var 1) se_int)) (se_var 10) (nomark _)) (ss_cons (ss_asg (se_var 10) (sg_ksub hr.units (se_var 4) (se_var 12)))
  (ss_one (ss_expr (se_meth (t := .list) PySem.F.plainAttrs_list PySem.F.slot_list_append PySem.F.type_list_append mt_tAppend (se_var 6) (sa_cons (se_tup (sa_cons (se_var 11) (sa_cons (se_var 10) sa_nil)) (al_cons (al_cons al_nil))) sa_nil))))) ss_nil)))) ss_nil)))))))
  (ss_frz 6 (ss_one (ss_set 3 S__law_shortest.nd (se_var 6)))))))
  (ss_one (ss_ret se_non)))))
theorem ok_fewest (B : Blt mg) (H_moved : Has P w (TT.KW.mk K w) mg base "moved" 4 (spP (TT.KW.mk K w) 4 f_moved)) (H_spread : Has P w (TT.KW.mk K w) mg base "spread" 5 (spI (TT.KW.mk K w) 4 i_spread)) (H_first_node : Has P w (TT.KW.mk K w) mg base "first_node" 2 (spP (TT.KW.mk K w) 1 f_first_node)) (C_FAULTS : HasC (TT.KW.mk K w) mg "FAULTS" c_FAULTS) {f : Addr} {fd : FuncData} (F : Fun K "fewest" "fewest" st_fewest f fd) (hm : mg "fewest" = some (.ref f)) : Has P w (TT.KW.mk K w) mg base "fewest" 6 (spI (TT.KW.mk K w) 2 (bodyI 9 2 s_fewest)) :=
  has_def (K := (TT.KW.mk K w)) F hm S_fewest (by decide) (fun _ _ _ _ _ _ us hl => match us, hl with | [_, _], _ => rfl) fun cdv A outer s H E hr => (ss_cons (ss_set 2 S_fewest.nd se_knew)
  (ss_cons (ss_par2 3 4 rfl S_fewest.nd (sa_cons (se_lst (sa_cons (sh_callP H_first_node (hr.mono (by decide)) (sa_cons (se_var 0) sa_nil) (al_cons al_nil)) sa_nil) (al_cons al_nil)) (sa_cons se_int sa_nil)))
  (ss_cons (ss_while PassesOwn.never (st_cmp (op_tNe hr.units) (se_var 3) (se_lst sa_nil al_nil) (nomark _)) (ss_cons (ss_asg (sh_callI H_spread (hr.mono (by decide)) (sa_cons (se_var 0) (sa_cons (se_var 1) (sa_cons (se_var 2) (sa_cons (se_var 3) sa_nil)))) (al_cons (al_cons (al_cons (al_cons al_nil))))) (sg_tup 2 rfl (sgs_cons 5 S_fewest.nd (sgs_cons 6 S_fewest.nd sgs_nil))))
  (ss_cons (ss_if (st_tru (se_var 6)) (ss_one (ss_ret (se_var 4))) ss_nil)
  (ss_lock 5 (ss_cons (ss_setLc2 3 7 8 rfl S_fewest.nd (si_kl (se_var 5)) (blkOk_by (own := [("node", 7), ("event", 8)]) (N := n_fewest) (sc := defScope st_fewest) (by decide +kernel)) (fun _ _ _ _ _ => pg_name (i := 7) S_fewest.nd rfl (Or.inl rfl)) (fun _ _ _ _ _ => sts_nil) (fun _ _ _ _ _ => (sh_glob C_FAULTS)) (fun _ _ _ _ _ => pg_name (i := 8) S_fewest.nd rfl (Or.inl rfl)) (fun _ _ _ _ _ => sts_nil) (fun _ _ _ _ _ => (sh_callP H_moved (hr.mono (by decide)) (sa_cons (se_var 0) (sa_cons (se_var 7) (sa_cons (se_var 8) (sa_cons (se_var 1) sa_nil)))) (al_cons (al_cons (al_cons (al_cons al_nil)))))) (sw_true rfl rfl rfl (by decide +kernel)))
  (ss_cons (ss_for PassesOwn.never rfl (si_kl (se_var 5)) (sg_name 7 S_fewest.nd) (ss_one (ss_asg se_bl (sg_ksub hr.units (se_var 2) (se_var 7)))))
  (ss_one (ss_set 4 S_fewest.nd (se_bin op_tAdd (se_var 4) se_int)))))))))
  (ss_one (ss_ret se_non)))))
theorem fn_fewest_faults (B : Blt mg) (H_fewest : Has P w (TT.KW.mk K w) mg base "fewest" 6 (spP (TT.KW.mk K w) 2 f_fewest)) (H_need_rule : Has P w (TT.KW.mk K w) mg base "need_rule" 3 (spP (TT.KW.mk K w) 1 f_need_rule)) {f : Addr} {fd : FuncData} (F : Fun K "fewest_faults" "fewest_faults" st_fewest_faults f fd) : FnOk P w K mg base CX0 7 f fd ["rule", "careful"] (spI (TT.KW.mk K w) 2 (bodyI 2 2 s_fewest_faults)) :=
  defI (K := (TT.KW.mk K w)) F S_fewest_faults (by decide) fun cdv A outer s H E hr => (ss_cons (ss_expr (sh_callP H_need_rule (hr.mono (by decide)) (sa_cons (se_var 0) sa_nil) (al_cons al_nil)))
  (ss_one (ss_ret (sh_callP H_fewest (hr.mono (by decide)) (sa_cons (se_var 0) (sa_cons (se_var 1) sa_nil)) (al_cons (al_cons al_nil))))))
theorem ok_fewest_faults {f : Addr} {fd : FuncData} (a : FnOk P w K mg base CX0 7 f fd ["rule", "careful"] (spI (TT.KW.mk K w) 2 (bodyI 2 2 s_fewest_faults))) (F : Fun K "fewest_faults" "fewest_faults" st_fewest_faults f fd) (hm : mg "fewest_faults" = some (.ref f)) : HasK P w (TT.KW.mk K w) mg base "fewest_faults" 7 1 ["careful"] (spI (TT.KW.mk K w) 2 (bodyI 2 2 s_fewest_faults)) :=
  hasK_fn 1 ["careful"] a F hm (fun _ _ _ _ _ _ us ws hl hl2 => match us, hl, ws, hl2 with | [_], _, [_], _ => rfl)
theorem okD_fewest_faults {f : Addr} {fd : FuncData} (a : FnOk P w K mg base CX0 7 f fd ["rule", "careful"] (spI (TT.KW.mk K w) 2 (bodyI 2 2 s_fewest_faults))) (hm : mg "fewest_faults" = some (.ref f)) (F : FunD K "fewest_faults" "fewest_faults" (defArgs st_fewest_faults) (defBody st_fewest_faults) (defScope st_fewest_faults) [] [("careful", .bl false)] f fd) : HasD P w (TT.KW.mk K w) mg base "fewest_faults" 7 [(.bl false)] (spI (TT.KW.mk K w) 2 (bodyI 2 2 s_fewest_faults)) :=
  hasD_fn (st := st_fewest_faults) 1 a hm F (by decide) rfl (fun D doc pm an cdv ct us ks hl hl2 => match us, hl, ks, hl2 with | [_], _, [_], _ => ⟨_, _, _, _, _, _, rfl, rfl, rfl⟩) (fun g H => .cons (.bl _) (.nil))
theorem fn_fault_history (B : Blt mg) (H_shortest : Has P w (TT.KW.mk K w) mg base "shortest" 5 (spP (TT.KW.mk K w) 3 f_shortest)) (H_fewest : Has P w (TT.KW.mk K w) mg base "fewest" 6 (spP (TT.KW.mk K w) 2 f_fewest)) (H_need_rule : Has P w (TT.KW.mk K w) mg base "need_rule" 3 (spP (TT.KW.mk K w) 1 f_need_rule)) {f : Addr} {fd : FuncData} (F : Fun K "fault_history" "fault_history" st_fault_history f fd) : FnOk P w K mg base CX0 7 f fd ["rule", "careful"] (spI (TT.KW.mk K w) 2 (bodyI 3 2 s_fault_history)) :=
  defI (K := (TT.KW.mk K w)) F S_fault_history (by decide) fun cdv A outer s H E hr => (ss_cons (ss_expr (sh_callP H_need_rule (hr.mono (by decide)) (sa_cons (se_var 0) sa_nil) (al_cons al_nil)))
  (ss_cons (ss_set 2 S_fault_history.nd (sh_callP H_fewest (hr.mono (by decide)) (sa_cons (se_var 0) (sa_cons (se_var 1) sa_nil)) (al_cons (al_cons al_nil))))
  (ss_one (ss_ret (se_if (st_isN (se_var 2)) se_non (sh_callP H_shortest (hr.mono (by decide)) (sa_cons (se_var 0) (sa_cons (se_var 1) (sa_cons (se_var 2) sa_nil))) (al_cons (al_cons (al_cons al_nil)))))))))
theorem ok_fault_history {f : Addr} {fd : FuncData} (a : FnOk P w K mg base CX0 7 f fd ["rule", "careful"] (spI (TT.KW.mk K w) 2 (bodyI 3 2 s_fault_history))) (F : Fun K "fault_history" "fault_history" st_fault_history f fd) (hm : mg "fault_history" = some (.ref f)) : HasK P w (TT.KW.mk K w) mg base "fault_history" 7 1 ["careful"] (spI (TT.KW.mk K w) 2 (bodyI 3 2 s_fault_history)) :=
  hasK_fn 1 ["careful"] a F hm (fun _ _ _ _ _ _ us ws hl hl2 => match us, hl, ws, hl2 with | [_], _, [_], _ => rfl)
theorem okD_fault_history {f : Addr} {fd : FuncData} (a : FnOk P w K mg base CX0 7 f fd ["rule", "careful"] (spI (TT.KW.mk K w) 2 (bodyI 3 2 s_fault_history))) (hm : mg "fault_history" = some (.ref f)) (F : FunD K "fault_history" "fault_history" (defArgs st_fault_history) (defBody st_fault_history) (defScope st_fault_history) [] [("careful", .bl false)] f fd) : HasD P w (TT.KW.mk K w) mg base "fault_history" 7 [(.bl false)] (spI (TT.KW.mk K w) 2 (bodyI 3 2 s_fault_history)) :=
  hasD_fn (st := st_fault_history) 1 a hm F (by decide) rfl (fun D doc pm an cdv ct us ks hl hl2 => match us, hl, ks, hl2 with | [_], _, [_], _ => ⟨_, _, _, _, _, _, rfl, rfl, rfl⟩) (fun g H => .cons (.bl _) (.nil))
theorem ok__law_right (B : Blt mg) (H__law_shortest : Has P w (TT.KW.mk K w) mg base "_law_shortest" 5 (spP (TT.KW.mk K w) 3 f_law_shortest)) (H__law_course : Has P w (TT.KW.mk K w) mg base "_law_course" 4 (spI (TT.KW.mk K w) 3 i_law_course)) (H_is_history : Has P w (TT.KW.mk K w) mg base "is_history" 2 (spP (TT.KW.mk K w) 1 f_is_history)) (H_fewest_faults : HasK P w (TT.KW.mk K w) mg base "fewest_faults" 7 1 ["careful"] (spP (TT.KW.mk K w) 2 f_fewest_faults)) (HP__law_course : Has P w (TT.KW.mk K w) mg base "_law_course" 4 (spP (TT.KW.mk K w) 3 f_law_course)) {f : Addr} {fd : FuncData} (F : Fun K "_law_right" "_law_right" st__law_right f fd) (hm : mg "_law_right" = some (.ref f)) : Has P w (TT.KW.mk K w) mg base "_law_right" 8 (spI (TT.KW.mk K w) 3 (bodyI 7 3 s_law_right)) :=
  has_def (K := (TT.KW.mk K w)) F hm S__law_right (by decide) (fun _ _ _ _ _ _ us hl => match us, hl with | [_, _, _], _ => rfl) fun cdv A outer s H E hr => (ss_cons (ss_set 3 S__law_right.nd (sh_callK 2 H_fewest_faults (hr.mono (by decide)) (sa_cons (se_var 0) sa_nil) (al_cons al_nil) (sk_cons (se_var 1) sk_nil) (al_kcons al_knil)))
  (ss_cons (ss_if (st_w (sw_or (st_isN (se_var 3)) (sw_or1 (st_isN (se_var 2))))) (ss_one (ss_ret (se_and (se_isN (se_var 3)) (se_and1 (se_isN (se_var 2)))))) ss_nil)
  (ss_cons (ss_if (st_not (st_tru (sh_callP H_is_history (hr.mono (by decide)) (sa_cons (se_var 2) sa_nil) (al_cons al_nil)))) (ss_one (ss_ret se_bl)) ss_nil)
  (ss_cons (ss_if (st_cmp (op_tNe hr.units) (se_lc 4 rfl S__law_right.nd (si_tup (se_var 2)) (blkOk_by (own := [("_law_event_here", 4)]) (N := n__law_right) (sc := defScope st__law_right) (by decide +kernel)) (fun _ _ _ _ _ => pg_name (i := 4) S__law_right.nd rfl (Or.inl rfl)) (fun _ _ _ _ _ => (sts_one (st_cmp (op_tNotIn hr.units) (se_var 4) (se_lst (sa_cons (se_str [97, 33]) (sa_cons (se_str [97, 45]) (sa_cons (se_str [97, 126]) (sa_cons (se_str [97, 43]) (sa_cons (se_str [46, 46]) sa_nil))))) (al_cons (al_cons (al_cons (al_cons (al_cons al_nil)))))) rfl))) (fun _ _ _ _ _ => (se_var 4))) (se_lst sa_nil al_nil) (nomark _)) (ss_one (ss_ret se_bl)) ss_nil)
  (ss_cons (ss_setLc 5 6 rfl S__law_right.nd (si_list (se_ix (sh_callP HP__law_course (hr.mono (by decide)) (sa_cons (se_var 0) (sa_cons (se_var 2) (sa_cons (se_var 1) sa_nil))) (al_cons (al_cons (al_cons al_nil)))) se_int)) (blkOk_by (own := [("_law_pair", 6)]) (N := n__law_right) (sc := defScope st__law_right) (by decide +kernel)) (fun _ _ _ _ _ => pg_name (i := 6) S__law_right.nd rfl (Or.inl rfl)) (fun _ _ _ _ _ => (sts_one (st_notN (se_var 6)))) (fun _ _ _ _ _ => (se_var 6)) (sw_true rfl rfl rfl (by decide +kernel)))
  (ss_cons (ss_if (st_cmp (op_tNe hr.units) (se_lc 6 rfl S__law_right.nd (si_list (se_var 5)) (blkOk_by (own := [("_law_pair", 6)]) (N := n__law_right) (sc := defScope st__law_right) (by decide +kernel)) (fun _ _ _ _ _ => pg_name (i := 6) S__law_right.nd rfl (Or.inl rfl)) (fun _ _ _ _ _ => sts_nil) (fun _ _ _ _ _ => (se_isN (se_ix (se_var 6) se_int)))) (se_bin op_tAdd (se_bin op_tMul (se_lst (sa_cons se_bl sa_nil) (al_cons al_nil)) (se_bin op_tSub (se_callB call_tLen (by rfl) B.b_len bb_len (sa_cons (se_var 5) sa_nil)) se_int)) (se_lst (sa_cons se_bl sa_nil) (al_cons al_nil))) (nomark _)) (ss_one (ss_ret se_bl)) ss_nil)
  (ss_cons (ss_if (st_cmp (op_tIn hr.units) (se_ix (se_var 2) (se_neg se_int)) (se_lst (sa_cons (se_str [46, 46]) (sa_cons (se_str [97, 43]) sa_nil)) (al_cons (al_cons al_nil))) rfl) (ss_one (ss_ret se_bl)) ss_nil)
  (ss_cons (ss_if (st_cmp (op_tNe hr.units) (se_callB call_tLen (by rfl) B.b_len bb_len (sa_cons (se_lc 4 rfl S__law_right.nd (si_tup (se_var 2)) (blkOk_by (own := [("_law_event_here", 4)]) (N := n__law_right) (sc := defScope st__law_right) (by decide +kernel)) (fun _ _ _ _ _ => pg_name (i := 4) S__law_right.nd rfl (Or.inl rfl)) (fun _ _ _ _ _ => (sts_one (st_cmp (op_tIn hr.units) (se_var 4) (se_lst (sa_cons (se_str [97, 45]) (sa_cons (se_str [97, 126]) sa_nil)) (al_cons (al_cons al_nil))) rfl))) (fun _ _ _ _ _ => (se_var 4))) sa_nil)) (se_var 3) (nomark _)) (ss_one (ss_ret se_bl)) ss_nil)
  (ss_one (ss_ret (se_cmp (op_tEq hr.units) (se_callB call_tLen (by rfl) B.b_len bb_len (sa_cons (se_var 2) sa_nil)) (sh_callP H__law_shortest (hr.mono (by decide)) (sa_cons (se_var 0) (sa_cons (se_var 3) (sa_cons (se_var 1) sa_nil))) (al_cons (al_cons (al_cons al_nil)))) (nomark _))))))))))))
theorem ok_law (B : Blt mg) (H_fault_history : HasK P w (TT.KW.mk K w) mg base "fault_history" 7 1 ["careful"] (spP (TT.KW.mk K w) 2 f_fault_history)) (HD_fault_history : HasD P w (TT.KW.mk K w) mg base "fault_history" 7 [(.bl false)] (spP (TT.KW.mk K w) 2 f_fault_history)) (H__law_right : Has P w (TT.KW.mk K w) mg base "_law_right" 8 (spP (TT.KW.mk K w) 3 f_law_right)) (H__law_easy : Has P w (TT.KW.mk K w) mg base "_law_easy" 4 (spI (TT.KW.mk K w) 1 i_law_easy)) (H__law_bag : Has P w (TT.KW.mk K w) mg base "_law_bag" 1 (spI (TT.KW.mk K w) 2 i_law_bag)) {f : Addr} {fd : FuncData} (F : Fun K "law" "law" st_law f fd) (hlaw : ∀ ns : List Int, ns.length ≤ 63 → ∃ m, bodyI 5 1 s_law [.fz (ns.map PV.int)] [] = .ok (.bl true, m)) : FnOk P w K mg base CX0 9 f fd ["_law_script"] (spLaw (TT.KW.mk K w)) :=
  law_fn (K := (TT.KW.mk K w)) F S_law (by decide) (fun cdv A outer s H E hr => (ss_cons (ss_for PassesOwn.never rfl (si_rng1 (by rfl) B.b_range (se_bin op_tAdd (se_callB (call_tMin rfl) (by rfl) B.b_min bb_min (sa_cons (se_callB call_tLen (by rfl) B.b_len bb_len (sa_cons (se_var 0) sa_nil)) (sa_cons se_int sa_nil))) se_int)) (sg_name 1 S_law.nd) (ss_cons (ss_set 2 S_law.nd (sh_callI H__law_bag (hr.mono (by decide)) (sa_cons (se_var 0) (sa_cons (se_var 1) sa_nil)) (al_cons (al_cons al_nil))))
  (ss_cons (ss_set 3 S_law.nd (sh_callI H__law_easy (hr.mono (by decide)) (sa_cons (se_var 2) sa_nil) (al_cons al_nil)))
  (ss_one (ss_for PassesOwn.never rfl (si_list (se_lst (sa_cons se_bl (sa_cons se_bl sa_nil)) (al_cons (al_cons al_nil)))) (sg_name 4 S_law.nd) (ss_one (ss_if (st_not (st_tru (sh_callP H__law_right (hr.mono (by decide)) (sa_cons (se_var 3) (sa_cons (se_var 4) (sa_cons (sh_callK 2 H_fault_history (hr.mono (by decide)) (sa_cons (se_var 3) sa_nil) (al_cons al_nil) (sk_cons (se_var 4) sk_nil) (al_kcons al_knil)) sa_nil))) (al_cons (al_cons (al_cons al_nil)))))) (ss_one (ss_ret se_bl)) ss_nil)))))))
  (ss_one (ss_ret (se_cmp (op_tEq hr.units) (se_callB call_tLen (by rfl) B.b_len bb_len (sa_cons (sh_callD 2 HD_fault_history (hr.mono (by decide)) (sa_cons (se_tup (sa_cons se_int (sa_cons (se_str [115, 97, 109, 101]) (sa_cons se_bl (sa_cons se_non (sa_cons se_non (sa_cons se_int (sa_cons (se_str [101, 110, 100]) sa_nil))))))) (al_cons (al_cons (al_cons (al_cons (al_cons (al_cons (al_cons al_nil)))))))) sa_nil) (al_cons al_nil)) sa_nil)) se_int (nomark _)))))) hlaw
end
end TT
end

section
set_option Elab.async false
set_option linter.all false
set_option autoImplicit false
set_option maxRecDepth 100000
set_option maxHeartbeats 4000000
namespace TT
open PySem PySem.Spec PyProof.Rows L2
theorem all_mk {l : PySem.W.OpenLaw} {w : World} {K : PySem.W.Frag} {h : Heap} {mg : Str → Option Value} {fa : Addr} (X : K.In h) (G : h.Ns mainGlobals mg) (hfa : mg "law" = some (.ref fa))
    {f1 : Addr} {od1 an1 : Option Addr} {sl1 : Array (Option Value)} {oc1 kV1 dc1 pm1 cd1 ct1 : Value} (a1 : PySem.W.nsIn K mainGlobals "is_choice" = some (some (.ref f1))) (l1 : K.lookup f1 = some ⟨oc1, od1, .func (PySem.W.fnOf "is_choice" "is_choice" (defArgs st_is_choice) (defBody st_is_choice) (defScope st_is_choice) .none kV1 dc1 pm1 an1 cd1 ct1), sl1⟩) (e1 : PySem.W.codeIn K cd1 "is_choice" = true) (k1 : PySem.W.keepIn K (.ref f1) = true)
    {f2 : Addr} {od2 an2 : Option Addr} {sl2 : Array (Option Value)} {oc2 kV2 dc2 pm2 cd2 ct2 : Value} (a2 : PySem.W.nsIn K mainGlobals "first_stand" = some (some (.ref f2))) (l2 : K.lookup f2 = some ⟨oc2, od2, .func (PySem.W.fnOf "first_stand" "first_stand" (defArgs st_first_stand) (defBody st_first_stand) (defScope st_first_stand) .none kV2 dc2 pm2 an2 cd2 ct2), sl2⟩) (e2 : PySem.W.codeIn K cd2 "first_stand" = true) (k2 : PySem.W.keepIn K (.ref f2) = true)
    {f3 : Addr} {od3 an3 : Option Addr} {sl3 : Array (Option Value)} {oc3 kV3 dc3 pm3 cd3 ct3 : Value} (a3 : PySem.W.nsIn K mainGlobals "is_good" = some (some (.ref f3))) (l3 : K.lookup f3 = some ⟨oc3, od3, .func (PySem.W.fnOf "is_good" "is_good" (defArgs st_is_good) (defBody st_is_good) (defScope st_is_good) .none kV3 dc3 pm3 an3 cd3 ct3), sl3⟩) (e3 : PySem.W.codeIn K cd3 "is_good" = true) (k3 : PySem.W.keepIn K (.ref f3) = true)
    {f4 : Addr} {od4 an4 : Option Addr} {sl4 : Array (Option Value)} {oc4 kV4 dc4 pm4 cd4 ct4 : Value} (a4 : PySem.W.nsIn K mainGlobals "with_token" = some (some (.ref f4))) (l4 : K.lookup f4 = some ⟨oc4, od4, .func (PySem.W.fnOf "with_token" "with_token" (defArgs st_with_token) (defBody st_with_token) (defScope st_with_token) .none kV4 dc4 pm4 an4 cd4 ct4), sl4⟩) (e4 : PySem.W.codeIn K cd4 "with_token" = true) (k4 : PySem.W.keepIn K (.ref f4) = true)
    {f5 : Addr} {od5 an5 : Option Addr} {sl5 : Array (Option Value)} {oc5 kV5 dc5 pm5 cd5 ct5 : Value} (a5 : PySem.W.nsIn K mainGlobals "ticked" = some (some (.ref f5))) (l5 : K.lookup f5 = some ⟨oc5, od5, .func (PySem.W.fnOf "ticked" "ticked" (defArgs st_ticked) (defBody st_ticked) (defScope st_ticked) .none kV5 dc5 pm5 an5 cd5 ct5), sl5⟩) (e5 : PySem.W.codeIn K cd5 "ticked" = true) (k5 : PySem.W.keepIn K (.ref f5) = true)
    {f6 : Addr} {od6 an6 : Option Addr} {sl6 : Array (Option Value)} {oc6 kV6 dc6 pm6 cd6 ct6 : Value} (a6 : PySem.W.nsIn K mainGlobals "older" = some (some (.ref f6))) (l6 : K.lookup f6 = some ⟨oc6, od6, .func (PySem.W.fnOf "older" "older" (defArgs st_older) (defBody st_older) (defScope st_older) .none kV6 dc6 pm6 an6 cd6 ct6), sl6⟩) (e6 : PySem.W.codeIn K cd6 "older" = true) (k6 : PySem.W.keepIn K (.ref f6) = true)
    {f7 : Addr} {od7 an7 : Option Addr} {sl7 : Array (Option Value)} {oc7 kV7 dc7 pm7 cd7 ct7 : Value} (a7 : PySem.W.nsIn K mainGlobals "is_event" = some (some (.ref f7))) (l7 : K.lookup f7 = some ⟨oc7, od7, .func (PySem.W.fnOf "is_event" "is_event" (defArgs st_is_event) (defBody st_is_event) (defScope st_is_event) .none kV7 dc7 pm7 an7 cd7 ct7), sl7⟩) (e7 : PySem.W.codeIn K cd7 "is_event" = true) (k7 : PySem.W.keepIn K (.ref f7) = true)
    {f8 : Addr} {od8 an8 : Option Addr} {sl8 : Array (Option Value)} {oc8 kV8 dc8 pm8 cd8 ct8 : Value} (a8 : PySem.W.nsIn K mainGlobals "_law_bag" = some (some (.ref f8))) (l8 : K.lookup f8 = some ⟨oc8, od8, .func (PySem.W.fnOf "_law_bag" "_law_bag" (defArgs st__law_bag) (defBody st__law_bag) (defScope st__law_bag) .none kV8 dc8 pm8 an8 cd8 ct8), sl8⟩) (e8 : PySem.W.codeIn K cd8 "_law_bag" = true) (k8 : PySem.W.keepIn K (.ref f8) = true)
    {f9 : Addr} {od9 an9 : Option Addr} {sl9 : Array (Option Value)} {oc9 kV9 dc9 pm9 cd9 ct9 : Value} (a9 : PySem.W.nsIn K mainGlobals "_law_take" = some (some (.ref f9))) (l9 : K.lookup f9 = some ⟨oc9, od9, .func (PySem.W.fnOf "_law_take" "_law_take" (defArgs st__law_take) (defBody st__law_take) (defScope st__law_take) .none kV9 dc9 pm9 an9 cd9 ct9), sl9⟩) (e9 : PySem.W.codeIn K cd9 "_law_take" = true) (k9 : PySem.W.keepIn K (.ref f9) = true)
    {f10 : Addr} {od10 an10 : Option Addr} {sl10 : Array (Option Value)} {oc10 kV10 dc10 pm10 cd10 ct10 : Value} (a10 : PySem.W.nsIn K mainGlobals "_law_server" = some (some (.ref f10))) (l10 : K.lookup f10 = some ⟨oc10, od10, .func (PySem.W.fnOf "_law_server" "_law_server" (defArgs st__law_server) (defBody st__law_server) (defScope st__law_server) .none kV10 dc10 pm10 an10 cd10 ct10), sl10⟩) (e10 : PySem.W.codeIn K cd10 "_law_server" = true) (k10 : PySem.W.keepIn K (.ref f10) = true)
    {f11 : Addr} {od11 an11 : Option Addr} {sl11 : Array (Option Value)} {oc11 kV11 dc11 pm11 cd11 ct11 : Value} (a11 : PySem.W.nsIn K mainGlobals "_law_accepts" = some (some (.ref f11))) (l11 : K.lookup f11 = some ⟨oc11, od11, .func (PySem.W.fnOf "_law_accepts" "_law_accepts" (defArgs st__law_accepts) (defBody st__law_accepts) (defScope st__law_accepts) .none kV11 dc11 pm11 an11 cd11 ct11), sl11⟩) (e11 : PySem.W.codeIn K cd11 "_law_accepts" = true) (k11 : PySem.W.keepIn K (.ref f11) = true)
    {f12 : Addr} {od12 an12 : Option Addr} {sl12 : Array (Option Value)} {oc12 kV12 dc12 pm12 cd12 ct12 : Value} (a12 : PySem.W.nsIn K mainGlobals "_law_key" = some (some (.ref f12))) (l12 : K.lookup f12 = some ⟨oc12, od12, .func (PySem.W.fnOf "_law_key" "_law_key" (defArgs st__law_key) (defBody st__law_key) (defScope st__law_key) .none kV12 dc12 pm12 an12 cd12 ct12), sl12⟩) (e12 : PySem.W.codeIn K cd12 "_law_key" = true) (k12 : PySem.W.keepIn K (.ref f12) = true)
    {f13 : Addr} {od13 an13 : Option Addr} {sl13 : Array (Option Value)} {oc13 kV13 dc13 pm13 cd13 ct13 : Value} (a13 : PySem.W.nsIn K mainGlobals "_law_old" = some (some (.ref f13))) (l13 : K.lookup f13 = some ⟨oc13, od13, .func (PySem.W.fnOf "_law_old" "_law_old" (defArgs st__law_old) (defBody st__law_old) (defScope st__law_old) .none kV13 dc13 pm13 an13 cd13 ct13), sl13⟩) (e13 : PySem.W.codeIn K cd13 "_law_old" = true) (k13 : PySem.W.keepIn K (.ref f13) = true)
    {f14 : Addr} {od14 an14 : Option Addr} {sl14 : Array (Option Value)} {oc14 kV14 dc14 pm14 cd14 ct14 : Value} (a14 : PySem.W.nsIn K mainGlobals "_law_copied" = some (some (.ref f14))) (l14 : K.lookup f14 = some ⟨oc14, od14, .func (PySem.W.fnOf "_law_copied" "_law_copied" (defArgs st__law_copied) (defBody st__law_copied) (defScope st__law_copied) .none kV14 dc14 pm14 an14 cd14 ct14), sl14⟩) (e14 : PySem.W.codeIn K cd14 "_law_copied" = true) (k14 : PySem.W.keepIn K (.ref f14) = true)
    {f15 : Addr} {od15 an15 : Option Addr} {sl15 : Array (Option Value)} {oc15 kV15 dc15 pm15 cd15 ct15 : Value} (a15 : PySem.W.nsIn K mainGlobals "is_rule" = some (some (.ref f15))) (l15 : K.lookup f15 = some ⟨oc15, od15, .func (PySem.W.fnOf "is_rule" "is_rule" (defArgs st_is_rule) (defBody st_is_rule) (defScope st_is_rule) .none kV15 dc15 pm15 an15 cd15 ct15), sl15⟩) (e15 : PySem.W.codeIn K cd15 "is_rule" = true) (k15 : PySem.W.keepIn K (.ref f15) = true)
    {f16 : Addr} {od16 an16 : Option Addr} {sl16 : Array (Option Value)} {oc16 kV16 dc16 pm16 cd16 ct16 : Value} (a16 : PySem.W.nsIn K mainGlobals "requested" = some (some (.ref f16))) (l16 : K.lookup f16 = some ⟨oc16, od16, .func (PySem.W.fnOf "requested" "requested" (defArgs st_requested) (defBody st_requested) (defScope st_requested) .none kV16 dc16 pm16 an16 cd16 ct16), sl16⟩) (e16 : PySem.W.codeIn K cd16 "requested" = true) (k16 : PySem.W.keepIn K (.ref f16) = true)
    {f17 : Addr} {od17 an17 : Option Addr} {sl17 : Array (Option Value)} {oc17 kV17 dc17 pm17 cd17 ct17 : Value} (a17 : PySem.W.nsIn K mainGlobals "first_node" = some (some (.ref f17))) (l17 : K.lookup f17 = some ⟨oc17, od17, .func (PySem.W.fnOf "first_node" "first_node" (defArgs st_first_node) (defBody st_first_node) (defScope st_first_node) .none kV17 dc17 pm17 an17 cd17 ct17), sl17⟩) (e17 : PySem.W.codeIn K cd17 "first_node" = true) (k17 : PySem.W.keepIn K (.ref f17) = true)
    {f18 : Addr} {od18 an18 : Option Addr} {sl18 : Array (Option Value)} {oc18 kV18 dc18 pm18 cd18 ct18 : Value} (a18 : PySem.W.nsIn K mainGlobals "is_history" = some (some (.ref f18))) (l18 : K.lookup f18 = some ⟨oc18, od18, .func (PySem.W.fnOf "is_history" "is_history" (defArgs st_is_history) (defBody st_is_history) (defScope st_is_history) .none kV18 dc18 pm18 an18 cd18 ct18), sl18⟩) (e18 : PySem.W.codeIn K cd18 "is_history" = true) (k18 : PySem.W.keepIn K (.ref f18) = true)
    {f19 : Addr} {od19 an19 : Option Addr} {sl19 : Array (Option Value)} {oc19 kV19 dc19 pm19 cd19 ct19 : Value} (a19 : PySem.W.nsIn K mainGlobals "_law_of" = some (some (.ref f19))) (l19 : K.lookup f19 = some ⟨oc19, od19, .func (PySem.W.fnOf "_law_of" "_law_of" (defArgs st__law_of) (defBody st__law_of) (defScope st__law_of) .none kV19 dc19 pm19 an19 cd19 ct19), sl19⟩) (e19 : PySem.W.codeIn K cd19 "_law_of" = true) (k19 : PySem.W.keepIn K (.ref f19) = true)
    {f20 : Addr} {od20 an20 : Option Addr} {sl20 : Array (Option Value)} {oc20 kV20 dc20 pm20 cd20 ct20 : Value} (a20 : PySem.W.nsIn K mainGlobals "_law_asked" = some (some (.ref f20))) (l20 : K.lookup f20 = some ⟨oc20, od20, .func (PySem.W.fnOf "_law_asked" "_law_asked" (defArgs st__law_asked) (defBody st__law_asked) (defScope st__law_asked) .none kV20 dc20 pm20 an20 cd20 ct20), sl20⟩) (e20 : PySem.W.codeIn K cd20 "_law_asked" = true) (k20 : PySem.W.keepIn K (.ref f20) = true)
    {f21 : Addr} {od21 an21 : Option Addr} {sl21 : Array (Option Value)} {oc21 kV21 dc21 pm21 cd21 ct21 : Value} (a21 : PySem.W.nsIn K mainGlobals "_law_world" = some (some (.ref f21))) (l21 : K.lookup f21 = some ⟨oc21, od21, .func (PySem.W.fnOf "_law_world" "_law_world" (defArgs st__law_world) (defBody st__law_world) (defScope st__law_world) .none kV21 dc21 pm21 an21 cd21 ct21), sl21⟩) (e21 : PySem.W.codeIn K cd21 "_law_world" = true) (k21 : PySem.W.keepIn K (.ref f21) = true)
    {f22 : Addr} {od22 an22 : Option Addr} {sl22 : Array (Option Value)} {oc22 kV22 dc22 pm22 cd22 ct22 : Value} (a22 : PySem.W.nsIn K mainGlobals "_law_node" = some (some (.ref f22))) (l22 : K.lookup f22 = some ⟨oc22, od22, .func (PySem.W.fnOf "_law_node" "_law_node" (defArgs st__law_node) (defBody st__law_node) (defScope st__law_node) .none kV22 dc22 pm22 an22 cd22 ct22), sl22⟩) (e22 : PySem.W.codeIn K cd22 "_law_node" = true) (k22 : PySem.W.keepIn K (.ref f22) = true)
    {f23 : Addr} {od23 an23 : Option Addr} {sl23 : Array (Option Value)} {oc23 kV23 dc23 pm23 cd23 ct23 : Value} (a23 : PySem.W.nsIn K mainGlobals "need_rule" = some (some (.ref f23))) (l23 : K.lookup f23 = some ⟨oc23, od23, .func (PySem.W.fnOf "need_rule" "need_rule" (defArgs st_need_rule) (defBody st_need_rule) (defScope st_need_rule) .none kV23 dc23 pm23 an23 cd23 ct23), sl23⟩) (e23 : PySem.W.codeIn K cd23 "need_rule" = true) (k23 : PySem.W.keepIn K (.ref f23) = true)
    {f24 : Addr} {od24 an24 : Option Addr} {sl24 : Array (Option Value)} {oc24 kV24 dc24 pm24 cd24 ct24 : Value} (a24 : PySem.W.nsIn K mainGlobals "alone" = some (some (.ref f24))) (l24 : K.lookup f24 = some ⟨oc24, od24, .func (PySem.W.fnOf "alone" "alone" (defArgs st_alone) (defBody st_alone) (defScope st_alone) .none kV24 dc24 pm24 an24 cd24 ct24), sl24⟩) (e24 : PySem.W.codeIn K cd24 "alone" = true) (k24 : PySem.W.keepIn K (.ref f24) = true)
    {f25 : Addr} {od25 an25 : Option Addr} {sl25 : Array (Option Value)} {oc25 kV25 dc25 pm25 cd25 ct25 : Value} (a25 : PySem.W.nsIn K mainGlobals "_law_rule" = some (some (.ref f25))) (l25 : K.lookup f25 = some ⟨oc25, od25, .func (PySem.W.fnOf "_law_rule" "_law_rule" (defArgs st__law_rule) (defBody st__law_rule) (defScope st__law_rule) .none kV25 dc25 pm25 an25 cd25 ct25), sl25⟩) (e25 : PySem.W.codeIn K cd25 "_law_rule" = true) (k25 : PySem.W.keepIn K (.ref f25) = true)
    {f26 : Addr} {od26 an26 : Option Addr} {sl26 : Array (Option Value)} {oc26 kV26 dc26 pm26 cd26 ct26 : Value} (a26 : PySem.W.nsIn K mainGlobals "_law_event" = some (some (.ref f26))) (l26 : K.lookup f26 = some ⟨oc26, od26, .func (PySem.W.fnOf "_law_event" "_law_event" (defArgs st__law_event) (defBody st__law_event) (defScope st__law_event) .none kV26 dc26 pm26 an26 cd26 ct26), sl26⟩) (e26 : PySem.W.codeIn K cd26 "_law_event" = true) (k26 : PySem.W.keepIn K (.ref f26) = true)
    {f27 : Addr} {od27 an27 : Option Addr} {sl27 : Array (Option Value)} {oc27 kV27 dc27 pm27 cd27 ct27 : Value} (a27 : PySem.W.nsIn K mainGlobals "moved" = some (some (.ref f27))) (l27 : K.lookup f27 = some ⟨oc27, od27, .func (PySem.W.fnOf "moved" "moved" (defArgs st_moved) (defBody st_moved) (defScope st_moved) .none kV27 dc27 pm27 an27 cd27 ct27), sl27⟩) (e27 : PySem.W.codeIn K cd27 "moved" = true) (k27 : PySem.W.keepIn K (.ref f27) = true)
    {f28 : Addr} {od28 an28 : Option Addr} {sl28 : Array (Option Value)} {oc28 kV28 dc28 pm28 cd28 ct28 : Value} (a28 : PySem.W.nsIn K mainGlobals "_law_easy" = some (some (.ref f28))) (l28 : K.lookup f28 = some ⟨oc28, od28, .func (PySem.W.fnOf "_law_easy" "_law_easy" (defArgs st__law_easy) (defBody st__law_easy) (defScope st__law_easy) .none kV28 dc28 pm28 an28 cd28 ct28), sl28⟩) (e28 : PySem.W.codeIn K cd28 "_law_easy" = true) (k28 : PySem.W.keepIn K (.ref f28) = true)
    {f29 : Addr} {od29 an29 : Option Addr} {sl29 : Array (Option Value)} {oc29 kV29 dc29 pm29 cd29 ct29 : Value} (a29 : PySem.W.nsIn K mainGlobals "_law_course" = some (some (.ref f29))) (l29 : K.lookup f29 = some ⟨oc29, od29, .func (PySem.W.fnOf "_law_course" "_law_course" (defArgs st__law_course) (defBody st__law_course) (defScope st__law_course) .none kV29 dc29 pm29 an29 cd29 ct29), sl29⟩) (e29 : PySem.W.codeIn K cd29 "_law_course" = true) (k29 : PySem.W.keepIn K (.ref f29) = true)
    {f30 : Addr} {od30 an30 : Option Addr} {sl30 : Array (Option Value)} {oc30 kV30 dc30 pm30 cd30 ct30 : Value} (a30 : PySem.W.nsIn K mainGlobals "_law_try" = some (some (.ref f30))) (l30 : K.lookup f30 = some ⟨oc30, od30, .func (PySem.W.fnOf "_law_try" "_law_try" (defArgs st__law_try) (defBody st__law_try) (defScope st__law_try) .none kV30 dc30 pm30 an30 cd30 ct30), sl30⟩) (e30 : PySem.W.codeIn K cd30 "_law_try" = true) (k30 : PySem.W.keepIn K (.ref f30) = true)
    {f31 : Addr} {od31 an31 : Option Addr} {sl31 : Array (Option Value)} {oc31 kV31 dc31 pm31 cd31 ct31 : Value} (a31 : PySem.W.nsIn K mainGlobals "spread" = some (some (.ref f31))) (l31 : K.lookup f31 = some ⟨oc31, od31, .func (PySem.W.fnOf "spread" "spread" (defArgs st_spread) (defBody st_spread) (defScope st_spread) .none kV31 dc31 pm31 an31 cd31 ct31), sl31⟩) (e31 : PySem.W.codeIn K cd31 "spread" = true) (k31 : PySem.W.keepIn K (.ref f31) = true)
    {f32 : Addr} {od32 an32 : Option Addr} {sl32 : Array (Option Value)} {oc32 kV32 dc32 pm32 cd32 ct32 : Value} (a32 : PySem.W.nsIn K mainGlobals "shortest" = some (some (.ref f32))) (l32 : K.lookup f32 = some ⟨oc32, od32, .func (PySem.W.fnOf "shortest" "shortest" (defArgs st_shortest) (defBody st_shortest) (defScope st_shortest) .none kV32 dc32 pm32 an32 cd32 ct32), sl32⟩) (e32 : PySem.W.codeIn K cd32 "shortest" = true) (k32 : PySem.W.keepIn K (.ref f32) = true)
    {f33 : Addr} {od33 an33 : Option Addr} {sl33 : Array (Option Value)} {oc33 kV33 dc33 pm33 cd33 ct33 : Value} (a33 : PySem.W.nsIn K mainGlobals "_law_shortest" = some (some (.ref f33))) (l33 : K.lookup f33 = some ⟨oc33, od33, .func (PySem.W.fnOf "_law_shortest" "_law_shortest" (defArgs st__law_shortest) (defBody st__law_shortest) (defScope st__law_shortest) .none kV33 dc33 pm33 an33 cd33 ct33), sl33⟩) (e33 : PySem.W.codeIn K cd33 "_law_shortest" = true) (k33 : PySem.W.keepIn K (.ref f33) = true)
    {f34 : Addr} {od34 an34 : Option Addr} {sl34 : Array (Option Value)} {oc34 kV34 dc34 pm34 cd34 ct34 : Value} (a34 : PySem.W.nsIn K mainGlobals "fewest" = some (some (.ref f34))) (l34 : K.lookup f34 = some ⟨oc34, od34, .func (PySem.W.fnOf "fewest" "fewest" (defArgs st_fewest) (defBody st_fewest) (defScope st_fewest) .none kV34 dc34 pm34 an34 cd34 ct34), sl34⟩) (e34 : PySem.W.codeIn K cd34 "fewest" = true) (k34 : PySem.W.keepIn K (.ref f34) = true)
    {f35 D35 : Addr} {od35 an35 : Option Addr} {sl35 : Array (Option Value)} {oc35 dc35 pm35 cd35 ct35 : Value} (a35 : PySem.W.nsIn K mainGlobals "fewest_faults" = some (some (.ref f35))) (l35 : K.lookup f35 = some ⟨oc35, od35, .func (PySem.W.fnOf "fewest_faults" "fewest_faults" (defArgs st_fewest_faults) (defBody st_fewest_faults) (defScope st_fewest_faults) .none (.ref D35) dc35 pm35 an35 cd35 ct35), sl35⟩) (e35 : PySem.W.codeIn K cd35 "fewest_faults" = true) (k35 : PySem.W.keepIn K (.ref f35) = true)
    (d35_careful : PySem.W.nsIn K D35 "careful" = some (some (.bool false)))
    {f36 D36 : Addr} {od36 an36 : Option Addr} {sl36 : Array (Option Value)} {oc36 dc36 pm36 cd36 ct36 : Value} (a36 : PySem.W.nsIn K mainGlobals "fault_history" = some (some (.ref f36))) (l36 : K.lookup f36 = some ⟨oc36, od36, .func (PySem.W.fnOf "fault_history" "fault_history" (defArgs st_fault_history) (defBody st_fault_history) (defScope st_fault_history) .none (.ref D36) dc36 pm36 an36 cd36 ct36), sl36⟩) (e36 : PySem.W.codeIn K cd36 "fault_history" = true) (k36 : PySem.W.keepIn K (.ref f36) = true)
    (d36_careful : PySem.W.nsIn K D36 "careful" = some (some (.bool false)))
    {f37 : Addr} {od37 an37 : Option Addr} {sl37 : Array (Option Value)} {oc37 kV37 dc37 pm37 cd37 ct37 : Value} (a37 : PySem.W.nsIn K mainGlobals "_law_right" = some (some (.ref f37))) (l37 : K.lookup f37 = some ⟨oc37, od37, .func (PySem.W.fnOf "_law_right" "_law_right" (defArgs st__law_right) (defBody st__law_right) (defScope st__law_right) .none kV37 dc37 pm37 an37 cd37 ct37), sl37⟩) (e37 : PySem.W.codeIn K cd37 "_law_right" = true) (k37 : PySem.W.keepIn K (.ref f37) = true)
    {f38 : Addr} {od38 an38 : Option Addr} {sl38 : Array (Option Value)} {oc38 kV38 dc38 pm38 cd38 ct38 : Value} (a38 : PySem.W.nsIn K mainGlobals "law" = some (some (.ref f38))) (l38 : K.lookup f38 = some ⟨oc38, od38, .func (PySem.W.fnOf "law" "law" (defArgs st_law) (defBody st_law) (defScope st_law) .none kV38 dc38 pm38 an38 cd38 ct38), sl38⟩) (e38 : PySem.W.codeIn K cd38 "law" = true) (k38 : PySem.W.keepIn K (.ref f38) = true)
    (z_all : PySem.W.nsIn K mainGlobals "all" = some none)
    (z_bool : PySem.W.nsIn K mainGlobals "bool" = some none)
    (z_int : PySem.W.nsIn K mainGlobals "int" = some none)
    (z_isinstance : PySem.W.nsIn K mainGlobals "isinstance" = some none)
    (z_len : PySem.W.nsIn K mainGlobals "len" = some none)
    (z_list : PySem.W.nsIn K mainGlobals "list" = some none)
    (z_max : PySem.W.nsIn K mainGlobals "max" = some none)
    (z_min : PySem.W.nsIn K mainGlobals "min" = some none)
    (z_range : PySem.W.nsIn K mainGlobals "range" = some none)
    (z_str : PySem.W.nsIn K mainGlobals "str" = some none)
    (z_tuple : PySem.W.nsIn K mainGlobals "tuple" = some none)
    (z_zip : PySem.W.nsIn K mainGlobals "zip" = some none)
    {a_CHOICES : Addr} {a_CHOICES0 : Addr} {tk_CHOICES0_0 : Tok} {tk_CHOICES0_1 : Tok} {tk_CHOICES0_2 : Tok} {a_CHOICES1 : Addr} {tk_CHOICES1_0 : Tok} {tk_CHOICES1_1 : Tok} {a_CHOICES2 : Addr} {a_CHOICES3 : Addr} {tk_CHOICES3_1 : Tok} {tk_CHOICES3_2 : Tok} {tk_CHOICES3_3 : Tok} {a_CHOICES4 : Addr} {tk_CHOICES4_1 : Tok} {tk_CHOICES4_2 : Tok} {tk_CHOICES4_3 : Tok} {a_CHOICES5 : Addr} {tk_CHOICES5_0 : Tok} {tk_CHOICES5_1 : Tok} {tk_CHOICES5_2 : Tok} {a_CHOICES6 : Addr} {tk_CHOICES6_0 : Tok} {tk_CHOICES6_1 : Tok} (g_CHOICES : PySem.W.nsIn K mainGlobals "CHOICES" = some (some (.ref a_CHOICES))) {od_CHOICES : Option Addr} {n_CHOICES : Nat} {sl_CHOICES : Array (Option Value)} (l_CHOICES : K.lookup a_CHOICES = some ⟨.type "tuple", od_CHOICES, .seq #[.ref a_CHOICES0, .ref a_CHOICES1, .ref a_CHOICES2, .ref a_CHOICES3, .ref a_CHOICES4, .ref a_CHOICES5, .ref a_CHOICES6] n_CHOICES, sl_CHOICES⟩) {od_CHOICES0 : Option Addr} {n_CHOICES0 : Nat} {sl_CHOICES0 : Array (Option Value)} (l_CHOICES0 : K.lookup a_CHOICES0 = some ⟨.type "tuple", od_CHOICES0, .seq #[.int 0 tk_CHOICES0_0, .int 1 tk_CHOICES0_1, .int 2 tk_CHOICES0_2] n_CHOICES0, sl_CHOICES0⟩) {od_CHOICES1 : Option Addr} {n_CHOICES1 : Nat} {sl_CHOICES1 : Array (Option Value)} (l_CHOICES1 : K.lookup a_CHOICES1 = some ⟨.type "tuple", od_CHOICES1, .seq #[.str ⟨#[110, 101, 119]⟩ tk_CHOICES1_0, .str ⟨#[115, 97, 109, 101]⟩ tk_CHOICES1_1] n_CHOICES1, sl_CHOICES1⟩) {od_CHOICES2 : Option Addr} {n_CHOICES2 : Nat} {sl_CHOICES2 : Array (Option Value)} (l_CHOICES2 : K.lookup a_CHOICES2 = some ⟨.type "tuple", od_CHOICES2, .seq #[.bool false, .bool true] n_CHOICES2, sl_CHOICES2⟩) {od_CHOICES3 : Option Addr} {n_CHOICES3 : Nat} {sl_CHOICES3 : Array (Option Value)} (l_CHOICES3 : K.lookup a_CHOICES3 = some ⟨.type "tuple", od_CHOICES3, .seq #[.none, .int 0 tk_CHOICES3_1, .int 1 tk_CHOICES3_2, .int 2 tk_CHOICES3_3] n_CHOICES3, sl_CHOICES3⟩) {od_CHOICES4 : Option Addr} {n_CHOICES4 : Nat} {sl_CHOICES4 : Array (Option Value)} (l_CHOICES4 : K.lookup a_CHOICES4 = some ⟨.type "tuple", od_CHOICES4, .seq #[.none, .int 0 tk_CHOICES4_1, .int 1 tk_CHOICES4_2, .int 2 tk_CHOICES4_3] n_CHOICES4, sl_CHOICES4⟩) {od_CHOICES5 : Option Addr} {n_CHOICES5 : Nat} {sl_CHOICES5 : Array (Option Value)} (l_CHOICES5 : K.lookup a_CHOICES5 = some ⟨.type "tuple", od_CHOICES5, .seq #[.int 1 tk_CHOICES5_0, .int 2 tk_CHOICES5_1, .int 3 tk_CHOICES5_2] n_CHOICES5, sl_CHOICES5⟩) {od_CHOICES6 : Option Addr} {n_CHOICES6 : Nat} {sl_CHOICES6 : Array (Option Value)} (l_CHOICES6 : K.lookup a_CHOICES6 = some ⟨.type "tuple", od_CHOICES6, .seq #[.str ⟨#[101, 110, 100]⟩ tk_CHOICES6_0, .str ⟨#[114, 101, 102, 117, 115, 101]⟩ tk_CHOICES6_1] n_CHOICES6, sl_CHOICES6⟩)
    {a_FAULTS : Addr} {tk_FAULTS_0 : Tok} {tk_FAULTS_1 : Tok} (g_FAULTS : PySem.W.nsIn K mainGlobals "FAULTS" = some (some (.ref a_FAULTS))) {od_FAULTS : Option Addr} {n_FAULTS : Nat} {sl_FAULTS : Array (Option Value)} (l_FAULTS : K.lookup a_FAULTS = some ⟨.type "tuple", od_FAULTS, .seq #[.str ⟨#[45]⟩ tk_FAULTS_0, .str ⟨#[126]⟩ tk_FAULTS_1] n_FAULTS, sl_FAULTS⟩)
    {t_HOLDERS : Tok} (g_HOLDERS : PySem.W.nsIn K mainGlobals "HOLDERS" = some (some (.str "ab" t_HOLDERS)))
    {t_MOST_EVENTS : Tok} (g_MOST_EVENTS : PySem.W.nsIn K mainGlobals "MOST_EVENTS" = some (some (.int 40 t_MOST_EVENTS)))
    {a_PARTS : Addr} {tk_PARTS_0 : Tok} {tk_PARTS_1 : Tok} {tk_PARTS_2 : Tok} {tk_PARTS_3 : Tok} {tk_PARTS_4 : Tok} {tk_PARTS_5 : Tok} {tk_PARTS_6 : Tok} (g_PARTS : PySem.W.nsIn K mainGlobals "PARTS" = some (some (.ref a_PARTS))) {od_PARTS : Option Addr} {n_PARTS : Nat} {sl_PARTS : Array (Option Value)} (l_PARTS : K.lookup a_PARTS = some ⟨.type "tuple", od_PARTS, .seq #[.str ⟨#[107, 101, 101, 112]⟩ tk_PARTS_0, .str ⟨#[114, 101, 112, 108, 121]⟩ tk_PARTS_1, .str ⟨#[115, 116, 114, 105, 99, 116]⟩ tk_PARTS_2, .str ⟨#[108, 101, 101, 119, 97, 121]⟩ tk_PARTS_3, .str ⟨#[115, 112, 97, 114, 101]⟩ tk_PARTS_4, .str ⟨#[101, 118, 101, 114, 121]⟩ tk_PARTS_5, .str ⟨#[111, 108, 100]⟩ tk_PARTS_6] n_PARTS, sl_PARTS⟩)
    {a_SAFE : Addr} {tk_SAFE_0 : Tok} {tk_SAFE_1 : Tok} {tk_SAFE_2 : Tok} (g_SAFE : PySem.W.nsIn K mainGlobals "SAFE" = some (some (.ref a_SAFE))) {od_SAFE : Option Addr} {n_SAFE : Nat} {sl_SAFE : Array (Option Value)} (l_SAFE : K.lookup a_SAFE = some ⟨.type "tuple", od_SAFE, .seq #[.str ⟨#[33]⟩ tk_SAFE_0, .str ⟨#[43]⟩ tk_SAFE_1, .str ⟨#[46, 46]⟩ tk_SAFE_2] n_SAFE, sl_SAFE⟩)
    {t_TICK : Tok} (g_TICK : PySem.W.nsIn K mainGlobals "TICK" = some (some (.str ".." t_TICK))) :
    ∃ fd : FuncData, (∀ (s : Shared) (v : Value), BindsTo s fd ⟨[v], []⟩ [("_law_script", v)]) ∧ ∀ base : Heap, K.In base → base.Ns mainGlobals mg → FnOk l.prog w K mg base CX0 9 fa fd ["_law_script"] (spLaw (TT.KW.mk K w)) := by
  have e := hfa.symm.trans (PySem.W.mg_of X G a38)
  cases e
  have B : Blt mg := ⟨PySem.W.mg_none_of X G z_all, PySem.W.mg_none_of X G z_bool, PySem.W.mg_none_of X G z_int, PySem.W.mg_none_of X G z_isinstance, PySem.W.mg_none_of X G z_len, PySem.W.mg_none_of X G z_list, PySem.W.mg_none_of X G z_max, PySem.W.mg_none_of X G z_min, PySem.W.mg_none_of X G z_range, PySem.W.mg_none_of X G z_str, PySem.W.mg_none_of X G z_tuple, PySem.W.mg_none_of X G z_zip⟩
  have C_CHOICES : HasC (TT.KW.mk K w) mg "CHOICES" c_CHOICES := HasC.tup2 (PySem.W.mg_of X G g_CHOICES) ⟨_, _, [.ref a_CHOICES0, .ref a_CHOICES1, .ref a_CHOICES2, .ref a_CHOICES3, .ref a_CHOICES4, .ref a_CHOICES5, .ref a_CHOICES6], _, _, rfl, l_CHOICES, Nat.le_of_ble_eq_true rfl, .cons (.inr ⟨_, a_CHOICES0, rfl, rfl, ⟨_, _, [.int 0 tk_CHOICES0_0, .int 1 tk_CHOICES0_1, .int 2 tk_CHOICES0_2], _, _, rfl, l_CHOICES0, Nat.le_of_ble_eq_true rfl, .cons (.int _ _) (.cons (.int _ _) (.cons (.int _ _) (.nil)))⟩⟩) (.cons (.inr ⟨_, a_CHOICES1, rfl, rfl, ⟨_, _, [.str ⟨#[110, 101, 119]⟩ tk_CHOICES1_0, .str ⟨#[115, 97, 109, 101]⟩ tk_CHOICES1_1], _, _, rfl, l_CHOICES1, Nat.le_of_ble_eq_true rfl, .cons (.str [110, 101, 119] _) (.cons (.str [115, 97, 109, 101] _) (.nil))⟩⟩) (.cons (.inr ⟨_, a_CHOICES2, rfl, rfl, ⟨_, _, [.bool false, .bool true], _, _, rfl, l_CHOICES2, Nat.le_of_ble_eq_true rfl, .cons (.bl _) (.cons (.bl _) (.nil))⟩⟩) (.cons (.inr ⟨_, a_CHOICES3, rfl, rfl, ⟨_, _, [.none, .int 0 tk_CHOICES3_1, .int 1 tk_CHOICES3_2, .int 2 tk_CHOICES3_3], _, _, rfl, l_CHOICES3, Nat.le_of_ble_eq_true rfl, .cons .non (.cons (.int _ _) (.cons (.int _ _) (.cons (.int _ _) (.nil))))⟩⟩) (.cons (.inr ⟨_, a_CHOICES4, rfl, rfl, ⟨_, _, [.none, .int 0 tk_CHOICES4_1, .int 1 tk_CHOICES4_2, .int 2 tk_CHOICES4_3], _, _, rfl, l_CHOICES4, Nat.le_of_ble_eq_true rfl, .cons .non (.cons (.int _ _) (.cons (.int _ _) (.cons (.int _ _) (.nil))))⟩⟩) (.cons (.inr ⟨_, a_CHOICES5, rfl, rfl, ⟨_, _, [.int 1 tk_CHOICES5_0, .int 2 tk_CHOICES5_1, .int 3 tk_CHOICES5_2], _, _, rfl, l_CHOICES5, Nat.le_of_ble_eq_true rfl, .cons (.int _ _) (.cons (.int _ _) (.cons (.int _ _) (.nil)))⟩⟩) (.cons (.inr ⟨_, a_CHOICES6, rfl, rfl, ⟨_, _, [.str ⟨#[101, 110, 100]⟩ tk_CHOICES6_0, .str ⟨#[114, 101, 102, 117, 115, 101]⟩ tk_CHOICES6_1], _, _, rfl, l_CHOICES6, Nat.le_of_ble_eq_true rfl, .cons (.str [101, 110, 100] _) (.cons (.str [114, 101, 102, 117, 115, 101] _) (.nil))⟩⟩) (.nil)))))))⟩
  have C_FAULTS : HasC (TT.KW.mk K w) mg "FAULTS" c_FAULTS := HasC.tup (PySem.W.mg_of X G g_FAULTS) ⟨_, _, [.str ⟨#[45]⟩ tk_FAULTS_0, .str ⟨#[126]⟩ tk_FAULTS_1], _, _, rfl, l_FAULTS, Nat.le_of_ble_eq_true rfl, .cons (.str [45] _) (.cons (.str [126] _) (.nil))⟩
  have C_HOLDERS : HasC (TT.KW.mk K w) mg "HOLDERS" c_HOLDERS := HasC.str [97, 98] (PySem.W.mg_of X G g_HOLDERS) (by rfl)
  have C_MOST_EVENTS : HasC (TT.KW.mk K w) mg "MOST_EVENTS" c_MOST_EVENTS := HasC.int (PySem.W.mg_of X G g_MOST_EVENTS)
  have C_PARTS : HasC (TT.KW.mk K w) mg "PARTS" c_PARTS := HasC.tup (PySem.W.mg_of X G g_PARTS) ⟨_, _, [.str ⟨#[107, 101, 101, 112]⟩ tk_PARTS_0, .str ⟨#[114, 101, 112, 108, 121]⟩ tk_PARTS_1, .str ⟨#[115, 116, 114, 105, 99, 116]⟩ tk_PARTS_2, .str ⟨#[108, 101, 101, 119, 97, 121]⟩ tk_PARTS_3, .str ⟨#[115, 112, 97, 114, 101]⟩ tk_PARTS_4, .str ⟨#[101, 118, 101, 114, 121]⟩ tk_PARTS_5, .str ⟨#[111, 108, 100]⟩ tk_PARTS_6], _, _, rfl, l_PARTS, Nat.le_of_ble_eq_true rfl, .cons (.str [107, 101, 101, 112] _) (.cons (.str [114, 101, 112, 108, 121] _) (.cons (.str [115, 116, 114, 105, 99, 116] _) (.cons (.str [108, 101, 101, 119, 97, 121] _) (.cons (.str [115, 112, 97, 114, 101] _) (.cons (.str [101, 118, 101, 114, 121] _) (.cons (.str [111, 108, 100] _) (.nil)))))))⟩
  have C_SAFE : HasC (TT.KW.mk K w) mg "SAFE" c_SAFE := HasC.tup (PySem.W.mg_of X G g_SAFE) ⟨_, _, [.str ⟨#[33]⟩ tk_SAFE_0, .str ⟨#[43]⟩ tk_SAFE_1, .str ⟨#[46, 46]⟩ tk_SAFE_2], _, _, rfl, l_SAFE, Nat.le_of_ble_eq_true rfl, .cons (.str [33] _) (.cons (.str [43] _) (.cons (.str [46, 46] _) (.nil)))⟩
  have C_TICK : HasC (TT.KW.mk K w) mg "TICK" c_TICK := HasC.str [46, 46] (PySem.W.mg_of X G g_TICK) (by rfl)
  refine ⟨PySem.W.fnOf "law" "law" (defArgs st_law) (defBody st_law) (defScope st_law) .none kV38 dc38 pm38 an38 cd38 ct38, fun s v => .of_eq rfl, fun base _ _ => ?_⟩
  have H_is_choice := (ok_is_choice (P := l.prog) (w := w) (base := base) B (fun_mk (st := st_is_choice) l1 e1 k1) (PySem.W.mg_of X G a1)).toP
  have H_first_stand := (ok_first_stand (P := l.prog) (w := w) (base := base) B (fun_mk (st := st_first_stand) l2 e2 k2) (PySem.W.mg_of X G a2)).toP
  have H_is_good := (ok_is_good (P := l.prog) (w := w) (base := base) B (fun_mk (st := st_is_good) l3 e3 k3) (PySem.W.mg_of X G a3)).toP
  have H_with_token := (ok_with_token (P := l.prog) (w := w) (base := base) B (fun_mk (st := st_with_token) l4 e4 k4) (PySem.W.mg_of X G a4)).toP
  have H_ticked := (ok_ticked (P := l.prog) (w := w) (base := base) B (fun_mk (st := st_ticked) l5 e5 k5) (PySem.W.mg_of X G a5)).toP
  have H_older := (ok_older (P := l.prog) (w := w) (base := base) B (fun_mk (st := st_older) l6 e6 k6) (PySem.W.mg_of X G a6)).toP
  have H_is_event := (ok_is_event (P := l.prog) (w := w) (base := base) B C_HOLDERS C_TICK (fun_mk (st := st_is_event) l7 e7 k7) (PySem.W.mg_of X G a7)).toP
  have H__law_bag := (ok__law_bag (P := l.prog) (w := w) (base := base) B (fun_mk (st := st__law_bag) l8 e8 k8) (PySem.W.mg_of X G a8))
  have H__law_take := (ok__law_take (P := l.prog) (w := w) (base := base) B (fun_mk (st := st__law_take) l9 e9 k9) (PySem.W.mg_of X G a9))
  have H__law_server := (ok__law_server (P := l.prog) (w := w) (base := base) B (fun_mk (st := st__law_server) l10 e10 k10) (PySem.W.mg_of X G a10))
  have H__law_accepts := (ok__law_accepts (P := l.prog) (w := w) (base := base) B (fun_mk (st := st__law_accepts) l11 e11 k11) (PySem.W.mg_of X G a11))
  have H__law_key := (ok__law_key (P := l.prog) (w := w) (base := base) B (fun_mk (st := st__law_key) l12 e12 k12) (PySem.W.mg_of X G a12)).toP
  have H__law_old := (ok__law_old (P := l.prog) (w := w) (base := base) B (fun_mk (st := st__law_old) l13 e13 k13) (PySem.W.mg_of X G a13)).toP
  have H__law_copied := (ok__law_copied (P := l.prog) (w := w) (base := base) B (fun_mk (st := st__law_copied) l14 e14 k14) (PySem.W.mg_of X G a14))
  have H_is_rule := (ok_is_rule (P := l.prog) (w := w) (base := base) B H_is_choice C_CHOICES C_PARTS (fun_mk (st := st_is_rule) l15 e15 k15) (PySem.W.mg_of X G a15)).toP
  have H_requested := (ok_requested (P := l.prog) (w := w) (base := base) B H_with_token H_is_good (fun_mk (st := st_requested) l16 e16 k16) (PySem.W.mg_of X G a16)).toP
  have H_first_node := (ok_first_node (P := l.prog) (w := w) (base := base) B H_first_stand (fun_mk (st := st_first_node) l17 e17 k17) (PySem.W.mg_of X G a17)).toP
  have H_is_history := (ok_is_history (P := l.prog) (w := w) (base := base) B H_is_event C_HOLDERS C_TICK C_MOST_EVENTS (fun_mk (st := st_is_history) l18 e18 k18) (PySem.W.mg_of X G a18)).toP
  have H__law_of := (ok__law_of (P := l.prog) (w := w) (base := base) B H__law_take (fun_mk (st := st__law_of) l19 e19 k19) (PySem.W.mg_of X G a19))
  have H__law_asked := (ok__law_asked (P := l.prog) (w := w) (base := base) B H__law_accepts (fun_mk (st := st__law_asked) l20 e20 k20) (PySem.W.mg_of X G a20))
  have H__law_world := (ok__law_world (P := l.prog) (w := w) (base := base) B H__law_server (fun_mk (st := st__law_world) l21 e21 k21) (PySem.W.mg_of X G a21))
  have HP__law_world := H__law_world.toP
  have H__law_node := (ok__law_node (P := l.prog) (w := w) (base := base) B H__law_old H__law_key (fun_mk (st := st__law_node) l22 e22 k22) (PySem.W.mg_of X G a22)).toP
  have H_need_rule := (ok_need_rule (P := l.prog) (w := w) (base := base) B H_is_rule (fun_mk (st := st_need_rule) l23 e23 k23) (PySem.W.mg_of X G a23)).toP
  have H_alone := (ok_alone (P := l.prog) (w := w) (base := base) B H_older H_requested H_ticked (fun_mk (st := st_alone) l24 e24 k24) (PySem.W.mg_of X G a24)).toP
  have H__law_rule := (ok__law_rule (P := l.prog) (w := w) (base := base) B H__law_of H__law_take (fun_mk (st := st__law_rule) l25 e25 k25) (PySem.W.mg_of X G a25))
  have H__law_event := (ok__law_event (P := l.prog) (w := w) (base := base) B H__law_asked (fun_mk (st := st__law_event) l26 e26 k26) (PySem.W.mg_of X G a26))
  have H_moved := (ok_moved (P := l.prog) (w := w) (base := base) B H_alone (fun_mk (st := st_moved) l27 e27 k27) (PySem.W.mg_of X G a27)).toP
  have H__law_easy := (ok__law_easy (P := l.prog) (w := w) (base := base) B H__law_of H__law_rule (fun_mk (st := st__law_easy) l28 e28 k28) (PySem.W.mg_of X G a28))
  have H__law_course := (ok__law_course (P := l.prog) (w := w) (base := base) B H__law_event H__law_world (fun_mk (st := st__law_course) l29 e29 k29) (PySem.W.mg_of X G a29))
  have HP__law_course := H__law_course.toP
  have H__law_try := (ok__law_try (P := l.prog) (w := w) (base := base) B H__law_event H__law_copied (fun_mk (st := st__law_try) l30 e30 k30) (PySem.W.mg_of X G a30)).toP
  have H_spread := (ok_spread (P := l.prog) (w := w) (base := base) B H_moved H_alone C_SAFE (fun_mk (st := st_spread) l31 e31 k31) (PySem.W.mg_of X G a31))
  have H_shortest := (ok_shortest (P := l.prog) (w := w) (base := base) B H_alone H_moved H_first_node C_SAFE C_FAULTS (fun_mk (st := st_shortest) l32 e32 k32) (PySem.W.mg_of X G a32)).toP
  have H__law_shortest := (ok__law_shortest (P := l.prog) (w := w) (base := base) B H__law_node H__law_try H__law_world HP__law_world (fun_mk (st := st__law_shortest) l33 e33 k33) (PySem.W.mg_of X G a33)).toP
  have H_fewest := (ok_fewest (P := l.prog) (w := w) (base := base) B H_moved H_spread H_first_node C_FAULTS (fun_mk (st := st_fewest) l34 e34 k34) (PySem.W.mg_of X G a34)).toP
  have X_fewest_faults := fn_fewest_faults (P := l.prog) (w := w) (mg := mg) (base := base) B H_fewest H_need_rule (fun_mk (st := st_fewest_faults) l35 e35 k35)
  have H_fewest_faults := (ok_fewest_faults X_fewest_faults (fun_mk (st := st_fewest_faults) l35 e35 k35) (PySem.W.mg_of X G a35)).toP
  have X_fault_history := fn_fault_history (P := l.prog) (w := w) (mg := mg) (base := base) B H_shortest H_fewest H_need_rule (fun_mk (st := st_fault_history) l36 e36 k36)
  have H_fault_history := (ok_fault_history X_fault_history (fun_mk (st := st_fault_history) l36 e36 k36) (PySem.W.mg_of X G a36)).toP
  have HD_fault_history := (okD_fault_history X_fault_history (PySem.W.mg_of X G a36) (funD_mk (K := (TT.KW.mk K w)) (kws := [("careful", .bl false)]) (st := st_fault_history) l36 e36 k36 fun q hq => by cases List.mem_singleton.mp hq; exact ⟨_, d36_careful, rfl⟩)).toP
  have H__law_right := (ok__law_right (P := l.prog) (w := w) (base := base) B H__law_shortest H__law_course H_is_history H_fewest_faults HP__law_course (fun_mk (st := st__law_right) l37 e37 k37) (PySem.W.mg_of X G a37)).toP
  exact ok_law B H_fault_history HD_fault_history H__law_right H__law_easy H__law_bag (fun_mk (st := st_law) l38 e38 k38) law_holds
end TT
open PySem PySem.W PyProof.Rows
set_option maxHeartbeats 0 in
theorem PySem.Challenge.cw_tokenturns_k06_histories_with_fewest_fau_holds : PySem.Challenge.rw_tokenturns_k06_histories_with_fewest_fau.Holds := by
  w_on; o_law; k_head; (case hw => w_witness2)
  k_fill
  refine L2.walk_of (l := PySem.Challenge.rw_tokenturns_k06_histories_with_fewest_fau) (n := 63) (k := 9) (x := "_law_script") (CX := fun _ => L2.CX0) (sp := fun w => TT.spLaw (TT.KW.mk _ w)) rfl (by decide) rfl ⟨rfl, by decide, by decide⟩ (fun w h Y => PySem.W.kIn_of Y) ?F (fun _ _ a ns hl _ hS => ⟨a, ns, rfl, hS, hl, fun _ => rfl⟩) (fun _ _ _ _ _ h => h)
  case F =>
    intro w mg fa h KX G hmg
    refine' TT.all_mk KX G hmg ?a1 ?l1 ?e1 ?k1 ?a2 ?l2 ?e2 ?k2 ?a3 ?l3 ?e3 ?k3 ?a4 ?l4 ?e4 ?k4 ?a5 ?l5 ?e5 ?k5 ?a6 ?l6 ?e6 ?k6 ?a7 ?l7 ?e7 ?k7 ?a8 ?l8 ?e8 ?k8 ?a9 ?l9 ?e9 ?k9 ?a10 ?l10 ?e10 ?k10 ?a11 ?l11 ?e11 ?k11 ?a12 ?l12 ?e12 ?k12 ?a13 ?l13 ?e13 ?k13 ?a14 ?l14 ?e14 ?k14 ?a15 ?l15 ?e15 ?k15 ?a16 ?l16 ?e16 ?k16 ?a17 ?l17 ?e17 ?k17 ?a18 ?l18 ?e18 ?k18 ?a19 ?l19 ?e19 ?k19 ?a20 ?l20 ?e20 ?k20 ?a21 ?l21 ?e21 ?k21 ?a22 ?l22 ?e22 ?k22 ?a23 ?l23 ?e23 ?k23 ?a24 ?l24 ?e24 ?k24 ?a25 ?l25 ?e25 ?k25 ?a26 ?l26 ?e26 ?k26 ?a27 ?l27 ?e27 ?k27 ?a28 ?l28 ?e28 ?k28 ?a29 ?l29 ?e29 ?k29 ?a30 ?l30 ?e30 ?k30 ?a31 ?l31 ?e31 ?k31 ?a32 ?l32 ?e32 ?k32 ?a33 ?l33 ?e33 ?k33 ?a34 ?l34 ?e34 ?k34 ?a35 ?l35 ?e35 ?k35 ?d35_careful ?a36 ?l36 ?e36 ?k36 ?d36_careful ?a37 ?l37 ?e37 ?k37 ?a38 ?l38 ?e38 ?k38 ?z_all ?z_bool ?z_int ?z_isinstance ?z_len ?z_list ?z_max ?z_min ?z_range ?z_str ?z_tuple ?z_zip ?g_CHOICES ?l_CHOICES ?l_CHOICES0 ?l_CHOICES1 ?l_CHOICES2 ?l_CHOICES3 ?l_CHOICES4 ?l_CHOICES5 ?l_CHOICES6 ?g_FAULTS ?l_FAULTS ?g_HOLDERS ?g_MOST_EVENTS ?g_PARTS ?l_PARTS ?g_SAFE ?l_SAFE ?g_TICK
    (case a1 => k_is); (case l1 => k_is); (case e1 => k_is); (case k1 => k_is); (case a2 => k_is); (case l2 => k_is); (case e2 => k_is); (case k2 => k_is); (case a3 => k_is); (case l3 => k_is); (case e3 => k_is); (case k3 => k_is); (case a4 => k_is); (case l4 => k_is); (case e4 => k_is); (case k4 => k_is); (case a5 => k_is); (case l5 => k_is); (case e5 => k_is); (case k5 => k_is); (case a6 => k_is); (case l6 => k_is); (case e6 => k_is); (case k6 => k_is); (case a7 => k_is); (case l7 => k_is); (case e7 => k_is); (case k7 => k_is); (case a8 => k_is); (case l8 => k_is); (case e8 => k_is); (case k8 => k_is); (case a9 => k_is); (case l9 => k_is); (case e9 => k_is); (case k9 => k_is); (case a10 => k_is); (case l10 => k_is); (case e10 => k_is); (case k10 => k_is); (case a11 => k_is); (case l11 => k_is); (case e11 => k_is); (case k11 => k_is); (case a12 => k_is); (case l12 => k_is); (case e12 => k_is); (case k12 => k_is); (case a13 => k_is); (case l13 => k_is); (case e13 => k_is); (case k13 => k_is); (case a14 => k_is); (case l14 => k_is); (case e14 => k_is); (case k14 => k_is); (case a15 => k_is); (case l15 => k_is); (case e15 => k_is); (case k15 => k_is); (case a16 => k_is); (case l16 => k_is); (case e16 => k_is); (case k16 => k_is); (case a17 => k_is); (case l17 => k_is); (case e17 => k_is); (case k17 => k_is); (case a18 => k_is); (case l18 => k_is); (case e18 => k_is); (case k18 => k_is); (case a19 => k_is); (case l19 => k_is); (case e19 => k_is); (case k19 => k_is); (case a20 => k_is); (case l20 => k_is); (case e20 => k_is); (case k20 => k_is); (case a21 => k_is); (case l21 => k_is); (case e21 => k_is); (case k21 => k_is); (case a22 => k_is); (case l22 => k_is); (case e22 => k_is); (case k22 => k_is); (case a23 => k_is); (case l23 => k_is); (case e23 => k_is); (case k23 => k_is); (case a24 => k_is); (case l24 => k_is); (case e24 => k_is); (case k24 => k_is); (case a25 => k_is); (case l25 => k_is); (case e25 => k_is); (case k25 => k_is); (case a26 => k_is); (case l26 => k_is); (case e26 => k_is); (case k26 => k_is); (case a27 => k_is); (case l27 => k_is); (case e27 => k_is); (case k27 => k_is); (case a28 => k_is); (case l28 => k_is); (case e28 => k_is); (case k28 => k_is); (case a29 => k_is); (case l29 => k_is); (case e29 => k_is); (case k29 => k_is); (case a30 => k_is); (case l30 => k_is); (case e30 => k_is); (case k30 => k_is); (case a31 => k_is); (case l31 => k_is); (case e31 => k_is); (case k31 => k_is); (case a32 => k_is); (case l32 => k_is); (case e32 => k_is); (case k32 => k_is); (case a33 => k_is); (case l33 => k_is); (case e33 => k_is); (case k33 => k_is); (case a34 => k_is); (case l34 => k_is); (case e34 => k_is); (case k34 => k_is); (case a35 => k_is); (case l35 => k_is); (case e35 => k_is); (case k35 => k_is); (case d35_careful => k_is); (case a36 => k_is); (case l36 => k_is); (case e36 => k_is); (case k36 => k_is); (case d36_careful => k_is); (case a37 => k_is); (case l37 => k_is); (case e37 => k_is); (case k37 => k_is); (case a38 => k_is); (case l38 => k_is); (case e38 => k_is); (case k38 => k_is); (case z_all => k_is); (case z_bool => k_is); (case z_int => k_is); (case z_isinstance => k_is); (case z_len => k_is); (case z_list => k_is); (case z_max => k_is); (case z_min => k_is); (case z_range => k_is); (case z_str => k_is); (case z_tuple => k_is); (case z_zip => k_is); (case g_CHOICES => k_is); (case l_CHOICES => k_is); (case l_CHOICES0 => k_is); (case l_CHOICES1 => k_is); (case l_CHOICES2 => k_is); (case l_CHOICES3 => k_is); (case l_CHOICES4 => k_is); (case l_CHOICES5 => k_is); (case l_CHOICES6 => k_is); (case g_FAULTS => k_is); (case l_FAULTS => k_is); (case g_HOLDERS => k_is); (case g_MOST_EVENTS => k_is); (case g_PARTS => k_is); (case l_PARTS => k_is); (case g_SAFE => k_is); (case l_SAFE => k_is); (case g_TICK => k_is)
end
