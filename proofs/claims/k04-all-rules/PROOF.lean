import PyProof.Rows.All
import Wide.All
import OpenK.AllK
import Wide.FinOn
import HandS.ForMost
import HandS.IsInst
import HandS.TupAny
import HandS.TupMul
import HandS.Style
import KE.DataEq
import HandS.Zip
import KE.KRevSl
import HandS.Defaults
import HandS.NoneIn
import HandS.Replace
import HandS.StrMore
import PySem.Challenge.RW_tokenturns_k04_whole_all_rules_for_a_his
section
set_option autoImplicit false
set_option linter.all false
/-! TT, the pure half: values, memory, results, and a Lean function for each construct of Python that the texts use. -/
namespace TT

/-- values: lists and dicts that are never changed again are values (vl, vd); what is changed stands in the memory (ref) -/
inductive PV where
  | non
  | bl (b : Bool)
  | int (i : Int)
  | str (s : List Nat)
  | tup (xs : List PV)
  | vl (xs : List PV)
  | fz (xs : List PV)
  | vd (kvs : List (PV × PV))
  | ref (n : Nat)
  deriving Inhabited

/-- what stands in the memory -/
inductive Ob where
  | lst (xs : List PV)
  | dict (kvs : List (PV × PV))
  | dead
  deriving Inhabited

abbrev Mm := List Ob
abbrev Sl := List (Option PV)

/-- an exception: its class by number, its fields -/
inductive Exn where
  | mk (c : Nat) (fs : List PV)
  deriving Inhabited

inductive Rs (α : Type) where
  | ok (a : α)
  | ex (e : Exn) (m : Mm)
  | no

namespace Rs
def bind {α β : Type} : Rs α → (α → Rs β) → Rs β
  | ok a, f => f a
  | ex e m, _ => ex e m
  | no, _ => no
@[simp] theorem bind_ok {α β : Type} (a : α) (f : α → Rs β) : (ok a).bind f = f a := rfl
@[simp] theorem bind_ex {α β : Type} (e : Exn) (m : Mm) (f : α → Rs β) : (ex e m : Rs α).bind f = ex e m := rfl
@[simp] theorem bind_no {α β : Type} (f : α → Rs β) : (no : Rs α).bind f = no := rfl
theorem bind_eq_ok {α β : Type} {r : Rs α} {f : α → Rs β} {b : β} (h : r.bind f = ok b) : ∃ a, r = ok a ∧ f a = ok b := by
  cases r with
  | ok a => exact ⟨a, rfl, h⟩
  | ex e m => cases h
  | no => cases h
/-- nothing is raised -/
def nx {α : Type} : Rs α → Rs α
  | ok a => ok a
  | ex _ _ => no
  | no => no
@[simp] theorem nx_ok {α : Type} (a : α) : (ok a).nx = ok a := rfl
@[simp] theorem nx_ex {α : Type} (e : Exn) (m : Mm) : (ex e m : Rs α).nx = no := rfl
@[simp] theorem nx_no {α : Type} : (no : Rs α).nx = no := rfl
def ofO {α : Type} : Option α → Rs α
  | some a => ok a
  | none => no
@[simp] theorem ofO_some {α : Type} (a : α) : ofO (some a) = ok a := rfl
@[simp] theorem ofO_none {α : Type} : ofO (none : Option α) = no := rfl
end Rs

abbrev SE := Sl → Mm → Rs (PV × Mm)
abbrev SA := Sl → Mm → Rs (List PV × Mm)
abbrev ST := Sl → Mm → Rs (Bool × Mm)
inductive Fl where
  | nx | bk | ct
  | rt (v : PV)
abbrev SS := Sl → Mm → Rs (Fl × Sl × Mm)
/-- by values -/
abbrev O1 := PV → Mm → Rs (PV × Mm)
abbrev O2 := PV → PV → Mm → Rs (PV × Mm)
abbrev ON := List PV → Mm → Rs (PV × Mm)

/-! ### plain data: shallow, no refs, no dicts -/
def b2i (b : Bool) : Int := if b then 1 else 0
namespace PV
/-- data without refs and dicts, at most n deep -/
def sh : Nat → PV → Bool
  | _, .non => true
  | _, .bl _ => true
  | _, .int _ => true
  | _, .str _ => true
  | n + 1, .tup xs => xs.all (sh n)
  | n + 1, .vl xs => xs.all (sh n)
  | _, _ => false
mutual
def eqv : PV → PV → Bool
  | .non, .non => true
  | .bl a, .bl b => a == b
  | .bl a, .int j => b2i a == j
  | .int i, .bl b => i == b2i b
  | .int i, .int j => i == j
  | .str x, .str y => x == y
  | .tup xs, .tup ys => eqvs xs ys
  | .vl xs, .vl ys => eqvs xs ys
  | _, _ => false
def eqvs : List PV → List PV → Bool
  | [], [] => true
  | x :: xs, y :: ys => eqv x y && eqvs xs ys
  | _, _ => false
end
end PV
/-- a list in the memory, as a value -/
def look1 (m : Mm) : PV → PV
  | .ref n => match m[n]? with
    | some (.lst xs) => .vl xs
    | _ => .ref n
  | v => v

/-! ### operators by values -/
def DEP : Nat := 12
def oEq : O2 := fun a b m => if (look1 m a).sh DEP && (look1 m b).sh DEP then .ok (.bl (PV.eqv (look1 m a) (look1 m b)), m) else .no
def oNe : O2 := fun a b m => if (look1 m a).sh DEP && (look1 m b).sh DEP then .ok (.bl (!PV.eqv (look1 m a) (look1 m b)), m) else .no
/-- is None, is True ..: the right side a constant -/
def oIs (neg : Bool) (c : PV) : O1 := fun a m => match c, a with
  | .non, .non => .ok (.bl (!neg), m)
  | .non, _ => .ok (.bl neg, m)
  | .bl b, .bl a => .ok (.bl (if a == b then !neg else neg), m)
  | _, _ => .no
def LINE : Nat := 16000000
def oAdd : O2 := fun a b m => match look1 m a, look1 m b with
  | .int i, .int j => .ok (.int (i + j), m)
  | .vl x, .vl y => if x.length + y.length ≤ LINE then .ok (.vl (x ++ y), m) else .no
  | .str x, .str y => if x.length + y.length ≤ LINE then .ok (.str (x ++ y), m) else .no
  | .tup x, .tup y => if x.length + y.length ≤ LINE then .ok (.tup (x ++ y), m) else .no
  | _, _ => .no
def oSub : O2 := fun a b m => match a, b with
  | .int i, .int j => .ok (.int (i - j), m)
  | _, _ => .no
def within64 (i : Int) : Bool := decide (-(2 ^ 64) < i) && decide (i < 2 ^ 64)
def rep {α : Type} (xs : List α) (k : Int) : List α := (List.replicate k.toNat xs).flatten
/-- list * int, tuple * int: a new value -/
def oMul : O2 := fun a b m => match look1 m a, b with
  | .int i, .int j => if within64 i || within64 j then .ok (.int (i * j), m) else .no
  | .vl x, .int k => if decide (k ≤ 1000) && decide (-1000 ≤ k) && decide (x.length ≤ 1000) then .ok (.vl (rep x k), m) else .no
  | .tup x, .int k => if decide (k ≤ 1000) && decide (-1000 ≤ k) && decide (x.length ≤ 1000) then .ok (.tup (rep x k), m) else .no
  | _, _ => .no
def oFDiv : O2 := fun a b m => match a, b with
  | .int i, .int j => if decide (0 < j) && decide (j < 1073741824) then .ok (.int (i / j), m) else .no
  | _, _ => .no
def oMod : O2 := fun a b m => match a, b with
  | .int i, .int j => if decide (0 < j) then .ok (.int (i % j), m) else .no
  | _, _ => .no
def oPow : O2 := fun a b m => match a, b with
  | .int i, .int j => if decide (0 ≤ j) && decide (j ≤ 1000) && decide (i.natAbs < 2 ^ 64) then .ok (.int (i ^ j.toNat), m) else .no
  | _, _ => .no
def oNeg : O1 := fun a m => match a with
  | .int i => .ok (.int (-i), m)
  | _ => .no
def oCmp (p : Int → Int → Bool) : O2 := fun a b m => match a, b with
  | .int i, .int j => .ok (.bl (p i j), m)
  | _, _ => .no
def oLt : O2 := oCmp fun i j => decide (i < j)
def oLe : O2 := oCmp fun i j => decide (i ≤ j)
def oGt : O2 := oCmp fun i j => decide (j < i)
def oGe : O2 := oCmp fun i j => decide (j ≤ i)
/-- x in c: a list, a tuple; one sign in a text -/
def oIn (neg : Bool) : O2 := fun a c m => match look1 m c with
  | .vl xs => if xs.all (PV.sh DEP) && a.sh DEP then .ok (.bl (if neg then !(xs.any fun y => PV.eqv y a) else xs.any fun y => PV.eqv y a), m) else .no
  | .tup xs => if xs.all (PV.sh DEP) && a.sh DEP then .ok (.bl (if neg then !(xs.any fun y => PV.eqv y a) else xs.any fun y => PV.eqv y a), m) else .no
  | .str z => match a with
    | .str [c] => .ok (.bl (if neg then !(decide (c ∈ z)) else decide (c ∈ z)), m)
    | _ => .no
  | _ => .no

/-! ### subscripts -/
def ixN (n : Nat) (i : Int) : Option Nat := if 0 ≤ i then (if i < n then some i.toNat else none) else if -(n : Int) ≤ i then some (i + n).toNat else none
def atI {α : Type} (xs : List α) (i : Int) : Option α := (ixN xs.length i).bind fun j => xs[j]?
def oIx : O2 := fun a i m => match look1 m a, i with
  | .vl xs, .int k => match atI xs k with
    | some v => .ok (v, m)
    | none => .no
  | .fz xs, .int k => match atI xs k with
    | some v => .ok (v, m)
    | none => .no
  | .tup xs, .int k => match atI xs k with
    | some v => .ok (v, m)
    | none => .no
  | .str z, .int k => if z.length ≤ LINE then (match atI z k with
    | some c => .ok (.str [c], m)
    | none => .no) else .no
  | _, _ => .no
def sIx (n d : Nat) : Option Int → Nat
  | none => d
  | some v => if v < 0 then (v + n).toNat else min v.toNat n
def cutL {α : Type} (xs : List α) (lo hi : Option Int) : List α := (xs.drop (sIx xs.length 0 lo)).take (sIx xs.length xs.length hi - sIx xs.length 0 lo)
def oSlice (lo hi : Option Int) : O1 := fun a m => match look1 m a with
  | .vl xs => .ok (.vl (cutL xs lo hi), m)
  | .tup xs => .ok (.tup (cutL xs lo hi), m)
  | .str z => if z.length ≤ LINE then .ok (.str (cutL z lo hi), m) else .no
  | _ => .no
/-- x[::-1] -/
def oRevL : O1 := fun a m => match look1 m a with
  | .vl xs => .ok (.vl xs.reverse, m)
  | _ => .no
def oRevT : O1 := fun a m => match a with
  | .tup xs => .ok (.tup xs.reverse, m)
  | _ => .no
/-- o[i] = v of a list in the memory -/
def oSet (o i v : PV) (m : Mm) : Rs Mm := match o, i with
  | .ref n, .int k => match m[n]? with
    | some (.lst xs) => match ixN xs.length k with
      | some j => .ok (m.set n (.lst (xs.set j v)))
      | none => .no
    | _ => .no
  | _, _ => .no

/-! ### built-in functions -/
def fLen : ON := fun xs m => match xs with
  | [a] => match look1 m a with
    | .vl ys => .ok (.int ys.length, m)
    | .fz ys => .ok (.int ys.length, m)
    | .tup ys => .ok (.int ys.length, m)
    | .str z => if z.length ≤ LINE then .ok (.int z.length, m) else .no
    | _ => .no
  | _ => .no
def fInt : ON := fun xs m => match xs with
  | [.int i] => .ok (.int i, m)
  | [.bl b] => .ok (.int (b2i b), m)
  | _ => .no
def fMax : ON := fun xs m => match xs with
  | [.int i, .int j] => .ok (.int (if j > i then j else i), m)
  | _ => .no
def fMin : ON := fun xs m => match xs with
  | [.int i, .int j] => .ok (.int (if j < i then j else i), m)
  | _ => .no
/-- list(x): a new value -/
def fList : ON := fun xs m => match xs with
  | [a] => match look1 m a with
    | .vl ys => .ok (.vl ys, m)
    | .tup ys => .ok (.vl ys, m)
    | _ => .no
  | _ => .no
def fTuple : ON := fun xs m => match xs with
  | [a] => match look1 m a with
    | .vl ys => .ok (.tup ys, m)
    | .tup ys => .ok (.tup ys, m)
    | _ => .no
  | _ => .no
def bools : List PV → Option (List Bool)
  | [] => some []
  | .bl b :: r => (bools r).map (b :: ·)
  | _ :: _ => none
def fAll : ON := fun xs m => match xs with
  | [a] => match look1 m a with
    | .vl ys => match bools ys with
      | some bs => .ok (.bl (bs.all id), m)
      | none => .no
    | _ => .no
  | _ => .no
/-- isinstance(x, T) -/
inductive Ty where
  | tInt | tStr | tBool | tTup | tList
def isA : Ty → PV → Option Bool
  | _, .non => some false
  | .tInt, .bl _ => some true
  | .tBool, .bl _ => some true
  | _, .bl _ => some false
  | .tInt, .int _ => some true
  | _, .int _ => some false
  | .tStr, .str _ => some true
  | _, .str _ => some false
  | .tTup, .tup _ => some true
  | _, .tup _ => some false
  | .tList, .vl _ => some true
  | _, .vl _ => some false
  | .tList, .fz _ => some true
  | _, .fz _ => some false
  | _, _ => none
def oIsA (t : Ty) : O1 := fun a m => match isA t (look1 m a) with
  | some b => .ok (.bl b, m)
  | none => .no
/-- repr of None, a bool -/
def fReprB : ON := fun xs m => match xs with
  | [.bl true] => .ok (.str [84, 114, 117, 101], m)
  | [.bl false] => .ok (.str [70, 97, 108, 115, 101], m)
  | _ => .no

/-! ### methods -/
def mAppend (o : PV) (xs : List PV) (m : Mm) : Rs (PV × Mm) := match o, xs with
  | .ref n, [v] => match m[n]? with
    | some (.lst ys) => if ys.length < LINE then .ok (.non, m.set n (.lst (ys ++ [v]))) else .no
    | _ => .no
  | _, _ => .no
def idx (p : PV → Bool) : List PV → Nat → Option Nat
  | [], _ => none
  | x :: r, i => if p x then some i else idx p r (i + 1)
/-- xs.index(y) of flat items -/
def flat : PV → Bool
  | .non => true
  | .bl _ => true
  | .int _ => true
  | .str _ => true
  | _ => false
def mIndex (o : PV) (xs : List PV) (m : Mm) : Rs (PV × Mm) := match look1 m o, xs with
  | .vl ys, [v] => if ys.all flat && flat v then (match idx (fun y => PV.eqv y v) ys 0 with
    | some i => .ok (.int i, m)
    | none => .no) else .no
  | .tup ys, [v] => if ys.all flat && flat v then (match idx (fun y => PV.eqv y v) ys 0 with
    | some i => .ok (.int i, m)
    | none => .no) else .no
  | _, _ => .no
def idxN (c : Nat) : List Nat → Nat → Option Nat
  | [], _ => none
  | x :: r, i => if x == c then some i else idxN c r (i + 1)
/-- text.index(one sign), a text of two signs, where it is there -/
def mIndexS (o : PV) (xs : List PV) (m : Mm) : Rs (PV × Mm) := match o, xs with
  | .str [p, q], [.str [c]] => if c = p then .ok (.int 0, m) else if c = q then .ok (.int 1, m) else .no
  | _, _ => .no
/-- text.find(one sign), a text of two signs -/
def mFindS (o : PV) (xs : List PV) (m : Mm) : Rs (PV × Mm) := match o, xs with
  | .str [p, q], [.str [c]] => .ok (.int (if c = p then 0 else if c = q then 1 else -1), m)
  | _, _ => .no

/-! ### expressions -/
def eVar (i : Nat) : SE := fun s m => match s[i]? with
  | some (some v) => .ok (v, m)
  | _ => .no
def eC (v : PV) : SE := fun _ m => .ok (v, m)
def e1 (f : O1) (a : SE) : SE := fun s m => (a s m).bind fun (x, m1) => f x m1
def e2 (f : O2) (a b : SE) : SE := fun s m => (a s m).bind fun (x, m1) => (b s m1).bind fun (y, m2) => f x y m2
def aNil : SA := fun _ m => .ok ([], m)
def aCons (a : SE) (r : SA) : SA := fun s m => (a s m).bind fun (x, m1) => (r s m1).bind fun (xs, m2) => .ok (x :: xs, m2)
def eN (f : ON) (a : SA) : SE := fun s m => (a s m).bind fun (xs, m1) => f xs m1
def eTup (a : SA) : SE := fun s m => (a s m).bind fun (xs, m1) => .ok (.tup xs, m1)
/-- a list display that is never changed -/
def eLst (a : SA) : SE := fun s m => (a s m).bind fun (xs, m1) => .ok (.vl xs, m1)
/-- a list display that will be changed -/
def eLstM (a : SA) : SE := fun s m => (a s m).bind fun (xs, m1) => .ok (.ref m1.length, m1 ++ [.lst xs])
def eIf (t : ST) (a b : SE) : SE := fun s m => (t s m).bind fun (c, m1) => if c then a s m1 else b s m1
/-- method of a value: o.m(args), o of the type told -/
inductive Tag where
  | list | str
def tyOk (m : Mm) : Tag → PV → Bool
  | .str, .str _ => true
  | .list, .ref n => match m[n]? with
    | some (.lst _) => true
    | _ => false
  | .list, .vl _ => true
  | _, _ => false
def eM (t : Tag) (f : PV → List PV → Mm → Rs (PV × Mm)) (o : SE) (a : SA) : SE := fun s m => (o s m).bind fun (x, m1) => if tyOk m1 t x then (a s m1).bind fun (xs, m2) => f x xs m2 else .no
/-- a[lo:hi] -/
def eSlL (lo fa : SE) : SE := fun s m => (fa s m).bind fun (x, m1) => (lo s m1).bind fun (l, m2) => match l with
  | .int i => oSlice (some i) none x m2
  | _ => .no
def eSlH (hi fa : SE) : SE := fun s m => (fa s m).bind fun (x, m1) => (hi s m1).bind fun (l, m2) => match l with
  | .int i => oSlice none (some i) x m2
  | _ => .no
def eSlLH (lo hi fa : SE) : SE := fun s m => (fa s m).bind fun (x, m1) => (lo s m1).bind fun (l, m2) => match l with
  | .int i => (hi s m2).bind fun (u, m3) => match u with
    | .int j => oSlice (some i) (some j) x m3
    | _ => .no
  | _ => .no
def asB : PV → Mm → Rs (Bool × Mm)
  | .bl b, m => .ok (b, m)
  | _, _ => .no
/-- and, or, not of truth values -/
def eAnd (a b : SE) : SE := fun s m => (a s m).bind fun (x, m1) => match x with
  | .bl true => b s m1
  | .bl false => .ok (.bl false, m1)
  | _ => .no
def eOr (a b : SE) : SE := fun s m => (a s m).bind fun (x, m1) => match x with
  | .bl false => b s m1
  | .bl true => .ok (.bl true, m1)
  | _ => .no
def eNot (a : SE) : SE := fun s m => (a s m).bind fun (x, m1) => match x with
  | .bl b => .ok (.bl (!b), m1)
  | _ => .no
/-- a < b < c -/
def eChain (f g : O2) (a b c : SE) : SE := fun s m => (a s m).bind fun (x, m1) => (b s m1).bind fun (y, m2) => (f x y m2).bind fun (z, m3) => match z with
  | .bl true => (c s m3).bind fun (u, m4) => g y u m4
  | .bl false => .ok (.bl false, m3)
  | _ => .no
/-! tests -/
def tV (a : SE) : ST := fun s m => (a s m).bind fun (x, m1) => asB x m1
def tAnd (a b : ST) : ST := fun s m => (a s m).bind fun (c, m1) => if c then b s m1 else .ok (false, m1)
def tOr (a b : ST) : ST := fun s m => (a s m).bind fun (c, m1) => if c then .ok (true, m1) else b s m1
def tNot (a : ST) : ST := fun s m => (a s m).bind fun (c, m1) => .ok (!c, m1)
/-- the truth of a value -/
def tru (m : Mm) : PV → Option Bool
  | .non => some false
  | .bl b => some b
  | .int i => some (i != 0)
  | .str z => if z.length ≤ LINE then some (!z.isEmpty) else none
  | .tup xs => some (!xs.isEmpty)
  | .vl xs => some (!xs.isEmpty)
  | .ref n => match m[n]? with
    | some (.lst xs) => some (!xs.isEmpty)
    | _ => none
  | _ => none
def tT (a : SE) : ST := fun s m => (a s m).bind fun (x, m1) => match tru m1 x with
  | some b => .ok (b, m1)
  | none => .no

/-! ### targets: a value is stored -/
abbrev SG := PV → Sl → Mm → Rs (Sl × Mm)
def gName (i : Nat) : SG := fun v s m => .ok (s.set i (some v), m)
def gNames : List Nat → List PV → Sl → Option Sl
  | [], [], s => some s
  | i :: is, v :: vs, s => gNames is vs (s.set i (some v))
  | _, _, _ => none
/-- a, b, .. = a tuple -/
def gTup (is : List Nat) : SG := fun v s m => match v with
  | .tup vs => match gNames is vs s with
    | some s' => .ok (s', m)
    | none => .no
  | _ => .no
/-- a, b, .. = a list -/
def gSeq (is : List Nat) : SG := fun v s m => match look1 m v with
  | .tup vs => match gNames is vs s with
    | some s' => .ok (s', m)
    | none => .no
  | .vl vs => match gNames is vs s with
    | some s' => .ok (s', m)
    | none => .no
  | _ => .no
def gUnp (is : List Nat) : SG := fun v s m => match look1 m v with
  | .vl vs => match gNames is vs s with
    | some s' => .ok (s', m)
    | none => .no
  | _ => .no
def gSub (o i : SE) : SG := fun v s m => (o s m).bind fun (x, m1) => (i s m1).bind fun (k, m2) => (oSet x k v m2).bind fun m3 => .ok (s, m3)

/-! ### statements -/
def sSkip : SS := fun s m => .ok (.nx, s, m)
def sSeq (a b : SS) : SS := fun s m => (a s m).bind fun (f, s1, m1) => match f with
  | .nx => b s1 m1
  | f => .ok (f, s1, m1)
def sExpr (e : SE) : SS := fun s m => (e s m).bind fun (_, m1) => .ok (.nx, s, m1)
def sAsg (e : SE) (g : SG) : SS := fun s m => (e s m).bind fun (v, m1) => (g v s m1).bind fun (s2, m2) => .ok (.nx, s2, m2)
def sRet (e : SE) : SS := fun s m => (e s m).bind fun (v, m1) => .ok (.rt v, s, m1)
def sRetN : SS := fun s m => .ok (.rt .non, s, m)
def sIf (t : ST) (a b : SS) : SS := fun s m => (t s m).bind fun (c, m1) => if c then a s m1 else b s m1
def sBreak : SS := fun s m => .ok (.bk, s, m)
def sCont : SS := fun s m => .ok (.ct, s, m)
/-- never reached -/
def sNever : SS := fun _ _ => .no
/-- a, b = e1, e2 with local names -/
def sPar2 (i j : Nat) (a : SA) : SS := fun s m => (a s m).bind fun (xs, m1) => match xs with
  | [x, y] => .ok (.nx, (s.set i (some x)).set j (some y), m1)
  | _ => .no
def sPar3 (i j l : Nat) (a : SA) : SS := fun s m => (a s m).bind fun (xs, m1) => match xs with
  | [x, y, z] => .ok (.nx, ((s.set i (some x)).set j (some y)).set l (some z), m1)
  | _ => .no
def sPar (is : List Nat) (a : SA) : SS := fun s m => (a s m).bind fun (xs, m1) => match gNames is xs s with
  | some s' => .ok (.nx, s', m1)
  | none => .no
/-- x op= e -/
def sAug (i : Nat) (f : O2) (e : SE) : SS := fun s m => match s[i]? with
  | some (some x) => (e s m).bind fun (y, m1) => (f x y m1).bind fun (z, m2) => .ok (.nx, s.set i (some z), m2)
  | _ => .no
/-! loops over values -/
abbrev SI := Sl → Mm → Rs (List PV × Mm)
def forL (g : SG) (b : SS) : List PV → Sl → Mm → Rs (Fl × Sl × Mm)
  | [], s, m => .ok (.nx, s, m)
  | x :: xs, s, m => (g x s m).bind fun (s1, m1) => (b s1 m1).bind fun (f, s2, m2) => match f with
    | .nx => forL g b xs s2 m2
    | .ct => forL g b xs s2 m2
    | .bk => .ok (.nx, s2, m2)
    | .rt v => .ok (.rt v, s2, m2)
def sFor (it : SI) (g : SG) (b : SS) : SS := fun s m => (it s m).bind fun (xs, m1) => forL g b xs s m1
/-- what is walked: a value's items -/
def items : PV → Option (List PV)
  | .tup xs => some xs
  | .vl xs => some xs
  | .str z => some (z.map fun c => .str [c])
  | _ => none
def iV (e : SE) : SI := fun s m => (e s m).bind fun (x, m1) => (Rs.ofO (items x)).bind fun xs => .ok (xs, m1)
/-- over a list, a tuple -/
def iL (e : SE) : SI := fun s m => (e s m).bind fun (x, m1) => match x with
  | .vl xs => .ok (xs, m1)
  | _ => .no
def iT (e : SE) : SI := fun s m => (e s m).bind fun (x, m1) => match x with
  | .tup xs => .ok (xs, m1)
  | _ => .no
def rngL (lo : Int) : Nat → List PV
  | 0 => []
  | n + 1 => .int lo :: rngL (lo + 1) n
def P62 : Int := 4611686018427387904
def iRng1 (e : SE) : SI := fun s m => (e s m).bind fun (x, m1) => match x with
  | .int j => if decide (-P62 ≤ j) && decide (j < P62) then .ok (rngL 0 j.toNat, m1) else .no
  | _ => .no
def iRng2 (a b : SE) : SI := fun s m => (a s m).bind fun (x, m1) => (b s m1).bind fun (y, m2) => match x, y with
  | .int i, .int j => if decide (-P62 ≤ i) && decide (i < P62) && decide (-P62 ≤ j) && decide (j < P62) then .ok (rngL i (j - i).toNat, m2) else .no
  | _, _ => .no
def zipP : List PV → List PV → List PV
  | x :: xs, y :: ys => .tup [x, y] :: zipP xs ys
  | _, _ => []
def iZip (a b : SE) : SI := fun s m => (a s m).bind fun (x, m1) => (b s m1).bind fun (y, m2) => match x, y with
  | .tup xs, .tup ys => .ok (zipP xs ys, m2)
  | .vl xs, .vl ys => .ok (zipP xs ys, m2)
  | _, _ => .no
def enumP : Int → List PV → List PV
  | _, [] => []
  | i, x :: xs => .tup [.int i, x] :: enumP (i + 1) xs
def iEnum (a : SE) : SI := fun s m => (a s m).bind fun (x, m1) => match x with
  | .vl xs => .ok (enumP 0 xs, m1)
  | .tup xs => .ok (enumP 0 xs, m1)
  | _ => .no
/-! while -/
def whileF (t : ST) (b : SS) : Nat → Sl → Mm → Rs (Fl × Sl × Mm)
  | 0, _, _ => .no
  | n + 1, s, m => (t s m).bind fun (c, m1) => if c then (b s m1).bind fun (f, s2, m2) => match f with
      | .nx => whileF t b n s2 m2
      | .ct => whileF t b n s2 m2
      | .bk => .ok (.nx, s2, m2)
      | .rt v => .ok (.rt v, s2, m2)
    else .ok (.nx, s, m1)
def FUEL : Nat := 1000000000000
def sWhile (t : ST) (b : SS) : SS := fun s m => whileF t b FUEL s m
/-! comprehensions: own slots forgotten first -/
def wipe (s : Sl) : List Nat → Sl
  | [] => s
  | v :: vs => (wipe s vs).set v none
def lcL (g : SG) (t : ST) (e : SE) (s : Sl) : List PV → Mm → List PV → Rs (List PV × Mm)
  | [], m, acc => .ok (acc, m)
  | x :: xs, m, acc => (g x s m).nx.bind fun (s1, m1) => (t s1 m1).nx.bind fun (c, m2) =>
    if c then (e s1 m2).nx.bind fun (y, m3) => if acc.length < LINE then lcL g t e s xs m3 (acc ++ [y]) else .no else lcL g t e s xs m2 acc
def eLc (own : List Nat) (it : SI) (g : SG) (t : ST) (e : SE) : SE := fun s m => (it s m).bind fun (xs, m1) => (lcL g t e (wipe s own) xs m1 []).bind fun (ys, m2) => .ok (.vl ys, m2)
def tYes : ST := fun _ m => .ok (true, m)

/-! ### ghost steps -/
/-- the list in slot i is changed no more: it becomes a value -/
def sFrz (i : Nat) : SS := fun s m => match s[i]? with
  | some (some (.ref n)) => match m[n]? with
    | some (.lst xs) => .ok (.nx, s.set i (some (.vl xs)), m.set n .dead)
    | _ => .no
  | _ => .no
/-- an expression's list is changed no more -/
def eFrz (e : SE) : SE := fun s m => (e s m).bind fun (x, m1) => match x with
  | .ref n => match m1[n]? with
    | some (.lst xs) => .ok (.vl xs, m1.set n .dead)
    | _ => .no
  | x => .ok (x, m1)

/-! ### defs -/
/-- a def by the whole memory -/
abbrev IF := List PV → Mm → Rs (PV × Mm)
/-- a def by values alone -/
abbrev PF := List PV → Rs PV
def startS (n : Nat) (args : List PV) : Sl := args.map some ++ List.replicate (n - args.length) none
def endF : Rs (Fl × Sl × Mm) → Rs (PV × Mm)
  | .ok (.rt v, _, m) => .ok (v, m)
  | .ok (.nx, _, m) => .ok (.non, m)
  | .ok _ => .no
  | .ex e m => .ex e m
  | .no => .no
/-- n: the number of slots, k: of the parameters -/
def bodyI (n k : Nat) (b : SS) : IF := fun args m => if args.length = k then endF (b (startS n args) m) else .no
/-- values that hold no refs -/
def pure1 : PV → Bool
  | .non => true
  | .bl _ => true
  | .int _ => true
  | .str _ => true
  | _ => false
mutual
def PV.pu : PV → Bool
  | .ref _ => false
  | .tup xs => pus xs
  | .vl xs => pus xs
  | .fz xs => pus xs
  | .vd kvs => pud kvs
  | _ => true
def pus : List PV → Bool
  | [] => true
  | x :: xs => PV.pu x && pus xs
def pud : List (PV × PV) → Bool
  | [] => true
  | (k, v) :: r => PV.pu k && PV.pu v && pud r
end
/-- what is handed back as a value: lists of the memory become values -/
def frz : Nat → Mm → PV → Option PV
  | 0, _, v => if v.pu then some v else none
  | k + 1, m, v => if v.pu then some v else match v with
    | .ref n => match m[n]? with
      | some (.lst xs) => (frzs (frz k m) xs).map .vl
      | _ => none
    | .tup xs => (frzs (frz k m) xs).map .tup
    | _ => none
where
  frzs (f : PV → Option PV) : List PV → Option (List PV)
  | [] => some []
  | x :: xs => match f x, frzs f xs with
    | some y, some ys => some (y :: ys)
    | _, _ => none
/-- a def that neither changes nor keeps what it is given -/
def bodyP (n k : Nat) (b : SS) : PF := fun args => match bodyI n k b args [] with
  | .ok (v, m) => Rs.ofO (frz 4 m v)
  | .ex e _ => .ex e []
  | .no => .no
/-- the call of such a def: the arguments hold no refs -/
def cP (f : PF) : ON := fun xs m => if pus xs then (match f xs with
  | .ok v => .ok (v, m)
  | _ => .no) else .no
/-- the call of a def by the whole memory -/
def cI (f : IF) : ON := fun xs m => (f xs m).nx
/-- an object that holds no refs -/
def Ob.pu : Ob → Bool
  | .lst xs => pus xs
  | .dict kvs => pud kvs
  | .dead => true
end TT
end

section
set_option autoImplicit false
set_option linter.all false
/-! TT, the pure half, more -/
namespace TT
/-- f(.., k = ..) -/
def eNK (f : ON) (fs gs : SA) : SE := fun s m => (fs s m).bind fun (xs, m1) => (gs s m1).bind fun (ys, m2) => f (xs ++ ys) m2
/-- f(..), the rest by default -/
def eND (f : ON) (fs : SA) (ds : List PV) : SE := fun s m => (fs s m).bind fun (xs, m1) => f (xs ++ ds) m1
/-- x[lo::st] of lists -/
def stepIdx (lo st : Int) (n : Nat) : List Nat := (List.range (if lo < n then ((n : Int) - lo + st - 1) / st else 0).toNat).map fun (k : Nat) => (lo + st * (k : Int)).toNat
def stepL {α : Type} (xs : List α) (lo st : Int) : List α := (stepIdx lo st xs.length).filterMap fun i => xs[i]?
def oStep (st : Int) (n : Nat) : O1 := fun l m => match l with
  | .int i => match m[n]? with
    | some (.lst xs) => if decide (0 ≤ i) && decide (i ≤ xs.length) then .ok (.vl (stepL xs i st), m) else .no
    | _ => .no
  | _ => .no
def eSlS (lo : SE) (st : Int) (fa : SE) : SE := fun s m => (fa s m).bind fun (x, m1) => match x with
  | .ref n => (lo s m1).bind fun (l, m2) => oStep st n l m2
  | _ => .no
end TT
end

section
set_option Elab.async false
set_option linter.all false
set_option autoImplicit false
set_option maxRecDepth 100000
/-! TT, the relation between values, memory and HandS's abstract heap -/
namespace TT
open PySem PySem.Spec PyProof.Rows L2

/-- the ghost: where the objects of the memory stand; what is read only -/
structure Gh where
  φ : Nat → Option Addr
  ro : Hp

mutual
inductive Rp (K : PySem.W.Frag) (g : Gh) (H : Hp) : PV → V → Prop
  | non : Rp K g H .non .non
  | bl (b : Bool) : Rp K g H (.bl b) (.bl b)
  | int (i : Int) : Rp K g H (.int i) (.int i)
  | str (l : List Nat) : Rp K g H (.str l) (.str ⟨l.toArray⟩)
  | tup {a : Addr} {vs : List V} {xs : List PV} : SqT K H a vs → Rps K g H xs vs → Rp K g H (.tup xs) (.ref a)
  | vl {a : Addr} {vs : List V} {xs : List PV} : g.ro a = some (.lst vs) → Rps K g H xs vs → Rp K g H (.vl xs) (.ref a)
  | fz {a : Addr} {vs : List V} {xs : List PV} : SqL K g.ro a vs → Rps K g H xs vs → Rp K g H (.fz xs) (.ref a)
  | ref {n : Nat} {a : Addr} : g.φ n = some a → Rp K g H (.ref n) (.ref a)
inductive Rps (K : PySem.W.Frag) (g : Gh) (H : Hp) : List PV → List V → Prop
  | nil : Rps K g H [] []
  | cons {x : PV} {xs : List PV} {v : V} {vs : List V} : Rp K g H x v → Rps K g H xs vs → Rps K g H (x :: xs) (v :: vs)
end

def ROb (K : PySem.W.Frag) (g : Gh) (H : Hp) (n : Nat) : Ob → Prop
  | .lst xs => ∃ a vs, g.φ n = some a ∧ H a = some (.lst vs) ∧ Rps K g H xs vs
  | .dict _ => False
  | .dead => True

structure Emb (K : PySem.W.Frag) (g : Gh) (m : Mm) (H : Hp) : Prop where
  obj : ∀ n o, m[n]? = some o → ROb K g H n o
  dom : ∀ n a, g.φ n = some a → n < m.length ∧ ∃ u, H a = some u ∧ Mut (some u)
  inj : ∀ n k a, g.φ n = some a → g.φ k = some a → n = k
  ro : ∀ a u, g.ro a = some u → H a = some u ∧ ∀ n, g.φ n = some a → m[n]? = some .dead

/-- what becomes of ghost and heap: grown; what is not in the memory stays -/
structure Ext (g : Gh) (H : Hp) (g' : Gh) (H' : Hp) : Prop where
  phi : ∀ n a, g.φ n = some a → g'.φ n = some a
  ro : ∀ a u, g.ro a = some u → g'.ro a = some u
  fr : ∀ a u, H a = some u → (∀ n, g.φ n ≠ some a) → H' a = some u
  /-- what was not in the memory and stood already does not come into it -/
  old : ∀ a u, H a = some u → (∀ n, g.φ n ≠ some a) → ∀ n, g'.φ n ≠ some a
  oldr : ∀ a u, H a = some u → (∀ n, g.φ n ≠ some a) → g.ro a = none → g'.ro a = none

theorem Ext.refl (g : Gh) (H : Hp) : Ext g H g H := ⟨fun _ _ h => h, fun _ _ h => h, fun _ _ h _ => h, fun _ _ _ h => h, fun _ _ _ _ h => h⟩
theorem Ext.trans {g g1 g2 : Gh} {H H1 H2 : Hp} (a : Ext g H g1 H1) (b : Ext g1 H1 g2 H2) : Ext g H g2 H2 :=
  ⟨fun n x h => b.phi n x (a.phi n x h), fun x u h => b.ro x u (a.ro x u h), fun x u h n => b.fr x u (a.fr x u h n) (a.old x u h n), fun x u h n => b.old x u (a.fr x u h n) (a.old x u h n), fun x u h n r => b.oldr x u (a.fr x u h n) (a.old x u h n) (a.oldr x u h n r)⟩

theorem not_mut_tup {u : HO} {xs : List V} (h : Mut (some u)) (e : u = .tup xs) : False := by subst e; exact h
theorem not_mut_frz {u w : HO} {o : Obj} (h : Mut (some u)) (e : u = .frz o w) : False := by subst e; exact h

/-- a tuple is not in the memory -/
theorem Emb.tup_out {K : PySem.W.Frag} {g : Gh} {m : Mm} {H : Hp} (e : Emb K g m H) {a : Addr} {xs : List V} (h : Rd H a (.tup xs)) : ∀ n, g.φ n ≠ some a := by
  intro n hn
  obtain ⟨_, u, hu, mu⟩ := e.dom n a hn
  rcases h with h | ⟨o, h⟩
  · rw [hu] at h; exact not_mut_tup mu (Option.some.inj h)
  · rw [hu] at h; exact not_mut_frz mu (Option.some.inj h)

section
variable {K : PySem.W.Frag} {g g' : Gh} {m m' : Mm} {H H' : Hp}
theorem Emb.sqT (e : Emb K g m H) (x : Ext g H g' H') {a : Addr} {xs : List V} (h : SqT K H a xs) : SqT K H' a xs := by
  rcases h with (h | ⟨o, h⟩) | h
  · exact .inl (.inl (x.fr _ _ h (e.tup_out (.inl h))))
  · exact .inl (.inr ⟨o, x.fr _ _ h (e.tup_out (.inr ⟨o, h⟩))⟩)
  · exact .inr h
theorem sqL_mono {r r' : Hp} (h : ∀ a u, r a = some u → r' a = some u) {a : Addr} {xs : List V} (q : SqL K r a xs) : SqL K r' a xs := by
  rcases q with (q | ⟨o, q⟩) | q
  · exact .inl (.inl (h _ _ q))
  · exact .inl (.inr ⟨o, h _ _ q⟩)
  · exact .inr q
mutual
theorem Rp.ext (e : Emb K g m H) (x : Ext g H g' H') : ∀ {v : PV} {w : V}, Rp K g H v w → Rp K g' H' v w
  | _, _, .non => .non
  | _, _, .bl b => .bl b
  | _, _, .int i => .int i
  | _, _, .str l => .str l
  | _, _, .tup h r => .tup (e.sqT x h) (Rps.ext e x r)
  | _, _, .vl h r => .vl (x.ro _ _ h) (Rps.ext e x r)
  | _, _, .fz h r => .fz (sqL_mono x.ro h) (Rps.ext e x r)
  | _, _, .ref h => .ref (x.phi _ _ h)
theorem Rps.ext (e : Emb K g m H) (x : Ext g H g' H') : ∀ {v : List PV} {w : List V}, Rps K g H v w → Rps K g' H' v w
  | _, _, .nil => .nil
  | _, _, .cons h r => .cons (Rp.ext e x h) (Rps.ext e x r)
end
theorem Rps.length : ∀ {v : List PV} {w : List V}, Rps K g H v w → v.length = w.length
  | _, _, .nil => rfl
  | _, _, .cons _ r => by simp [Rps.length r]
theorem Rps.get : ∀ {v : List PV} {w : List V} {i : Nat} {x : PV}, Rps K g H v w → v[i]? = some x → ∃ y, w[i]? = some y ∧ Rp K g H x y
  | _, _, _, _, .nil, h => by simp at h
  | _, _, 0, _, .cons a _, h => by simp at h; subst h; exact ⟨_, rfl, a⟩
  | _, _, i + 1, x, .cons _ r, h => by
    obtain ⟨y, h1, h2⟩ := Rps.get (i := i) (x := x) r (by simpa using h)
    exact ⟨y, by simpa using h1, h2⟩
theorem Rps.get' : ∀ {v : List PV} {w : List V} {i : Nat} {y : V}, Rps K g H v w → w[i]? = some y → ∃ x, v[i]? = some x ∧ Rp K g H x y
  | _, _, _, _, .nil, h => by simp at h
  | _, _, 0, _, .cons a _, h => by simp at h; subst h; exact ⟨_, rfl, a⟩
  | _, _, i + 1, x, .cons _ r, h => by
    obtain ⟨y, h1, h2⟩ := Rps.get' (i := i) (y := x) r (by simpa using h)
    exact ⟨y, by simpa using h1, h2⟩
theorem Rps.append : ∀ {v v' : List PV} {w w' : List V}, Rps K g H v w → Rps K g H v' w' → Rps K g H (v ++ v') (w ++ w')
  | _, _, _, _, .nil, s => s
  | _, _, _, _, .cons h r, s => .cons h (Rps.append r s)
theorem Rps.take : ∀ {v : List PV} {w : List V} (n : Nat), Rps K g H v w → Rps K g H (v.take n) (w.take n)
  | _, _, 0, _ => .nil
  | _, _, _ + 1, .nil => .nil
  | _, _, n + 1, .cons h r => .cons h (Rps.take n r)
theorem Rps.drop : ∀ {v : List PV} {w : List V} (n : Nat), Rps K g H v w → Rps K g H (v.drop n) (w.drop n)
  | _, _, 0, r => r
  | _, _, _ + 1, .nil => .nil
  | _, _, n + 1, .cons h r => Rps.drop n r
theorem Rps.rev {v : List PV} {w : List V} (h : Rps K g H v w) : Rps K g H v.reverse w.reverse := by
  induction v generalizing w with
  | nil => cases h; exact .nil
  | cons x xs ih =>
    cases h with
    | cons a r => rw [List.reverse_cons, List.reverse_cons]; exact (ih r).append (.cons a .nil)
theorem Rps.set {x : PV} {y : V} (a : Rp K g H x y) : ∀ {v : List PV} {w : List V} (i : Nat), Rps K g H v w → Rps K g H (v.set i x) (w.set i y)
  | _, _, _, .nil => .nil
  | _, _, 0, .cons _ r => .cons a r
  | _, _, i + 1, .cons h r => .cons h (Rps.set a i r)
theorem Rps.rep {v : List PV} {w : List V} (h : Rps K g H v w) : ∀ k : Nat, Rps K g H (List.replicate k v).flatten (List.replicate k w).flatten
  | 0 => .nil
  | k + 1 => by rw [List.replicate_succ, List.replicate_succ, List.flatten_cons, List.flatten_cons]; exact h.append (Rps.rep h k)

/-- a value's list or a list in the memory -/
theorem Emb.look (e : Emb K g m H) {v : PV} {w : V} (r : Rp K g H v w) {xs : List PV} (h : look1 m v = .vl xs) : ∃ a vs, w = .ref a ∧ H a = some (.lst vs) ∧ Rps K g H xs vs := by
  cases r with
  | vl h1 h2 => simp only [look1] at h; cases h; exact ⟨_, _, rfl, (e.ro _ _ h1).1, h2⟩
  | ref hn =>
    simp only [look1] at h
    split at h
    · rename_i ys hy
      cases h
      obtain ⟨a, vs, h1, h2, h3⟩ := e.obj _ _ hy
      rw [hn] at h1; cases h1
      exact ⟨_, vs, rfl, h2, h3⟩
    · cases h
  | _ => simp only [look1] at h; cases h
theorem look1_tup {v : PV} {xs : List PV} (h : look1 m v = .tup xs) : v = .tup xs := by
  cases v with
  | ref n => simp only [look1] at h; split at h <;> cases h
  | _ => simpa only [look1] using h
theorem look1_str {v : PV} {xs : List Nat} (h : look1 m v = .str xs) : v = .str xs := by
  cases v with
  | ref n => simp only [look1] at h; split at h <;> cases h
  | _ => simpa only [look1] using h
theorem look1_int {v : PV} {i : Int} (h : look1 m v = .int i) : v = .int i := by
  cases v with
  | ref n => simp only [look1] at h; split at h <;> cases h
  | _ => simpa only [look1] using h
theorem look1_fz {v : PV} {xs : List PV} (h : look1 m v = .fz xs) : v = .fz xs := by
  cases v with
  | ref n => simp only [look1] at h; split at h <;> cases h
  | _ => simpa only [look1] using h
theorem Emb.fz (e : Emb K g m H) {xs : List PV} {w : V} (r : Rp K g H (.fz xs) w) : ∃ a vs, w = .ref a ∧ SqL K H a vs ∧ Rps K g H xs vs := by
  cases r with
  | fz h1 h2 => exact ⟨_, _, rfl, sqL_mono (fun a u h => (e.ro a u h).1) h1, h2⟩
theorem Rp.tup_inv {xs : List PV} {w : V} (r : Rp K g H (.tup xs) w) : ∃ a vs, w = .ref a ∧ SqT K H a vs ∧ Rps K g H xs vs := by
  cases r with
  | tup h1 h2 => exact ⟨_, _, rfl, h1, h2⟩
theorem Rp.int_inv {i : Int} {w : V} (r : Rp K g H (.int i) w) : w = .int i := by cases r; rfl
theorem Rp.bl_inv {i : Bool} {w : V} (r : Rp K g H (.bl i) w) : w = .bl i := by cases r; rfl
theorem Rp.non_inv {w : V} (r : Rp K g H .non w) : w = .non := by cases r; rfl
theorem Rp.str_inv {l : List Nat} {w : V} (r : Rp K g H (.str l) w) : w = .str ⟨l.toArray⟩ := by cases r; rfl
theorem Rp.ref_inv {n : Nat} {w : V} (r : Rp K g H (.ref n) w) : ∃ a, w = .ref a ∧ g.φ n = some a := by cases r with | ref h => exact ⟨_, rfl, h⟩
end

/-! ### slots -/
structure Sr (K : PySem.W.Frag) (g : Gh) (H : Hp) (s : Sl) (σ : L2.St) : Prop where
  len : s.length = σ.length
  at_ : ∀ (i : Nat) (v : PV), s[i]? = some (some v) → ∃ w, σ[i]? = some (some w) ∧ Rp K g H v w
section
variable {K : PySem.W.Frag} {g g' : Gh} {m m' : Mm} {H H' : Hp} {s : Sl} {σ : L2.St}
theorem Sr.ext (r : Sr K g H s σ) (e : Emb K g m H) (x : Ext g H g' H') : Sr K g' H' s σ :=
  ⟨r.len, fun i v h => let ⟨w, h1, h2⟩ := r.at_ i v h; ⟨w, h1, h2.ext e x⟩⟩
theorem Sr.set (r : Sr K g H s σ) {v : PV} {w : V} (a : Rp K g H v w) (i : Nat) : Sr K g H (s.set i (some v)) (σ.set i (some w)) := by
  refine ⟨by simp [r.len], fun j u h => ?_⟩
  by_cases hj : i = j
  · subst hj
    by_cases hi : i < s.length
    · rw [List.getElem?_set_self hi] at h
      cases h
      exact ⟨w, List.getElem?_set_self (by rw [← r.len]; exact hi), a⟩
    · rw [List.getElem?_eq_none (by simpa using hi)] at h; cases h
  · rw [List.getElem?_set_ne hj] at h
    rw [List.getElem?_set_ne hj]
    exact r.at_ j u h
theorem Sr.unset (r : Sr K g H s σ) (i : Nat) : Sr K g H (s.set i none) (σ.set i none) := by
  refine ⟨by simp [r.len], fun j u h => ?_⟩
  by_cases hj : i = j
  · subst hj
    by_cases hi : i < s.length
    · rw [List.getElem?_set_self hi] at h; cases h
    · rw [List.getElem?_eq_none (by simpa using hi)] at h; cases h
  · rw [List.getElem?_set_ne hj] at h
    rw [List.getElem?_set_ne hj]
    exact r.at_ j u h
theorem Sr.wipe (r : Sr K g H s σ) : ∀ vs : List Nat, Sr K g H (wipe s vs) (L2.wipe σ vs)
  | [] => r
  | v :: vs => (Sr.wipe r vs).unset v
end

/-! ### results -/
abbrev XC := Exn → Mm → Gh → Hp → Prop
def QR (K : PySem.W.Frag) (Ξ : XC) (g : Gh) (H : Hp) {α : Type} (P : α → Prop) : Rs α → Prop
  | .ok a => P a
  | .ex e m => ∀ g' H', Ext g H g' H' → Emb K g' m H' → Ξ e m g' H'
  | .no => False
section
variable {K : PySem.W.Frag} {Ξ : XC} {g g' : Gh} {H H' : Hp}
theorem QR.bind {α β : Type} {r : Rs α} {k : α → Rs β} {P : β → Prop} {P' : α → Prop} (h : QR K Ξ g H P (r.bind k)) (f : ∀ a, r = .ok a → QR K Ξ g H P (k a) → P' a) : QR K Ξ g H P' r := by
  cases r with
  | ok a => exact f a rfl h
  | ex e m => exact h
  | no => exact h
theorem QR.imp {α : Type} {r : Rs α} {P P' : α → Prop} (h : QR K Ξ g H P r) (f : ∀ a, r = .ok a → P a → P' a) : QR K Ξ g H P' r := by
  cases r with
  | ok a => exact f a rfl h
  | ex e m => exact h
  | no => exact h
theorem QR.bindAt {α β : Type} {r : Rs α} {k : α → Rs β} {P : β → Prop} {P' : α → Prop} (x : Ext g H g' H') (h : QR K Ξ g H P (r.bind k)) (f : ∀ a, r = .ok a → QR K Ξ g H P (k a) → P' a) : QR K Ξ g' H' P' r := by
  cases r with
  | ok a => exact f a rfl h
  | ex e m => exact fun g2 H2 x2 e2 => h g2 H2 (x.trans x2) e2
  | no => exact h
theorem QR.later {α : Type} {r : Rs α} {P P' : α → Prop} (x : Ext g H g' H') (h : QR K Ξ g H P r) (f : ∀ a, P a → P' a) : QR K Ξ g' H' P' r := by
  cases r with
  | ok a => exact f a h
  | ex e m => exact fun g2 H2 x2 e2 => h g2 H2 (x.trans x2) e2
  | no => exact h
end
abbrev PEnd (K : PySem.W.Frag) (g : Gh) (H : Hp) (Q : VK) : PV × Mm → Prop := fun p => ∀ g' H' V, Ext g H g' H' → Emb K g' p.2 H' → Rp K g' H' p.1 V → Q V H'
abbrev PEndA (K : PySem.W.Frag) (g : Gh) (H : Hp) (Q : List V → Hp → Prop) : List PV × Mm → Prop := fun p => ∀ g' H' V, Ext g H g' H' → Emb K g' p.2 H' → Rps K g' H' p.1 V → Q V H'
abbrev PEndT (K : PySem.W.Frag) (g : Gh) (H : Hp) (Q : Bool → Hp → Prop) : Bool × Mm → Prop := fun p => ∀ g' H', Ext g H g' H' → Emb K g' p.2 H' → Q p.1 H'
def FlOk (K : PySem.W.Frag) (g : Gh) (H : Hp) (D : Ends) (σ : L2.St) : Fl → Prop
  | .nx => D.nx σ H
  | .bk => D.bk σ H
  | .ct => D.ct σ H
  | .rt v => ∀ V, Rp K g H v V → D.rt V H
abbrev PEndS (K : PySem.W.Frag) (g : Gh) (H : Hp) (D : Ends) : Fl × Sl × Mm → Prop := fun p => ∀ g' H' σ', Ext g H g' H' → Emb K g' p.2.2 H' → Sr K g' H' p.2.1 σ' → FlOk K g' H' D σ' p.1
abbrev QE (K : PySem.W.Frag) (Ξ : XC) (g : Gh) (H : Hp) (Q : VK) (r : Rs (PV × Mm)) : Prop := QR K Ξ g H (PEnd K g H Q) r
abbrev QA (K : PySem.W.Frag) (Ξ : XC) (g : Gh) (H : Hp) (Q : List V → Hp → Prop) (r : Rs (List PV × Mm)) : Prop := QR K Ξ g H (PEndA K g H Q) r
abbrev QT (K : PySem.W.Frag) (Ξ : XC) (g : Gh) (H : Hp) (Q : Bool → Hp → Prop) (r : Rs (Bool × Mm)) : Prop := QR K Ξ g H (PEndT K g H Q) r
abbrev QS (K : PySem.W.Frag) (Ξ : XC) (g : Gh) (H : Hp) (D : Ends) (r : Rs (Fl × Sl × Mm)) : Prop := QR K Ξ g H (PEndS K g H D) r
section
variable {K : PySem.W.Frag} {Ξ : XC} {g g' : Gh} {H H' : Hp}
theorem QE.later {Q : VK} {r : Rs (PV × Mm)} (x : Ext g H g' H') (h : QE K Ξ g H Q r) : QE K Ξ g' H' Q r := QR.later x h fun _ p g2 H2 V x2 => p g2 H2 V (x.trans x2)
theorem QA.later {Q : List V → Hp → Prop} {r : Rs (List PV × Mm)} (x : Ext g H g' H') (h : QA K Ξ g H Q r) : QA K Ξ g' H' Q r := QR.later x h fun _ p g2 H2 V x2 => p g2 H2 V (x.trans x2)
theorem QT.later {Q : Bool → Hp → Prop} {r : Rs (Bool × Mm)} (x : Ext g H g' H') (h : QT K Ξ g H Q r) : QT K Ξ g' H' Q r := QR.later x h fun _ p g2 H2 x2 => p g2 H2 (x.trans x2)
theorem QS.later {D : Ends} {r : Rs (Fl × Sl × Mm)} (x : Ext g H g' H') (h : QS K Ξ g H D r) : QS K Ξ g' H' D r := QR.later x h fun _ p g2 H2 V x2 => p g2 H2 V (x.trans x2)
end

/-! ### readings -/
def rdE (K : PySem.W.Frag) (Ξ : XC) (f : SE) : TE := fun σ H Q => ∃ g s m, Emb K g m H ∧ Sr K g H s σ ∧ QE K Ξ g H Q (f s m)
def rdA (K : PySem.W.Frag) (Ξ : XC) (f : SA) : TA := fun σ H Q => ∃ g s m, Emb K g m H ∧ Sr K g H s σ ∧ QA K Ξ g H Q (f s m)
def rdT (K : PySem.W.Frag) (Ξ : XC) (f : ST) : TT := fun σ H Q => ∃ g s m, Emb K g m H ∧ Sr K g H s σ ∧ QT K Ξ g H Q (f s m)
def rdS (K : PySem.W.Frag) (Ξ : XC) (f : SS) : TS := fun D σ H => ∃ g s m, Emb K g m H ∧ Sr K g H s σ ∧ QS K Ξ g H D (f s m)
/-- by values -/
def rd1 (K : PySem.W.Frag) (Ξ : XC) (f : O1) : V → Hp → VK → Prop := fun x H Q => ∃ g m a, Emb K g m H ∧ Rp K g H a x ∧ QE K Ξ g H Q (f a m)
def rd2 (K : PySem.W.Frag) (Ξ : XC) (f : O2) : R2 := fun x y H Q => ∃ g m a b, Emb K g m H ∧ Rp K g H a x ∧ Rp K g H b y ∧ QE K Ξ g H Q (f a b m)
def rdN (K : PySem.W.Frag) (Ξ : XC) (f : ON) : List V → Hp → VK → Prop := fun xs H Q => ∃ g m as, Emb K g m H ∧ Rps K g H as xs ∧ QE K Ξ g H Q (f as m)

theorem PE_imp {X : Cx} {e : Expr} {t t' : TE} (h : PE X e t) (f : ∀ σ H Q, t' σ H Q → t σ H Q) : PE X e t' := ⟨fun pins s σ H Q I q => h.run pins s σ H Q I (f σ H Q q)⟩
theorem PT_imp {X : Cx} {e : Expr} {t t' : TT} (h : PT X e t) (f : ∀ σ H Q, t' σ H Q → t σ H Q) : PT X e t' := ⟨fun pins s σ H Q I q => h.run pins s σ H Q I (f σ H Q q)⟩
theorem PW_imp {X : Cx} {e : Expr} {t t' : TT} (h : PW X e t) (f : ∀ σ H Q, t' σ H Q → t σ H Q) : PW X e t' := ⟨fun wh pins s σ H Q I q => h.run wh pins s σ H Q I (f σ H Q q)⟩
theorem PA_imp {X : Cx} {e : List Expr} {t t' : TA} (h : PA X e t) (f : ∀ σ H Q, t' σ H Q → t σ H Q) : PA X e t' := ⟨fun pos pins s σ H Q I q => h.run pos pins s σ H Q I (f σ H Q q)⟩
theorem PS_imp {X : Cx} {e : Stmt} {t t' : TS} (h : PS X e t) (f : ∀ D σ H, t' D σ H → t D σ H) : PS X e t' := ⟨fun pins s σ H D I q => h.run pins s σ H D I (f D σ H q)⟩
theorem PSs_imp {X : Cx} {e : List Stmt} {t t' : TS} (h : PSs X e t) (f : ∀ D σ H, t' D σ H → t D σ H) : PSs X e t' := ⟨fun pins s σ H D I q => h.run pins s σ H D I (f D σ H q)⟩
theorem PG_imp {X : Cx} {e : Expr} {t t' : TG} (h : PG X e t) (f : ∀ v σ H Q, t' v σ H Q → t v σ H Q) : PG X e t' := ⟨fun pins s σ H v u Q I r q => h.run pins s σ H v u Q I r (f v σ H Q q)⟩
theorem OpR_imp {X : Cx} {f : Value → Value → Sem Value} {r r' : R2} (h : OpR X f r) (i : ∀ x y H Q, r' x y H Q → r x y H Q) : OpR X f r' := fun pins s σ H x y v u Q I rx ry q => h pins s σ H x y v u Q I rx ry (i _ _ _ _ q)
theorem CallR_imp {X : Cx} {f : Value} {r r' : List V → Hp → VK → Prop} (h : CallR X f r) (i : ∀ xs H Q, r' xs H Q → r xs H Q) : CallR X f r' := fun pins s σ H xs us Q I rx q => h pins s σ H xs us Q I rx (i _ _ _ q)
end TT
end

section
set_option Elab.async false
set_option linter.all false
set_option autoImplicit false
set_option maxRecDepth 100000
/-! TT: new objects, writes, operators by values -/
namespace TT
open PySem PySem.Spec PyProof.Rows L2

section
variable {K : PySem.W.Frag} {g g' : Gh} {m m' : Mm} {H H' : Hp}
/-! ### new objects, writes -/
theorem Ext.newTup {p : Addr} {o : HO} (hp : H p = none) (ht : ¬ ∃ n, g.φ n = some p) : Ext g H g (upd H p o) :=
  ⟨fun _ _ h => h, fun _ _ h => h, fun a u h _ => by rw [upd_ne (ne_of_none h hp)]; exact h, fun _ _ _ h => h, fun _ _ _ _ h => h⟩
theorem Emb.free (e : Emb K g m H) {p : Addr} (hp : H p = none) : ∀ n, g.φ n ≠ some p := fun n h => by
  obtain ⟨_, u, hu, _⟩ := e.dom n p h
  rw [hp] at hu; cases hu
theorem Emb.freeR (e : Emb K g m H) {p : Addr} (hp : H p = none) : g.ro p = none := by
  cases q : g.ro p with
  | none => rfl
  | some u =>
    have := (e.ro p u q).1
    rw [hp] at this; cases this
theorem Emb.new_tup (e : Emb K g m H) {p : Addr} {xs : List PV} {vs : List V} (hp : H p = none) (r : Rps K g H xs vs) :
    Ext g H g (upd H p (.tup vs)) ∧ Emb K g m (upd H p (.tup vs)) ∧ Rp K g (upd H p (.tup vs)) (.tup xs) (.ref p) := by
  have x : Ext g H g (upd H p (.tup vs)) := Ext.newTup hp fun ⟨n, h⟩ => e.free hp n h
  refine ⟨x, ⟨fun n o h => ?_, fun n a h => ?_, e.inj, fun a u h => ?_⟩, .tup (.inl (.inl upd_same)) (r.ext e x)⟩
  · have q := e.obj n o h
    cases o with
    | lst ys =>
      obtain ⟨a, ws, h1, h2, h3⟩ := q
      exact ⟨a, ws, h1, by rw [upd_ne (ne_of_none h2 hp)]; exact h2, h3.ext e x⟩
    | dict => exact q
    | dead => trivial
  · obtain ⟨h1, u, h2, h3⟩ := e.dom n a h
    exact ⟨h1, u, by rw [upd_ne (ne_of_none h2 hp)]; exact h2, h3⟩
  · obtain ⟨h1, h2⟩ := e.ro a u h
    exact ⟨by rw [upd_ne (ne_of_none h1 hp)]; exact h1, h2⟩
def Gh.addR (g : Gh) (p : Addr) (o : HO) : Gh := ⟨g.φ, upd g.ro p o⟩
theorem Emb.new_vl (e : Emb K g m H) {p : Addr} {xs : List PV} {vs : List V} (hp : H p = none) (r : Rps K g H xs vs) :
    Ext g H (g.addR p (.lst vs)) (upd H p (.lst vs)) ∧ Emb K (g.addR p (.lst vs)) m (upd H p (.lst vs)) ∧ Rp K (g.addR p (.lst vs)) (upd H p (.lst vs)) (.vl xs) (.ref p) := by
  have x : Ext g H (g.addR p (.lst vs)) (upd H p (.lst vs)) :=
    ⟨fun _ _ h => h, fun a u h => by
      have : a ≠ p := fun z => by subst z; rw [e.freeR hp] at h; cases h
      show upd g.ro p _ a = some u
      rw [upd_ne this]; exact h, fun a u h _ => by rw [upd_ne (ne_of_none h hp)]; exact h, fun _ _ _ h => h, fun a u h _ hr => by
      show upd g.ro p _ a = none
      rw [upd_ne (ne_of_none h hp)]; exact hr⟩
  refine ⟨x, ⟨fun n o h => ?_, fun n a h => ?_, e.inj, fun a u h => ?_⟩, .vl upd_same (r.ext e x)⟩
  · have q := e.obj n o h
    cases o with
    | lst ys =>
      obtain ⟨a, ws, h1, h2, h3⟩ := q
      exact ⟨a, ws, h1, by rw [upd_ne (ne_of_none h2 hp)]; exact h2, h3.ext e x⟩
    | dict => exact q
    | dead => trivial
  · obtain ⟨h1, u, h2, h3⟩ := e.dom n a h
    exact ⟨h1, u, by rw [upd_ne (ne_of_none h2 hp)]; exact h2, h3⟩
  · by_cases ha : a = p
    · subst ha
      have h' : upd g.ro a (.lst vs) a = some u := h
      rw [upd_same] at h'; cases h'
      exact ⟨upd_same, fun n hn => (e.free hp n hn).elim⟩
    · have h' : upd g.ro p (.lst vs) a = some u := h
      rw [upd_ne ha] at h'
      obtain ⟨h1, h2⟩ := e.ro a u h'
      exact ⟨by rw [upd_ne ha]; exact h1, h2⟩
def Gh.addP (g : Gh) (k : Nat) (p : Addr) : Gh := ⟨fun n => if n = k then some p else g.φ n, g.ro⟩
theorem Emb.fresh_id (e : Emb K g m H) : g.φ m.length = none := by
  cases q : g.φ m.length with
  | none => rfl
  | some a => exact absurd (e.dom _ _ q).1 (Nat.lt_irrefl _)
theorem Emb.new_lst (e : Emb K g m H) {p : Addr} {xs : List PV} {vs : List V} (hp : H p = none) (r : Rps K g H xs vs) :
    Ext g H (g.addP m.length p) (upd H p (.lst vs)) ∧ Emb K (g.addP m.length p) (m ++ [.lst xs]) (upd H p (.lst vs)) ∧ Rp K (g.addP m.length p) (upd H p (.lst vs)) (.ref m.length) (.ref p) := by
  have x : Ext g H (g.addP m.length p) (upd H p (.lst vs)) :=
    ⟨fun n a h => by
      have : n ≠ m.length := fun z => by subst z; rw [e.fresh_id] at h; cases h
      show (if n = m.length then some p else g.φ n) = some a
      rw [if_neg this]; exact h, fun a u h => h, fun a u h _ => by rw [upd_ne (ne_of_none h hp)]; exact h, fun a u h hn n => by
      show (if n = m.length then some p else g.φ n) ≠ some a
      split
      · intro z; cases z; rw [hp] at h; cases h
      · exact hn n, fun _ _ _ _ h => h⟩
  refine ⟨x, ⟨fun n o h => ?_, fun n a h => ?_, fun n k a h1 h2 => ?_, fun a u h => ?_⟩, .ref (by show (if m.length = m.length then some p else _) = _; rw [if_pos rfl])⟩
  · by_cases hn : n < m.length
    · rw [List.getElem?_append_left hn] at h
      have q := e.obj n o h
      cases o with
      | lst ys =>
        obtain ⟨a, ws, h1, h2, h3⟩ := q
        exact ⟨a, ws, x.phi _ _ h1, by rw [upd_ne (ne_of_none h2 hp)]; exact h2, h3.ext e x⟩
      | dict => exact q
      | dead => trivial
    · have hle : m.length ≤ n := Nat.le_of_not_lt hn
      rw [List.getElem?_append_right hle] at h
      have h0 : n - m.length = 0 := by
        cases hk : n - m.length with
        | zero => rfl
        | succ j => rw [hk] at h; simp at h
      rw [h0] at h
      have hnm : n = m.length := by omega
      simp at h
      subst h
      subst hnm
      exact ⟨p, vs, by show (if m.length = m.length then some p else _) = _; rw [if_pos rfl], upd_same, r.ext e x⟩
  · have h' : (if n = m.length then some p else g.φ n) = some a := h
    rw [List.length_append, List.length_singleton]
    split at h'
    · cases h'
      exact ⟨by omega, _, upd_same, trivial⟩
    · obtain ⟨h1, u, h2, h3⟩ := e.dom n a h'
      exact ⟨by omega, u, by rw [upd_ne (ne_of_none h2 hp)]; exact h2, h3⟩
  · have h1' : (if n = m.length then some p else g.φ n) = some a := h1
    have h2' : (if k = m.length then some p else g.φ k) = some a := h2
    split at h1' <;> split at h2'
    · omega
    · cases h1'; exact (e.free hp _ h2').elim
    · cases h2'; exact (e.free hp _ h1').elim
    · exact e.inj n k a h1' h2'
  · obtain ⟨h1, h2⟩ := e.ro a u h
    refine ⟨by rw [upd_ne (ne_of_none h1 hp)]; exact h1, fun n hn => ?_⟩
    have hn' : (if n = m.length then some p else g.φ n) = some a := hn
    split at hn'
    · cases hn'; rw [hp] at h1; cases h1
    · have q := h2 n hn'
      have : n < m.length := (e.dom n a hn').1
      rw [List.getElem?_append_left this]; exact q
/-- a list in the memory is written -/
theorem Emb.wr_lst (e : Emb K g m H) {n : Nat} {a : Addr} {xs ys : List PV} {ws : List V} (hm : m[n]? = some (.lst xs)) (ha : g.φ n = some a) (r : Rps K g H ys ws) :
    Ext g H g (upd H a (.lst ws)) ∧ Emb K g (m.set n (.lst ys)) (upd H a (.lst ws)) := by
  have x : Ext g H g (upd H a (.lst ws)) := ⟨fun _ _ h => h, fun _ _ h => h, fun b u h hb => by
    rw [upd_ne (fun z => hb n (by rw [z]; exact ha))]; exact h, fun _ _ _ h => h, fun _ _ _ _ h => h⟩
  have hlt : n < m.length := (List.getElem?_eq_some_iff.mp hm).1
  refine ⟨x, fun k o h => ?_, fun k b h => ?_, e.inj, fun b u h => ?_⟩
  · by_cases hk : n = k
    · subst hk
      rw [List.getElem?_set_self hlt] at h
      cases h
      exact ⟨a, ws, ha, upd_same, r.ext e x⟩
    · rw [List.getElem?_set_ne hk] at h
      have q := e.obj k o h
      cases o with
      | lst zs =>
        obtain ⟨b, us, h1, h2, h3⟩ := q
        refine ⟨b, us, h1, ?_, h3.ext e x⟩
        rw [upd_ne (fun z => hk (e.inj n k a ha (by rw [← z]; exact h1)))]
        exact h2
      | dict => exact q
      | dead => trivial
  · obtain ⟨h1, u, h2, h3⟩ := e.dom k b h
    rw [List.length_set]
    by_cases hb : b = a
    · subst hb; exact ⟨h1, _, upd_same, trivial⟩
    · exact ⟨h1, u, by rw [upd_ne hb]; exact h2, h3⟩
  · obtain ⟨h1, h2⟩ := e.ro b u h
    have hb : b ≠ a := fun z => by
      subst z
      have := h2 n ha
      rw [hm] at this; cases this
    refine ⟨by rw [upd_ne hb]; exact h1, fun k hk => ?_⟩
    have q := h2 k hk
    have hkn : n ≠ k := fun z => by subst z; rw [hm] at q; cases q
    rw [List.getElem?_set_ne hkn]; exact q
/-- a list in the memory becomes a value -/
theorem Emb.freeze (e : Emb K g m H) {n : Nat} {a : Addr} {xs : List PV} (hm : m[n]? = some (.lst xs)) (ha : g.φ n = some a) :
    ∃ g', Ext g H g' H ∧ Emb K g' (m.set n .dead) H ∧ Rp K g' H (.vl xs) (.ref a) := by
  obtain ⟨a', vs, h1, h2, h3⟩ := e.obj n _ hm
  rw [ha] at h1; cases h1
  have hlt : n < m.length := (List.getElem?_eq_some_iff.mp hm).1
  have hro : g.ro a = none := by
    cases q : g.ro a with
    | none => rfl
    | some u =>
      have := (e.ro a u q).2 n ha
      rw [hm] at this; cases this
  have x : Ext g H (g.addR a (.lst vs)) H := ⟨fun _ _ h => h, fun b u h => by
    have : b ≠ a := fun z => by subst z; rw [hro] at h; cases h
    show upd g.ro a _ b = some u
    rw [upd_ne this]; exact h, fun _ _ h _ => h, fun _ _ _ h => h, fun b u h hb hr => by
    show upd g.ro a _ b = none
    rw [upd_ne (fun z => hb n (by rw [z]; exact ha))]; exact hr⟩
  refine ⟨g.addR a (.lst vs), x, ⟨fun k o h => ?_, fun k b h => ?_, e.inj, fun b u h => ?_⟩, .vl upd_same (h3.ext e x)⟩
  · by_cases hk : n = k
    · subst hk
      rw [List.getElem?_set_self hlt] at h
      cases h; trivial
    · rw [List.getElem?_set_ne hk] at h
      have q := e.obj k o h
      cases o with
      | lst zs =>
        obtain ⟨b, us, q1, q2, q3⟩ := q
        exact ⟨b, us, q1, q2, q3.ext e x⟩
      | dict => exact q
      | dead => trivial
  · obtain ⟨q1, q2⟩ := e.dom k b h
    exact ⟨by rw [List.length_set]; exact q1, q2⟩
  · have h' : upd g.ro a (.lst vs) b = some u := h
    by_cases hb : b = a
    · subst hb
      rw [upd_same] at h'; cases h'
      refine ⟨h2, fun k hk => ?_⟩
      have : k = n := e.inj k n b hk ha
      subst this
      exact List.getElem?_set_self hlt
    · rw [upd_ne hb] at h'
      obtain ⟨q1, q2⟩ := e.ro b u h'
      refine ⟨q1, fun k hk => ?_⟩
      have q := q2 k hk
      by_cases hkn : n = k
      · subst hkn; exact List.getElem?_set_self hlt
      · rw [List.getElem?_set_ne hkn]; exact q
end

/-! ### ends -/
section
variable {K : PySem.W.Frag} {Ξ : XC} {g g' : Gh} {m m' : Mm} {H H' : Hp} {Q : VK}
theorem QE.ret {v : PV} {w : V} (e : Emb K g m H) (r : Rp K g H v w) (h : QE K Ξ g H Q (.ok (v, m))) : Q w H := h g H w (Ext.refl _ _) e r
theorem QE.newT {xs : List PV} {vs : List V} (e : Emb K g m H) (r : Rps K g H xs vs) (h : QE K Ξ g H Q (.ok (.tup xs, m))) {p : Addr} (hp : H p = none) : Q (.ref p) (upd H p (.tup vs)) :=
  let ⟨a, b, c⟩ := e.new_tup hp r; h _ _ _ a b c
theorem QE.newL {xs : List PV} {vs : List V} (e : Emb K g m H) (r : Rps K g H xs vs) (h : QE K Ξ g H Q (.ok (.vl xs, m))) {p : Addr} (hp : H p = none) : Q (.ref p) (upd H p (.lst vs)) :=
  let ⟨a, b, c⟩ := e.new_vl hp r; h _ _ _ a b c
theorem QE.newM {xs : List PV} {vs : List V} (e : Emb K g m H) (r : Rps K g H xs vs) (h : QE K Ξ g H Q (.ok (.ref m.length, m ++ [.lst xs]))) {p : Addr} (hp : H p = none) : Q (.ref p) (upd H p (.lst vs)) :=
  let ⟨a, b, c⟩ := e.new_lst hp r; h _ _ _ a b c
end
theorem line_le {n : Nat} (h : n ≤ LINE) : n ≤ sizeLine := Nat.le_trans h (by rw [sizeLine_eq]; decide)
theorem line_lt {n : Nat} (h : n < LINE) : n < sizeLine := Nat.lt_of_lt_of_le h (by rw [sizeLine_eq]; decide)

/-! ### operators -/
section
variable {X : Cx} {Ξ : XC}
theorem op_tAdd : OpR X (binaryOp .Add) (rd2 X.K Ξ oAdd) := by
  have h := ((op_add (X := X)).or (op_add_str.or (op_catA.or op_cat)))
  refine OpR_imp h fun x y H Q ⟨g, m, a, b, e, ra, rb, q⟩ => ?_
  unfold oAdd at q
  split at q
  · rename_i i j h1 h2
    rw [look1_int h1] at ra
    rw [look1_int h2] at rb
    cases ra.int_inv; cases rb.int_inv
    exact .inl ⟨i, j, rfl, rfl, QE.ret e (.int _) q⟩
  · rename_i xs ys h1 h2
    obtain ⟨a1, vs, rfl, ha, r1⟩ := e.look ra h1
    obtain ⟨b1, ws, rfl, hb, r2⟩ := e.look rb h2
    split at q
    · rename_i hl
      exact .inr (.inr (.inr ⟨a1, b1, vs, ws, rfl, rfl, ha, hb, by rw [← r1.length, ← r2.length]; exact line_le hl, fun p hp => QE.newL e (r1.append r2) q hp⟩))
    · exact q.elim
  · rename_i xs ys h1 h2
    rw [look1_str h1] at ra
    rw [look1_str h2] at rb
    cases ra.str_inv; cases rb.str_inv
    split at q
    · rename_i hl
      refine .inr (.inl ⟨_, _, rfl, rfl, ?_, ?_⟩)
      · show xs.toArray.size + ys.toArray.size ≤ sizeLine
        simpa using line_le hl
      · have := QE.ret e (.str (xs ++ ys)) q
        have ee : (⟨xs.toArray⟩ : Str) ++ (⟨ys.toArray⟩ : Str) = ⟨(xs ++ ys).toArray⟩ := by
          show Str.append _ _ = _
          unfold Str.append
          simp
        rw [ee]; exact this
    · exact q.elim
  · rename_i xs ys h1 h2
    rw [look1_tup h1] at ra
    rw [look1_tup h2] at rb
    obtain ⟨a1, vs, rfl, ha, r1⟩ := ra.tup_inv
    obtain ⟨b1, ws, rfl, hb, r2⟩ := rb.tup_inv
    split at q
    · rename_i hl
      refine .inr (.inr (.inl ⟨a1, b1, vs, ws, rfl, rfl, ha, hb, by rw [← r1.length, ← r2.length]; exact line_le hl, fun z => ?_, fun _ z => ?_, fun _ _ p hp => QE.newT e (r1.append r2) q hp⟩))
      · subst z
        cases r1
        exact QE.ret e (.tup hb r2) q
      · subst z
        cases r2
        rw [List.append_nil] at q
        exact QE.ret e (.tup ha r1) q
    · exact q.elim
  · exact q.elim
theorem op_tSub : OpR X (binaryOp .Sub) (rd2 X.K Ξ oSub) := by
  refine OpR_imp op_sub fun x y H Q ⟨g, m, a, b, e, ra, rb, q⟩ => ?_
  unfold oSub at q
  split at q
  · cases ra.int_inv; cases rb.int_inv
    exact ⟨_, _, rfl, rfl, QE.ret e (.int _) q⟩
  · exact q.elim
theorem op_tFDiv : OpR X (binaryOp .FloorDiv) (rd2 X.K Ξ oFDiv) := by
  refine OpR_imp op_fdiv fun x y H Q ⟨g, m, a, b, e, ra, rb, q⟩ => ?_
  unfold oFDiv at q
  split at q
  · cases ra.int_inv; cases rb.int_inv
    split at q
    · rename_i hc
      simp only [Bool.and_eq_true, decide_eq_true_eq] at hc
      exact ⟨_, _, rfl, rfl, hc, QE.ret e (.int _) q⟩
    · exact q.elim
  · exact q.elim
theorem op_tMod : OpR X (binaryOp .Mod) (rd2 X.K Ξ oMod) := by
  refine OpR_imp op_mod fun x y H Q ⟨g, m, a, b, e, ra, rb, q⟩ => ?_
  unfold oMod at q
  split at q
  · cases ra.int_inv; cases rb.int_inv
    split at q
    · rename_i hc
      simp only [decide_eq_true_eq] at hc
      exact ⟨_, _, rfl, rfl, hc, QE.ret e (.int _) q⟩
    · exact q.elim
  · exact q.elim
theorem op_tPow : OpR X (binaryOp .Pow) (rd2 X.K Ξ oPow) := by
  refine OpR_imp op_pow fun x y H Q ⟨g, m, a, b, e, ra, rb, q⟩ => ?_
  unfold oPow at q
  split at q
  · cases ra.int_inv; cases rb.int_inv
    split at q
    · rename_i hc
      simp only [Bool.and_eq_true, decide_eq_true_eq] at hc
      exact ⟨_, _, rfl, rfl, ⟨hc.1.1, by omega, hc.2⟩, QE.ret e (.int _) q⟩
    · exact q.elim
  · exact q.elim
theorem op_tCmp {op : CmpOp} {p : Int → Int → Bool} (h : OpR X (compareOp op) (rI0 fun i j => .bl (p i j))) : OpR X (compareOp op) (rd2 X.K Ξ (oCmp p)) := by
  refine OpR_imp h fun x y H Q ⟨g, m, a, b, e, ra, rb, q⟩ => ?_
  unfold oCmp at q
  split at q
  · cases ra.int_inv; cases rb.int_inv
    exact ⟨_, _, rfl, rfl, QE.ret e (.bl _) q⟩
  · exact q.elim
theorem op_tLt : OpR X (compareOp .Lt) (rd2 X.K Ξ oLt) := op_tCmp op_lt
theorem op_tLe : OpR X (compareOp .LtE) (rd2 X.K Ξ oLe) := op_tCmp op_le
theorem op_tGt : OpR X (compareOp .Gt) (rd2 X.K Ξ oGt) := op_tCmp op_gt
theorem op_tGe : OpR X (compareOp .GtE) (rd2 X.K Ξ oGe) := op_tCmp op_ge
end
end TT
end

section
set_option Elab.async false
set_option linter.all false
set_option autoImplicit false
set_option maxRecDepth 100000
/-! TT: * of tuples and lists by any small number -/
namespace TT
open PySem PySem.Spec PyProof.Rows L2
set_option maxHeartbeats 4000000
theorem tuple_mulS (l : Addr) (items : Array Value) (n : Nat) (dd : Option Addr) (sl : Array (Option Value)) (x : Int) (u : Tok) (c0 : (decide (x < -(2 ^ 63)) || decide (x ≥ 2 ^ 63)) = false) (c1 : (items.isEmpty || x == 1) = true) :
    Meets (Builtin.«tuple.__mul__» ⟨[.ref l, .int x u], []⟩) (fun _ R s => s.heap.get? l = some { cls := .type "tuple", dict := dd, data := .seq items n, slots := sl } ∧
      R (.ok (.ret (Value.ref l))) s) :=
  .of_wp fun prog w A R s h => by
    obtain ⟨hp, g, d, tk, os⟩ := s
    obtain ⟨hl, h⟩ := h
    have f1 := AutoSeq1.idx_int
    wp_walk using wpAny_loadPart' hl
    repeat (first
      | (refine wpAny_ite_false (decide_eq_false (by rw [c0]; exact Bool.false_ne_true)) ?_; wp_walk using wpAny_loadPart' hl)
      | (refine wpAny_ite_true (decide_eq_true c1) ?_; wp_walk using wpAny_loadPart' hl))
    exact ⟨_, rfl, h⟩
theorem tuple_mulZ (l : Addr) (items : Array Value) (n : Nat) (dd : Option Addr) (sl : Array (Option Value)) (x : Int) (u : Tok) (c0 : (decide (x < -(2 ^ 63)) || decide (x ≥ 2 ^ 63)) = false) (c1 : (items.isEmpty || x == 1) = false) (c2 : (decide (x ≤ 0) || items.isEmpty) = true) :
    Meets (Builtin.«tuple.__mul__» ⟨[.ref l, .int x u], []⟩) (fun _ R s => s.heap.get? l = some { cls := .type "tuple", dict := dd, data := .seq items n, slots := sl } ∧
      R (.ok (.ret (Value.ref s.heap.objs.size))) { s with heap := s.heap.push { cls := Value.type "tuple", data := Data.seq #[] }, toks := s.toks }) :=
  .of_wp fun prog w A R s h => by
    obtain ⟨hp, g, d, tk, os⟩ := s
    obtain ⟨hl, h⟩ := h
    have f1 := AutoSeq1.idx_int
    wp_walk using wpAny_loadPart' hl
    repeat (first
      | (refine wpAny_ite_false (decide_eq_false (by rw [c0]; exact Bool.false_ne_true)) ?_; wp_walk using wpAny_loadPart' hl)
      | (refine wpAny_ite_false (decide_eq_false (by rw [c1]; exact Bool.false_ne_true)) ?_; wp_walk using wpAny_loadPart' hl)
      | (refine wpAny_ite_true (decide_eq_true c2) ?_; wp_walk using wpAny_loadPart' hl))
    exact ⟨_, rfl, h⟩
section
variable {X : Cx} {Ξ : XC}
theorem op_repS : OpR X (binaryOp .Mult) (fun x y H Q => ∃ l k xs, x = .ref l ∧ y = .int k ∧ SqT X.K H l xs ∧ -1000 ≤ k ∧ k ≤ 1000 ∧ (xs = [] ∨ k = 1) ∧ Q (.ref l) H) := by
  intro pins s σ H x y v u Q I rx ry h
  obtain ⟨l, k, xs, rfl, rfl, hT, h1, h2, hc, q⟩ := h
  cases rx
  obtain ⟨t, rfl⟩ := ry
  obtain ⟨its, r, ⟨⟨cls, dd, data, sl⟩, ho, hc', n, hd⟩, hs⟩ := I.tuple hT
  simp only at hc' hd
  subst hc' hd
  have c0 : (decide (k < -(2 ^ 63)) || decide (k ≥ 2 ^ 63)) = false := by
    rw [decide_eq_false (by omega), decide_eq_false (by omega)] <;> rfl
  have c1 : (its.toArray.isEmpty || k == 1) = true := by
    rcases hc with hc | hc
    · subst hc
      have := r.length
      have e : its = [] := List.eq_nil_of_length_eq_zero this.symm
      subst e; rfl
    · subst hc; simp
  exact wpAny_binaryOp_repeat_ref (T := "tuple") (U := "int") (by decide) ⟨_, ho, rfl⟩ (fun s' => typeIs_int s' k t) noFill_tuple_mul F.fills_int_mul F.slot_int_rmul repeat_tuple F.slot_int_index.lookup
    (call_meets F.slot_int_rmul (typeIs_int s k t) F.entry_int_rmul (F.args_int_rmul_2 _ _) (int_rmul_tuple k t l its.toArray n dd sl)
      ⟨ho, rfl, ⟨_, ho, rfl⟩, call_meets F.slot_tuple_mul ⟨_, ho, rfl⟩ F.entry_tuple_mul (F.args_tuple_mul_2 _ _) (tuple_mulS l its.toArray n dd sl k t c0 c1) ⟨ho, ⟨.ref l, H, I, rfl, q⟩⟩⟩)
theorem op_repZ : OpR X (binaryOp .Mult) (fun x y H Q => ∃ l k xs, x = .ref l ∧ y = .int k ∧ SqT X.K H l xs ∧ xs ≠ [] ∧ -1000 ≤ k ∧ k ≤ 0 ∧ ∀ p, H p = none → Q (.ref p) (upd H p (.tup []))) := by
  intro pins s σ H x y v u Q I rx ry h
  obtain ⟨l, k, xs, rfl, rfl, hT, hne, h1, h2, q⟩ := h
  cases rx
  obtain ⟨t, rfl⟩ := ry
  obtain ⟨its, r, ⟨⟨cls, dd, data, sl⟩, ho, hc', n, hd⟩, hs⟩ := I.tuple hT
  simp only at hc' hd
  subst hc' hd
  have hi : its.toArray.isEmpty = false := by
    cases its with
    | nil => exact absurd (List.eq_nil_of_length_eq_zero r.length) hne
    | cons a b => rfl
  have c0 : (decide (k < -(2 ^ 63)) || decide (k ≥ 2 ^ 63)) = false := by
    rw [decide_eq_false (by omega), decide_eq_false (by omega)] <;> rfl
  have c1 : (its.toArray.isEmpty || k == 1) = false := by
    rw [hi, Bool.false_or]
    exact beq_eq_false_iff_ne.mpr (by omega)
  have c2 : (decide (k ≤ 0) || its.toArray.isEmpty) = true := by
    rw [decide_eq_true h2]; rfl
  exact wpAny_binaryOp_repeat_ref (T := "tuple") (U := "int") (by decide) ⟨_, ho, rfl⟩ (fun s' => typeIs_int s' k t) noFill_tuple_mul F.fills_int_mul F.slot_int_rmul repeat_tuple F.slot_int_index.lookup
    (call_meets F.slot_int_rmul (typeIs_int s k t) F.entry_int_rmul (F.args_int_rmul_2 _ _) (int_rmul_tuple k t l its.toArray n dd sl)
      ⟨ho, rfl, ⟨_, ho, rfl⟩, call_meets F.slot_tuple_mul ⟨_, ho, rfl⟩ F.entry_tuple_mul (F.args_tuple_mul_2 _ _) (tuple_mulZ l its.toArray n dd sl k t c0 c1 c2) ⟨ho, by
        refine ⟨.ref s.heap.objs.size, _, I.laid (t' := s.toks) (o := .tup []) (fun b ob q => Heap.get?_push_of_some _ q) (Nat.le_refl _) ?_, rfl, q _ (I.hok.fresh (Nat.le_refl _))⟩
        exact ⟨Nat.zero_le _, [], .nil, IsTup.new _ _⟩⟩⟩)
theorem op_tMul : OpR X (binaryOp .Mult) (rd2 X.K Ξ oMul) := by
  have h := ((op_mul (X := X)).or (op_rep.or (op_repT.or (op_repS.or op_repZ))))
  refine OpR_imp h fun x y H Q ⟨g, m, a, b, e, ra, rb, q⟩ => ?_
  unfold oMul at q
  split at q
  · rename_i i j h1
    rw [look1_int h1] at ra
    cases ra.int_inv; cases rb.int_inv
    split at q
    · rename_i hc
      refine .inl ⟨i, j, rfl, rfl, ?_, QE.ret e (.int _) q⟩
      simp only [within64, Bool.or_eq_true, Bool.and_eq_true, decide_eq_true_eq] at hc
      exact hc
    · exact q.elim
  · rename_i xs k h1
    obtain ⟨a1, vs, rfl, ha, r1⟩ := e.look ra h1
    cases rb.int_inv
    split at q
    · rename_i hc
      simp only [Bool.and_eq_true, decide_eq_true_eq] at hc
      obtain ⟨⟨c1, c2⟩, c3⟩ := hc
      refine .inr (.inl ⟨a1, k, vs, rfl, rfl, ha, by omega, by omega, ?_, fun p hp => QE.newL e (r1.rep k.toNat) q hp⟩)
      rw [← r1.length, sizeLine_eq]
      have : xs.length * k.toNat ≤ 1000 * 1000 := Nat.mul_le_mul c3 (by omega)
      omega
    · exact q.elim
  · rename_i xs k h1
    rw [look1_tup h1] at ra
    obtain ⟨a1, vs, rfl, ha, r1⟩ := ra.tup_inv
    cases rb.int_inv
    split at q
    · rename_i hc
      simp only [Bool.and_eq_true, decide_eq_true_eq] at hc
      obtain ⟨⟨c1, c2⟩, c3⟩ := hc
      by_cases hs : vs = [] ∨ k = 1
      · refine .inr (.inr (.inr (.inl ⟨a1, k, vs, rfl, rfl, ha, c2, c1, hs, ?_⟩)))
        have : rep xs k = xs := by
          unfold rep
          rcases hs with hs | hs
          · subst hs
            cases r1
            simp
          · subst hs
            simp
        rw [this] at q
        exact QE.ret e (.tup ha r1) q
      · have hne : vs ≠ [] := fun z => hs (.inl z)
        have hk : k ≠ 1 := fun z => hs (.inr z)
        by_cases h0 : k ≤ 0
        · refine .inr (.inr (.inr (.inr ⟨a1, k, vs, rfl, rfl, ha, hne, c2, h0, fun p hp => ?_⟩)))
          have hz : k.toNat = 0 := by omega
          have : rep xs k = [] := by unfold rep; rw [hz]; rfl
          rw [this] at q
          exact QE.newT e .nil q hp
        · refine .inr (.inr (.inl ⟨a1, k, vs, rfl, rfl, ha, hne, by omega, c1, by rw [← r1.length]; exact c3, fun p hp => QE.newT e (r1.rep k.toNat) q hp⟩))
    · exact q.elim
  · exact q.elim
end
end TT
end

section
set_option Elab.async false
set_option linter.all false
set_option autoImplicit false
set_option maxRecDepth 100000
/-! TT: ==, !=, in, is -/
namespace TT
open PySem PySem.Spec PyProof.Rows L2
mutual
def toD : PV → PyData
  | .non => .none
  | .bl b => .bool b
  | .int i => .int i
  | .str l => .str ⟨l.toArray⟩
  | .tup xs => .tuple (toDs xs)
  | .vl xs => .list (toDs xs)
  | _ => .none
def toDs : List PV → List PyData
  | [] => []
  | x :: xs => toD x :: toDs xs
end
theorem strEq (x y : List Nat) : ((⟨x.toArray⟩ : Str) == (⟨y.toArray⟩ : Str)) = (x == y) := by
  have a : ((⟨x.toArray⟩ : Str) = ⟨y.toArray⟩) ↔ x = y := by
    constructor
    · intro h
      have := congrArg (fun z : Str => z.cps.toList) h
      simpa using this
    · intro h; rw [h]
  rw [Bool.eq_iff_iff, beq_iff_eq, beq_iff_eq]
  exact a
mutual
theorem eqvD : ∀ (a b : PV) (n k : Nat), a.sh n = true → b.sh k = true → PV.eqv a b = PyData.eqv (toD a) (toD b)
  | .non, b, n, k, _, hb => by cases b <;> first | rfl | (unfold PV.sh at hb; cases k <;> cases hb)
  | .bl x, b, n, k, _, hb => by cases b <;> first | rfl | (unfold PV.sh at hb; cases k <;> cases hb)
  | .int x, b, n, k, _, hb => by cases b <;> first | rfl | (unfold PV.sh at hb; cases k <;> cases hb)
  | .str x, b, n, k, _, hb => by
    cases b with
    | str y => simp only [PV.eqv, toD, PyData.eqv]; exact (strEq x y).symm
    | _ => first | rfl | (unfold PV.sh at hb; cases k <;> cases hb)
  | .tup xs, b, n, k, ha, hb => by
    cases n with
    | zero => cases ha
    | succ n =>
    cases b with
    | tup ys =>
      cases k with
      | zero => cases hb
      | succ k =>
        simp only [PV.eqv, toD, PyData.eqv]
        exact eqvDs xs ys n k (by simpa only [PV.sh] using ha) (by simpa only [PV.sh] using hb)
    | _ => first | rfl | (unfold PV.sh at hb; cases k <;> cases hb)
  | .vl xs, b, n, k, ha, hb => by
    cases n with
    | zero => cases ha
    | succ n =>
    cases b with
    | vl ys =>
      cases k with
      | zero => cases hb
      | succ k =>
        simp only [PV.eqv, toD, PyData.eqv]
        exact eqvDs xs ys n k (by simpa only [PV.sh] using ha) (by simpa only [PV.sh] using hb)
    | _ => first | rfl | (unfold PV.sh at hb; cases k <;> cases hb)
  | .fz _, _, n, _, ha, _ => by cases n <;> cases ha
  | .vd _, _, n, _, ha, _ => by cases n <;> cases ha
  | .ref _, _, n, _, ha, _ => by cases n <;> cases ha
theorem eqvDs : ∀ (a b : List PV) (n k : Nat), a.all (PV.sh n) = true → b.all (PV.sh k) = true → PV.eqvs a b = PyData.eqvAll (toDs a) (toDs b)
  | [], [], _, _, _, _ => rfl
  | [], _ :: _, _, _, _, _ => rfl
  | _ :: _, [], _, _, _, _ => rfl
  | x :: xs, y :: ys, n, k, ha, hb => by
    simp only [List.all_cons, Bool.and_eq_true] at ha hb
    simp only [PV.eqvs, toDs, PyData.eqvAll]
    rw [eqvD x y n k ha.1 hb.1, eqvDs xs ys n k ha.2 hb.2]
end
mutual
theorem plainD : ∀ (a : PV), (toD a).plain = true
  | .non => rfl
  | .bl _ => rfl
  | .int _ => rfl
  | .str _ => rfl
  | .tup xs => by simp only [toD, PyData.plain]; exact plainDs xs
  | .vl xs => by simp only [toD, PyData.plain]; exact plainDs xs
  | .fz _ => rfl
  | .vd _ => rfl
  | .ref _ => rfl
theorem plainDs : ∀ (a : List PV), PyData.plainAll (toDs a) = true
  | [] => rfl
  | x :: xs => by simp only [toDs, PyData.plainAll, plainD x, plainDs xs, Bool.and_self]
end
mutual
theorem depthD : ∀ (a : PV) (n : Nat), a.sh n = true → (toD a).depth ≤ n
  | .non, _, _ => Nat.zero_le _
  | .bl _, _, _ => Nat.zero_le _
  | .int _, _, _ => Nat.zero_le _
  | .str _, _, _ => Nat.zero_le _
  | .tup xs, n, h => by
    cases n with
    | zero => cases h
    | succ n =>
      simp only [toD, PyData.depth]
      have := depthDs xs n (by simpa only [PV.sh] using h)
      omega
  | .vl xs, n, h => by
    cases n with
    | zero => cases h
    | succ n =>
      simp only [toD, PyData.depth]
      have := depthDs xs n (by simpa only [PV.sh] using h)
      omega
  | .fz _, n, h => by cases n <;> cases h
  | .vd _, n, h => by cases n <;> cases h
  | .ref _, n, h => by cases n <;> cases h
theorem depthDs : ∀ (a : List PV) (n : Nat), a.all (PV.sh n) = true → PyData.depthAll (toDs a) ≤ n
  | [], _, _ => Nat.zero_le _
  | x :: xs, n, h => by
    simp only [List.all_cons, Bool.and_eq_true] at h
    simp only [toDs, PyData.depthAll]
    have h1 := depthD x n h.1
    have h2 := depthDs xs n h.2
    omega
end
section
variable {K : PySem.W.Frag} {g : Gh} {m : Mm} {H : Hp}
mutual
theorem Rp.dp (e : Emb K g m H) : ∀ {v : PV} {w : V} (n : Nat), v.sh n = true → Rp K g H v w → Dp K H w (toD v)
  | _, _, _, _, .non => .non
  | _, _, _, _, .bl b => .bl b
  | _, _, _, _, .int i => .int i
  | _, _, _, _, .str l => .str _
  | _, _, 0, h, .tup _ _ => by cases h
  | _, _, n + 1, h, .tup a r => .tup a (Rps.dp e n (by simpa only [PV.sh] using h) r)
  | _, _, 0, h, .vl _ _ => by cases h
  | _, _, n + 1, h, .vl a r => .lst (SqL.of (e.ro _ _ a).1) (Rps.dp e n (by simpa only [PV.sh] using h) r)
  | _, _, 0, h, .fz _ _ => by cases h
  | _, _, _ + 1, h, .fz _ _ => by cases h
  | _, _, 0, h, .ref _ => by cases h
  | _, _, _ + 1, h, .ref _ => by cases h
theorem Rps.dp (e : Emb K g m H) : ∀ {v : List PV} {w : List V} (n : Nat), v.all (PV.sh n) = true → Rps K g H v w → DpAll K H w (toDs v)
  | _, _, _, _, .nil => .nil
  | _, _, n, h, .cons a r => by
    simp only [List.all_cons, Bool.and_eq_true] at h
    exact .cons (Rp.dp e n h.1 a) (Rps.dp e n h.2 r)
end
/-- behind look1 -/
theorem Rp.dp1 (e : Emb K g m H) {v : PV} {w : V} {n : Nat} (h : (look1 m v).sh n = true) (r : Rp K g H v w) : Dp K H w (toD (look1 m v)) := by
  cases r with
  | ref hn =>
    rename_i k a
    simp only [look1] at h ⊢
    split at h
    · rename_i xs hx
      obtain ⟨a', vs, h1, h2, h3⟩ := e.obj _ _ hx
      rw [hn] at h1; cases h1
      simp only [toD]
      cases n with
      | zero => cases h
      | succ n => exact .lst (SqL.of h2) (Rps.dp e n (by simpa only [PV.sh] using h) h3)
    · cases n <;> cases h
  | non => exact .non
  | bl b => exact .bl b
  | int i => exact .int i
  | str l => exact .str _
  | tup a r => exact Rp.dp e n h (.tup a r)
  | vl a r => exact Rp.dp e n h (.vl a r)
  | fz a r => exact Rp.dp e n h (.fz a r)
end
section
variable {X : Cx} {Ξ : XC}
theorem dep64 {n : Nat} (h : n ≤ DEP) : n ≤ 64 := Nat.le_trans h (by decide)
theorem op_tEq (hu : X.A.units + 64 < cLine) : OpR X (compareOp .Eq) (rd2 X.K Ξ oEq) := by
  intro pins s σ H x y v u Q I rx ry ⟨g, m, a, b, e, ra, rb, q⟩
  unfold oEq at q
  split at q
  · rename_i hc
    simp only [Bool.and_eq_true] at hc
    have da := ra.dp1 e hc.1
    have db := rb.dp1 e hc.2
    obtain ⟨as, r1⟩ := Dp.reads I _ x v da rx
    obtain ⟨bs, r2⟩ := Dp.reads I _ y u db ry
    rw [eqvD _ _ _ _ hc.1 hc.2] at q
    refine SeqAt.eq_plain r1 r2 (plainD _) (plainD _) ?_ ⟨.bl _, H, I, rfl, QE.ret e (.bl _) q⟩
    have := dep64 (depthD _ _ hc.1)
    have h2 : min (toD (look1 m a)).depth (toD (look1 m b)).depth ≤ (toD (look1 m a)).depth := Nat.min_le_left _ _
    omega
  · exact q.elim
theorem op_tNe (hu : X.A.units + 64 < cLine) : OpR X (compareOp .NotEq) (rd2 X.K Ξ oNe) := by
  intro pins s σ H x y v u Q I rx ry ⟨g, m, a, b, e, ra, rb, q⟩
  unfold oNe at q
  split at q
  · rename_i hc
    simp only [Bool.and_eq_true] at hc
    have da := ra.dp1 e hc.1
    have db := rb.dp1 e hc.2
    obtain ⟨as, r1⟩ := Dp.reads I _ x v da rx
    obtain ⟨bs, r2⟩ := Dp.reads I _ y u db ry
    rw [eqvD _ _ _ _ hc.1 hc.2] at q
    refine SeqAt.ne_plain r1 r2 (plainD _) (plainD _) ?_ ⟨.bl _, H, I, rfl, QE.ret e (.bl _) q⟩
    have := dep64 (depthD _ _ hc.1)
    have h2 : min (toD (look1 m a)).depth (toD (look1 m b)).depth ≤ (toD (look1 m a)).depth := Nat.min_le_left _ _
    omega
  · exact q.elim
theorem any_toDs (a : PV) (k : Nat) (ha : a.sh k = true) : ∀ (xs : List PV) (n : Nat), xs.all (PV.sh n) = true → ((toDs xs).any fun y => PyData.eqv y (toD a)) = xs.any fun y => PV.eqv y a
  | [], _, _ => rfl
  | x :: xs, n, h => by
    simp only [List.all_cons, Bool.and_eq_true] at h
    simp only [toDs, List.any_cons]
    rw [eqvD x a n k h.1 ha, any_toDs a k ha xs n h.2]
theorem look1_of_sh {m : Mm} {a : PV} {k : Nat} (h : a.sh k = true) : look1 m a = a := by
  cases a with
  | ref n => cases k <;> cases h
  | _ => rfl
theorem op_tIn (hu : X.A.units + 64 < cLine) : OpR X (compareOp .In) (rd2 X.K Ξ (oIn false)) := by
  intro pins s σ H x y v u Q I rx ry ⟨g, m, a, b, e, ra, rb, q⟩
  unfold oIn at q
  split at q
  · rename_i xs h1
    split at q
    · rename_i hc
      simp only [Bool.and_eq_true] at hc
      have hb : (look1 m b).sh (DEP + 1) = true := by rw [h1]; simpa only [PV.sh] using hc.1
      have db := rb.dp1 e hb
      rw [h1] at db
      have da := ra.dp e _ hc.2
      obtain ⟨as, r1⟩ := Dp.reads I _ x v da rx
      obtain ⟨bs, r2⟩ := Dp.reads I _ y u db ry
      simp only [toD] at r2
      refine SeqAt.in_list_data r2 r1 (plainDs _) (plainD _) ?_ ⟨.bl _, H, I, rfl, ?_⟩
      · have := dep64 (depthD _ _ hc.2)
        have h2 := Nat.min_le_right (PyData.depthAll (toDs xs)) (toD a).depth
        have h3 : (toD a).depth ≤ 12 := depthD _ _ hc.2
        omega
      · rw [any_toDs a _ hc.2 xs _ hc.1]
        exact QE.ret e (.bl _) q
    · exact q.elim
  · rename_i xs h1
    split at q
    · rename_i hc
      simp only [Bool.and_eq_true] at hc
      have hb : (look1 m b).sh (DEP + 1) = true := by rw [h1]; simpa only [PV.sh] using hc.1
      have db := rb.dp1 e hb
      rw [h1] at db
      have da := ra.dp e _ hc.2
      obtain ⟨as, r1⟩ := Dp.reads I _ x v da rx
      obtain ⟨bs, r2⟩ := Dp.reads I _ y u db ry
      simp only [toD] at r2
      refine SeqAt.in_tuple_data r2 r1 (plainDs _) (plainD _) ?_ ⟨.bl _, H, I, rfl, ?_⟩
      · have h2 := Nat.min_le_right (PyData.depthAll (toDs xs)) (toD a).depth
        have h3 : (toD a).depth ≤ 12 := depthD _ _ hc.2
        omega
      · rw [any_toDs a _ hc.2 xs _ hc.1]
        exact QE.ret e (.bl _) q
    · exact q.elim
  · rename_i z h1
    rw [look1_str h1] at rb
    cases rb.str_inv
    split at q
    · rename_i c
      cases ra.str_inv
      refine op_in_sign pins s σ H _ _ v u Q I rx ry ⟨c, _, rfl, rfl, ?_⟩
      exact QE.ret e (.bl _) q
    · exact q.elim
  · exact q.elim
theorem op_tNotIn (hu : X.A.units + 64 < cLine) : OpR X (compareOp .NotIn) (rd2 X.K Ξ (oIn true)) := by
  intro pins s σ H x y v u Q I rx ry ⟨g, m, a, b, e, ra, rb, q⟩
  unfold oIn at q
  split at q
  · rename_i xs h1
    split at q
    · rename_i hc
      simp only [Bool.and_eq_true] at hc
      have hb : (look1 m b).sh (DEP + 1) = true := by rw [h1]; simpa only [PV.sh] using hc.1
      have db := rb.dp1 e hb
      rw [h1] at db
      have da := ra.dp e _ hc.2
      obtain ⟨as, r1⟩ := Dp.reads I _ x v da rx
      obtain ⟨bs, r2⟩ := Dp.reads I _ y u db ry
      simp only [toD] at r2
      refine SeqAt.notIn_list_data r2 r1 (plainDs _) (plainD _) ?_ ⟨.bl _, H, I, rfl, ?_⟩
      · have h2 := Nat.min_le_right (PyData.depthAll (toDs xs)) (toD a).depth
        have h3 : (toD a).depth ≤ 12 := depthD _ _ hc.2
        omega
      · rw [any_toDs a _ hc.2 xs _ hc.1]
        exact QE.ret e (.bl _) q
    · exact q.elim
  · rename_i xs h1
    split at q
    · rename_i hc
      simp only [Bool.and_eq_true] at hc
      have hb : (look1 m b).sh (DEP + 1) = true := by rw [h1]; simpa only [PV.sh] using hc.1
      have db := rb.dp1 e hb
      rw [h1] at db
      have da := ra.dp e _ hc.2
      obtain ⟨as, r1⟩ := Dp.reads I _ x v da rx
      obtain ⟨bs, r2⟩ := Dp.reads I _ y u db ry
      simp only [toD] at r2
      refine SeqAt.notIn_tuple_data r2 r1 (plainDs _) (plainD _) ?_ ⟨.bl _, H, I, rfl, ?_⟩
      · have h2 := Nat.min_le_right (PyData.depthAll (toDs xs)) (toD a).depth
        have h3 : (toD a).depth ≤ 12 := depthD _ _ hc.2
        omega
      · rw [any_toDs a _ hc.2 xs _ hc.1]
        exact QE.ret e (.bl _) q
    · exact q.elim
  · rename_i z h1
    rw [look1_str h1] at rb
    cases rb.str_inv
    split at q
    · rename_i c
      cases ra.str_inv
      refine op_notIn_sign pins s σ H _ _ v u Q I rx ry ⟨c, _, rfl, rfl, ?_⟩
      exact QE.ret e (.bl _) q
    · exact q.elim
  · exact q.elim
end
end TT
end

section
set_option Elab.async false
set_option linter.all false
set_option autoImplicit false
set_option maxRecDepth 100000
/-! TT: subscripts, built-in functions, methods, by values -/
namespace TT
open PySem PySem.Spec PyProof.Rows L2
section
variable {X : Cx} {Ξ : XC}
theorem IxR_imp {r r' : R2} (h : IxR X r) (i : ∀ x y H Q, r' x y H Q → r x y H Q) : IxR X r' := fun va sl pins s σ H x y v u Q I rx ry q hs => h va sl pins s σ H x y v u Q I rx ry (i _ _ _ _ q) hs
theorem ixN_eq : @TT.ixN = @L2.ixN := rfl
theorem Rps.atI {K : PySem.W.Frag} {g : Gh} {H : Hp} {xs : List PV} {vs : List V} {k : Int} {x : PV} (r : Rps K g H xs vs) (h : TT.atI xs k = some x) : ∃ v, L2.atI vs k = some v ∧ Rp K g H x v := by
  unfold TT.atI at h
  unfold L2.atI
  rw [ixN_eq, r.length] at h
  cases hj : L2.ixN vs.length k with
  | none => rw [hj] at h; cases h
  | some j =>
    rw [hj] at h
    obtain ⟨v, h1, h2⟩ := r.get (show xs[j]? = some x from h)
    exact ⟨v, by rw [Option.bind_some]; exact h1, h2⟩
theorem ix_t : IxR X (rd2 X.K Ξ oIx) := by
  refine IxR_imp ix_seq fun x y H Q ⟨g, m, a, b, e, ra, rb, q⟩ => ?_
  unfold oIx at q
  split at q
  · rename_i xs k h1
    obtain ⟨a1, vs, rfl, ha, r1⟩ := e.look ra h1
    cases rb.int_inv
    split at q
    · rename_i v hv
      obtain ⟨w, h2, r2⟩ := r1.atI hv
      exact .inl ⟨a1, vs, k, w, rfl, rfl, SqL.of ha, h2, QE.ret e r2 q⟩
    · exact q.elim
  · rename_i xs k h1
    rw [look1_fz h1] at ra
    obtain ⟨a1, vs, rfl, ha, r1⟩ := e.fz ra
    cases rb.int_inv
    split at q
    · rename_i v hv
      obtain ⟨w, h2, r2⟩ := r1.atI hv
      exact .inl ⟨a1, vs, k, w, rfl, rfl, ha, h2, QE.ret e r2 q⟩
    · exact q.elim
  · rename_i xs k h1
    rw [look1_tup h1] at ra
    obtain ⟨a1, vs, rfl, ha, r1⟩ := ra.tup_inv
    cases rb.int_inv
    split at q
    · rename_i v hv
      obtain ⟨w, h2, r2⟩ := r1.atI hv
      exact .inr (.inl ⟨a1, vs, k, w, rfl, rfl, ha, h2, QE.ret e r2 q⟩)
    · exact q.elim
  · rename_i z k h1
    rw [look1_str h1] at ra
    cases ra.str_inv
    cases rb.int_inv
    split at q
    · rename_i hl
      split at q
      · rename_i c hv
        refine .inr (.inr ⟨_, k, c, rfl, rfl, ?_, hv, ?_⟩)
        · show z.toArray.size ≤ sizeLine
          simpa using line_le hl
        · exact QE.ret e (.str [c]) q
      · exact q.elim
    · exact q.elim
  · exact q.elim
theorem sIx_eq : @TT.sIx = @HT.sIx := by
  funext n d o
  cases o with
  | none => rfl
  | some v => unfold TT.sIx HT.sIx; rfl
theorem cutV_rp {K : PySem.W.Frag} {g : Gh} {H : Hp} {xs : List PV} {vs : List V} (lo hi : Option Int) (r : Rps K g H xs vs) : Rps K g H (cutL xs lo hi) (cutV vs lo hi) := by
  unfold cutL cutV
  rw [sIx_eq, r.length]
  exact (r.drop _).take _
theorem cutS_str (z : List Nat) (lo hi : Option Int) : cutS ⟨z.toArray⟩ lo hi = ⟨(cutL z lo hi).toArray⟩ := by
  unfold cutS cutL
  rw [sIx_eq]
  rfl
theorem SlR_imp {r r' : V → Option Int → Option Int → Hp → VK → Prop} (h : SlR X r) (i : ∀ x l u H Q, r' x l u H Q → r x l u H Q) : SlR X r' := fun pins s σ H x v vl vu lo hi sl Q I rx hs pl pu q => h pins s σ H x v vl vu lo hi sl Q I rx hs pl pu (i _ _ _ _ _ q)
def rdSl (K : PySem.W.Frag) (Ξ : XC) : V → Option Int → Option Int → Hp → VK → Prop := fun x lo hi H Q => ∃ g m a, Emb K g m H ∧ Rp K g H a x ∧ QE K Ξ g H Q (oSlice lo hi a m)
theorem sl_t : SlR X (rdSl X.K Ξ) := by
  refine SlR_imp ((sl_list (X := X)).or (sl_tupA.or sl_str)) fun x lo hi H Q ⟨g, m, a, e, ra, q⟩ => ?_
  unfold oSlice at q
  split at q
  · rename_i xs h1
    obtain ⟨a1, vs, rfl, ha, r1⟩ := e.look ra h1
    exact .inl ⟨a1, vs, rfl, SqL.of ha, fun p hp => QE.newL e (cutV_rp lo hi r1) q hp⟩
  · rename_i xs h1
    rw [look1_tup h1] at ra
    obtain ⟨a1, vs, rfl, ha, r1⟩ := ra.tup_inv
    refine .inr (.inl ⟨a1, vs, rfl, ha, fun hw => ?_, fun _ p hp => QE.newT e (cutV_rp lo hi r1) q hp⟩)
    have : cutL xs lo hi = xs := by
      unfold cutL
      rw [sIx_eq, r1.length, hw.1, hw.2, List.drop_zero, Nat.sub_zero, ← r1.length, List.take_length]
    rw [this] at q
    exact QE.ret e (.tup ha r1) q
  · rename_i z h1
    rw [look1_str h1] at ra
    cases ra.str_inv
    split at q
    · rename_i hl
      refine .inr (.inr ⟨_, rfl, ?_, ?_⟩)
      · show z.toArray.size ≤ sizeLine
        simpa using line_le hl
      · rw [cutS_str]
        exact QE.ret e (.str _) q
    · exact q.elim
  · exact q.elim

/-! ### o[i] = v -/
theorem PSet_imp {r r' : TSet} (h : PSet X r) (i : ∀ o k v H Q, r' o k v H Q → r o k v H Q) : PSet X r' := fun pins s σ H o k v ov iv u Q I ro ri rv q => h pins s σ H o k v ov iv u Q I ro ri rv (i _ _ _ _ _ q)
def rdSet (K : PySem.W.Frag) (Ξ : XC) : TSet := fun o i v H Q => ∃ g m a k y, Emb K g m H ∧ Rp K g H a o ∧ Rp K g H k i ∧ Rp K g H y v ∧ QR K Ξ g H (fun m' => ∀ g' H', Ext g H g' H' → Emb K g' m' H' → Q H') (oSet a k y m)
theorem set_t : PSet X (rdSet X.K Ξ) := by
  refine PSet_imp set_list fun o i v H Q ⟨g, m, a, k, y, e, ra, rk, ry, q⟩ => ?_
  unfold oSet at q
  split at q
  · rename_i n j
    obtain ⟨a1, rfl, hn⟩ := ra.ref_inv
    cases rk.int_inv
    split at q
    · rename_i xs hx
      obtain ⟨a2, vs, h1, h2, h3⟩ := e.obj _ _ hx
      rw [hn] at h1; cases h1
      split at q
      · rename_i j' hj
        obtain ⟨x', e'⟩ := e.wr_lst hx hn (h3.set ry j')
        refine ⟨a1, vs, j, j', rfl, rfl, h2, ?_, q _ _ x' e'⟩
        rw [← h3.length]; exact hj
      · exact q.elim
    · exact q.elim
  · exact q.elim

/-! ### built-in functions -/
theorem call_tLen : CallR X (.builtin "len") (rdN X.K Ξ fLen) := by
  refine CallR_imp ((call_len_seq (X := X)).or call_len_str) fun xs H Q ⟨g, m, as, e, ra, q⟩ => ?_
  unfold fLen at q
  split at q
  · rename_i a
    cases ra with
    | cons r1 r2 =>
      cases r2
      split at q
      · rename_i ys h1
        obtain ⟨a1, vs, rfl, ha, r1'⟩ := e.look r1 h1
        exact .inl ⟨a1, vs, rfl, .inl (SqL.of ha), by rw [← r1'.length]; exact QE.ret e (.int _) q⟩
      · rename_i ys h1
        rw [look1_fz h1] at r1
        obtain ⟨a1, vs, rfl, ha, r1'⟩ := e.fz r1
        exact .inl ⟨a1, vs, rfl, .inl ha, by rw [← r1'.length]; exact QE.ret e (.int _) q⟩
      · rename_i ys h1
        rw [look1_tup h1] at r1
        obtain ⟨a1, vs, rfl, ha, r1'⟩ := r1.tup_inv
        exact .inl ⟨a1, vs, rfl, .inr ha, by rw [← r1'.length]; exact QE.ret e (.int _) q⟩
      · rename_i z h1
        rw [look1_str h1] at r1
        cases r1.str_inv
        split at q
        · rename_i hl
          refine .inr ⟨_, rfl, ?_, ?_⟩
          · show z.toArray.size ≤ sizeLine
            simpa using line_le hl
          · have : ((⟨z.toArray⟩ : Str).length : Int) = (z.length : Int) := by simp [Str.length]
            rw [this]
            exact QE.ret e (.int _) q
        · exact q.elim
      · exact q.elim
  · exact q.elim
theorem call_tInt : CallR X (.type "int") (rdN X.K Ξ fInt) := by
  refine CallR_imp call_int1 fun xs H Q ⟨g, m, as, e, ra, q⟩ => ?_
  unfold fInt at q
  split at q
  · cases ra with
    | cons r1 r2 =>
      cases r2
      cases r1.int_inv
      exact .inl ⟨_, rfl, QE.ret e (.int _) q⟩
  · cases ra with
    | cons r1 r2 =>
      cases r2
      cases r1.bl_inv
      exact .inr ⟨_, rfl, QE.ret e (.int _) q⟩
  · exact q.elim
theorem call_tMax (hc : X.calm = true) : CallR X (.builtin "max") (rdN X.K Ξ fMax) := by
  refine CallR_imp (call_max2 hc) fun xs H Q ⟨g, m, as, e, ra, q⟩ => ?_
  unfold fMax at q
  split at q
  · cases ra with
    | cons r1 r2 =>
      cases r2 with
      | cons r2 r3 =>
        cases r3
        cases r1.int_inv; cases r2.int_inv
        exact ⟨_, _, rfl, QE.ret e (.int _) q⟩
  · exact q.elim
theorem call_tMin (hc : X.calm = true) : CallR X (.builtin "min") (rdN X.K Ξ fMin) := by
  refine CallR_imp (call_min2 hc) fun xs H Q ⟨g, m, as, e, ra, q⟩ => ?_
  unfold fMin at q
  split at q
  · cases ra with
    | cons r1 r2 =>
      cases r2 with
      | cons r2 r3 =>
        cases r3
        cases r1.int_inv; cases r2.int_inv
        exact ⟨_, _, rfl, QE.ret e (.int _) q⟩
  · exact q.elim
theorem call_tList : CallR X (.type "list") (rdN X.K Ξ fList) := by
  refine CallR_imp call_list_of fun xs H Q ⟨g, m, as, e, ra, q⟩ => ?_
  unfold fList at q
  split at q
  · rename_i a
    cases ra with
    | cons r1 r2 =>
      cases r2
      split at q
      · rename_i ys h1
        obtain ⟨a1, vs, rfl, ha, r1'⟩ := e.look r1 h1
        exact ⟨a1, vs, rfl, .inl (SqL.of ha), fun p hp => QE.newL e r1' q hp⟩
      · rename_i ys h1
        rw [look1_tup h1] at r1
        obtain ⟨a1, vs, rfl, ha, r1'⟩ := r1.tup_inv
        exact ⟨a1, vs, rfl, .inr ha, fun p hp => QE.newL e r1' q hp⟩
      · exact q.elim
  · exact q.elim
theorem call_tTuple : CallR X (.type "tuple") (rdN X.K Ξ fTuple) := by
  refine CallR_imp call_tuple_of fun xs H Q ⟨g, m, as, e, ra, q⟩ => ?_
  unfold fTuple at q
  split at q
  · rename_i a
    cases ra with
    | cons r1 r2 =>
      cases r2
      split at q
      · rename_i ys h1
        obtain ⟨a1, vs, rfl, ha, r1'⟩ := e.look r1 h1
        exact ⟨a1, vs, rfl, .inl ⟨SqL.of ha, fun p hp => QE.newT e r1' q hp⟩⟩
      · rename_i ys h1
        rw [look1_tup h1] at r1
        obtain ⟨a1, vs, rfl, ha, r1'⟩ := r1.tup_inv
        exact ⟨a1, vs, rfl, .inr ⟨ha, QE.ret e (.tup ha r1') q⟩⟩
      · exact q.elim
  · exact q.elim
theorem bools_rp {K : PySem.W.Frag} {g : Gh} {H : Hp} : ∀ {xs : List PV} {vs : List V} {bs : List Bool}, bools xs = some bs → Rps K g H xs vs → vs = bs.map V.bl
  | [], _, _, h, r => by cases h; cases r; rfl
  | .bl b :: xs, _, bs, h, r => by
    simp only [bools] at h
    cases hq : bools xs with
    | none => rw [hq] at h; cases h
    | some cs =>
      rw [hq] at h
      cases h
      cases r with
      | cons r1 r2 =>
        cases r1.bl_inv
        rw [bools_rp hq r2]; rfl
  | .non :: _, _, _, h, _ => by simp [bools] at h
  | .int _ :: _, _, _, h, _ => by simp [bools] at h
  | .str _ :: _, _, _, h, _ => by simp [bools] at h
  | .tup _ :: _, _, _, h, _ => by simp [bools] at h
  | .vl _ :: _, _, _, h, _ => by simp [bools] at h
  | .fz _ :: _, _, _, h, _ => by simp [bools] at h
  | .vd _ :: _, _, _, h, _ => by simp [bools] at h
  | .ref _ :: _, _, _, h, _ => by simp [bools] at h
theorem call_tAll (hc : X.calm = true) : CallR X (.builtin "all") (rdN X.K Ξ fAll) := by
  refine CallR_imp (cr_all hc) fun xs H Q ⟨g, m, as, e, ra, q⟩ => ?_
  unfold fAll at q
  split at q
  · rename_i a
    cases ra with
    | cons r1 r2 =>
      cases r2
      split at q
      · rename_i ys h1
        obtain ⟨a1, vs, rfl, ha, r1'⟩ := e.look r1 h1
        split at q
        · rename_i bs hb
          have ev := bools_rp hb r1'
          subst ev
          exact ⟨a1, bs, rfl, SqL.of ha, QE.ret e (.bl _) q⟩
        · exact q.elim
      · exact q.elim
  · exact q.elim

/-! ### isinstance -/
def Ty.name : Ty → String
  | .tInt => "int" | .tStr => "str" | .tBool => "bool" | .tTup => "tuple" | .tList => "list"
theorem kitAll : ∀ (a : String) (t : Ty), a ∈ ["NoneType", "bool", "int", "str", "tuple", "list"] → kitB a t.name = some (match a, t with
    | "bool", .tInt => true | "bool", .tBool => true | "int", .tInt => true | "str", .tStr => true | "tuple", .tTup => true | "list", .tList => true | _, _ => false) := by
  intro a t h
  simp only [List.mem_cons, List.mem_nil_iff, or_false] at h
  rcases h with rfl | rfl | rfl | rfl | rfl | rfl <;> cases t <;> decide +kernel
theorem call_tIsA (t : Ty) : CallR X (.builtin "isinstance") (fun xs H Q => ∃ x, xs = [x, .ty t.name] ∧ rd1 X.K Ξ (oIsA t) x H Q) := by
  refine CallR_imp call_isi fun xs H Q ⟨x, ex, g, m, a, e, ra, q⟩ => ?_
  subst ex
  unfold oIsA at q
  split at q
  · rename_i b hb
    have fin : Q (.bl b) H := QE.ret e (.bl b) q
    have go : ∀ (n : String) (r : Bool), n ∈ ["NoneType", "bool", "int", "str", "tuple", "list"] → TyX X.K H x (.type n) → kitB n t.name = some r → r = b → rIsi X.K [x, .ty t.name] H Q := fun n r hn ty hk hr => by
      subst hr
      exact ⟨x, .ty t.name, .type n, .type t.name, r, rfl, .ty _, ty, kit_ty hk, fin⟩
    cases ra with
    | non =>
      have hk := kitAll "NoneType" t (by decide)
      refine go "NoneType" false (by decide) (.base .non) ?_ ?_
      · rw [hk]; cases t <;> rfl
      · cases t <;> (simp only [look1, isA] at hb; exact Option.some.inj hb)
    | bl c =>
      have hk := kitAll "bool" t (by decide)
      cases t <;> (simp only [look1, isA] at hb; exact go "bool" _ (by decide) (.base (.bl c)) hk (Option.some.inj hb))
    | int i =>
      have hk := kitAll "int" t (by decide)
      cases t <;> (simp only [look1, isA] at hb; exact go "int" _ (by decide) (.base (.int i)) hk (Option.some.inj hb))
    | str l =>
      have hk := kitAll "str" t (by decide)
      cases t <;> (simp only [look1, isA] at hb; exact go "str" _ (by decide) (.base (.str _)) hk (Option.some.inj hb))
    | @tup p vs ys h r =>
      have hk := kitAll "tuple" t (by decide)
      have ty : TyX X.K H (.ref p) (.type "tuple") := by
        rcases h with (h | ⟨o, h⟩) | ⟨o, its, n, h1, h2, _⟩
        · exact .base (.tup h)
        · exact .fTuple h
        · exact .kTuple h1 h2
      cases t <;> (simp only [look1, isA] at hb; exact go "tuple" _ (by decide) ty hk (Option.some.inj hb))
    | vl h r =>
      have hk := kitAll "list" t (by decide)
      cases t <;> (simp only [look1, isA] at hb; exact go "list" _ (by decide) (.base (.lst (e.ro _ _ h).1)) hk (Option.some.inj hb))
    | @fz p vs ys h r =>
      have hk := kitAll "list" t (by decide)
      have ty : TyX X.K H (.ref p) (.type "list") := by
        rcases h with (h | ⟨o, h⟩) | ⟨o, its, n, h1, h2, _⟩
        · exact .base (.lst (e.ro _ _ h).1)
        · exact .base (.frz (e.ro _ _ h).1)
        · exact .kList h1 h2
      cases t <;> (simp only [look1, isA] at hb; exact go "list" _ (by decide) ty hk (Option.some.inj hb))
    | ref hn =>
      have hk := kitAll "list" t (by decide)
      simp only [look1] at hb
      split at hb
      · rename_i ys hy
        obtain ⟨a', vs, h1, h2, h3⟩ := e.obj _ _ hy
        rw [hn] at h1; cases h1
        cases t <;> (simp only [isA] at hb; exact go "list" _ (by decide) (.base (.lst h2)) hk (Option.some.inj hb))
      · cases t <;> simp only [isA] at hb <;> cases hb
  · exact q.elim

/-! ### methods -/
def rdM (K : PySem.W.Frag) (Ξ : XC) (f : PV → List PV → Mm → Rs (PV × Mm)) : V → List V → Hp → VK → Prop := fun x xs H Q => ∃ g m a as, Emb K g m H ∧ Rp K g H a x ∧ Rps K g H as xs ∧ QE K Ξ g H Q (f a as m)
theorem MtR_imp {id : String} {r r' : V → List V → Hp → VK → Prop} (h : MtR X id r) (i : ∀ x xs H Q, r' x xs H Q → r x xs H Q) : MtR X id r' := fun pins s σ H x xs v us Q I rx rv q => h pins s σ H x xs v us Q I rx rv (i _ _ _ _ q)
theorem mt_tAppend : MtR X "list.append" (rdM X.K Ξ mAppend) := by
  refine MtR_imp mt_append fun x xs H Q ⟨g, m, a, as, e, ra, rs, q⟩ => ?_
  unfold mAppend at q
  split at q
  · rename_i n v
    obtain ⟨a1, rfl, hn⟩ := ra.ref_inv
    cases rs with
    | cons r1 r2 =>
      cases r2
      split at q
      · rename_i ys hy
        obtain ⟨a2, vs, h1, h2, h3⟩ := e.obj _ _ hy
        rw [hn] at h1; cases h1
        split at q
        · rename_i hl
          obtain ⟨x', e'⟩ := e.wr_lst hy hn (h3.append (.cons r1 .nil))
          exact ⟨a1, vs, _, rfl, rfl, h2, by rw [← h3.length]; exact line_lt hl, q _ _ _ x' e' .non⟩
        · exact q.elim
      · exact q.elim
  · exact q.elim
end
end TT
end

section
set_option Elab.async false
set_option linter.all false
set_option autoImplicit false
set_option maxRecDepth 100000
/-! TT: expressions, tests, targets, statements -/
namespace TT
open PySem PySem.Spec PyProof.Rows L2
section
variable {X : Cx} {Ξ : XC} {a b c e o : Expr} {es : List Expr} {pos : Pos} {fa fb fc : SE} {ft fu : ST} {K : PySem.W.Frag} {g : Gh} {H : Hp}

/-! ### constants, names -/
theorem se_of {v : PV} {w : V} {e : Expr} (h : PE X e (tC w)) (r : ∀ g H, Rp X.K g H v w) : PE X e (rdE X.K Ξ (eC v)) :=
  PE_imp h fun σ H Q ⟨g, s, m, em, sr, q⟩ => QE.ret em (r g H) q
theorem se_int {i : Int} {j pos} : PE X (.Constant (.int i) j pos) (rdE X.K Ξ (eC (.int i))) := se_of pe_int fun _ _ => .int i
theorem se_bl {i : Bool} {j pos} : PE X (.Constant (.bool i) j pos) (rdE X.K Ξ (eC (.bl i))) := se_of pe_bl fun _ _ => .bl i
theorem se_non {j pos} : PE X (.Constant .none j pos) (rdE X.K Ξ (eC .non)) := se_of pe_non fun _ _ => .non
theorem se_str (l : List Nat) {x : Str} {j pos} (h : x = ⟨l.toArray⟩ := by rfl) : PE X (.Constant (.str x) j pos) (rdE X.K Ξ (eC (.str l))) := by
  subst h; exact se_of pe_str fun _ _ => .str l
theorem se_var (i : Nat) {x : Str} {pos : Pos} (hN : X.N[i]? = some x := by rfl) (hv : Vis X.env.scope x := by first | exact Or.inl rfl | exact Or.inr (Or.inl rfl) | exact Or.inr (Or.inr rfl)) (hd : (x == ("__debug__" : Str)) = false := by decide)
    (hcd : (x == ("__classdict__" : Str)) = false := by decide) : PE X (.Name x pos) (rdE X.K Ξ (eVar i)) :=
  PE_imp (pe_var hN hv hd hcd) fun σ H Q ⟨g, s, m, em, sr, q⟩ => by
    unfold eVar at q
    split at q
    · rename_i v hv
      obtain ⟨w, h1, h2⟩ := sr.at_ i v hv
      exact ⟨w, h1, QE.ret em h2 q⟩
    · exact q.elim
/-- a name of the module -/
theorem se_glob {x : Str} {v : PV} {w : V} {u : Value} {pos : Pos} (hg : Gl X x) (hm : X.mg x = some u) (r : RelV w u) (rp : ∀ g H, Rp X.K g H v w) (hd : (x == ("__debug__" : Str)) = false := by decide) : PE X (.Name x pos) (rdE X.K Ξ (eC v)) :=
  se_of (pe_glob hg hm r hd) rp

/-! ### by values -/
theorem rd_e2 {f : O2} {σ : L2.St} {H : Hp} {Q : VK} (h : rdE K Ξ (e2 f fa fb) σ H Q) : tOp (rd2 K Ξ f) (rdE K Ξ fa) (rdE K Ξ fb) σ H Q := by
  obtain ⟨g, s, m, em, sr, q⟩ := h
  refine ⟨g, s, m, em, sr, QR.bind q fun p hp q1 g1 H1 V x1 e1 r1 => ?_⟩
  refine ⟨g1, s, p.2, e1, sr.ext em x1, QR.bind (QE.later x1 q1) fun p2 hp2 q2 g2 H2 W x2 e2 r2 => ?_⟩
  exact ⟨g2, p2.2, p.1, p2.1, e2, r1.ext e1 x2, r2, QE.later x2 q2⟩
theorem rd_e1 {f : O1} {σ : L2.St} {H : Hp} {Q : VK} (h : rdE K Ξ (e1 f fa) σ H Q) : rdE K Ξ fa σ H fun x H1 => rd1 K Ξ f x H1 Q := by
  obtain ⟨g, s, m, em, sr, q⟩ := h
  exact ⟨g, s, m, em, sr, QR.bind q fun p hp q1 g1 H1 V x1 e1 r1 => ⟨g1, p.2, p.1, e1, r1, QE.later x1 q1⟩⟩
theorem se_bin {op : Operator} {f : O2} (h : OpR X (binaryOp op) (rd2 X.K Ξ f)) (ha : PE X a (rdE X.K Ξ fa)) (hb : PE X b (rdE X.K Ξ fb)) : PE X (.BinOp a op b pos) (rdE X.K Ξ (e2 f fa fb)) :=
  PE_imp (pe_op h ha hb) fun _ _ _ => rd_e2
theorem se_cmp {op : CmpOp} {f : O2} (h : OpR X (compareOp op) (rd2 X.K Ξ f)) (ha : PE X a (rdE X.K Ξ fa)) (hb : PE X b (rdE X.K Ξ fb)) (hm : behindInMarks op b = false) : PE X (.Compare a [op] [b] pos) (rdE X.K Ξ (e2 f fa fb)) :=
  PE_imp (pe_cmpR h ha hb hm) fun _ _ _ => rd_e2
theorem st_of {f : SE} {e : Expr} {t : TE} {σ : L2.St} {H : Hp} {Q : Bool → Hp → Prop} (i : ∀ Q, rdE K Ξ f σ H Q → t σ H Q) (h : rdT K Ξ (tV f) σ H Q) : t σ H fun x H1 => ∃ k, x = .bl k ∧ Q k H1 := by
  obtain ⟨g, s, m, em, sr, q⟩ := h
  refine i _ ⟨g, s, m, em, sr, QR.bind q fun p hp q1 g1 H1 V x1 e1 r1 => ?_⟩
  obtain ⟨v, m1⟩ := p
  cases v with
  | bl k =>
    cases r1.bl_inv
    exact ⟨k, rfl, q1 g1 H1 x1 e1⟩
  | _ => exact q1.elim
theorem st_cmp {op : CmpOp} {f : O2} (h : OpR X (compareOp op) (rd2 X.K Ξ f)) (ha : PE X a (rdE X.K Ξ fa)) (hb : PE X b (rdE X.K Ξ fb)) (hm : behindInMarks op b = false) : PT X (.Compare a [op] [b] pos) (rdT X.K Ξ (tV (e2 f fa fb))) :=
  PT_imp (pt_cmpR h ha hb hm) fun σ H Q q => st_of (e := a) (fun _ => rd_e2) q
/-- an expression that gives a truth value, as a test -/
theorem st_val (h : PE X e (rdE X.K Ξ fa)) (he : ∀ whole, isTrue e X.env whole = (do let v ← whole; standAt e.pos; holding [v] (truthy v)) := by intro _; rfl) : PT X e (rdT X.K Ξ (tV fa)) :=
  PT_imp (pt_val h he) fun σ H Q q => st_of (e := e) (fun _ h => h) q
/-- the truth of any value -/
theorem st_tru (h : PE X e (rdE X.K Ξ fa)) (he : ∀ whole, isTrue e X.env whole = (do let v ← whole; standAt e.pos; holding [v] (truthy v)) := by intro _; rfl) : PT X e (rdT X.K Ξ (tT fa)) :=
  PT_imp (pt_truth h he) fun σ H Q ⟨g, s, m, em, sr, q⟩ => by
    refine ⟨g, s, m, em, sr, QR.bind q fun p hp q1 g1 H1 V x1 e1 r1 => ?_⟩
    obtain ⟨v, m1⟩ := p
    simp only at q1
    split at q1
    · rename_i k hk
      have fin := q1 g1 H1 x1 e1
      refine ⟨k, ?_, fin⟩
      cases r1 with
      | non => simp only [tru] at hk; cases hk; rfl
      | bl c => simp only [tru] at hk; cases hk; rfl
      | int i => simp only [tru] at hk; cases hk; rfl
      | str l =>
        simp only [tru] at hk
        split at hk
        · rename_i hl
          cases hk
          refine ⟨?_, ?_⟩
          · show l.toArray.size ≤ sizeLine
            simpa using line_le hl
          · show (!l.isEmpty) = (((l.toArray.size : Nat) : Int) != 0)
            cases l with
            | nil => rfl
            | cons x r =>
              have : ((((x :: r).toArray.size : Nat) : Int) != 0) = true := by
                rw [List.size_toArray, List.length_cons]
                exact bne_iff_ne.mpr (by omega)
              rw [this]; rfl
        · cases hk
      | tup hh r =>
        simp only [tru] at hk; cases hk
        refine .inr (.inl ⟨_, hh, ?_⟩)
        have := r.length
        rename_i vs xs
        cases xs <;> cases vs <;> simp_all
      | vl hh r =>
        simp only [tru] at hk; cases hk
        refine .inl ⟨_, SqL.of (e1.ro _ _ hh).1, ?_⟩
        have := r.length
        rename_i vs xs
        cases xs <;> cases vs <;> simp_all
      | fz hh r => simp only [tru] at hk; cases hk
      | ref hn =>
        simp only [tru] at hk
        split at hk
        · rename_i ys hy
          cases hk
          obtain ⟨a', vs, h1, h2, h3⟩ := e1.obj _ _ hy
          rw [hn] at h1; cases h1
          refine .inl ⟨_, SqL.of h2, ?_⟩
          have := h3.length
          cases ys <;> cases vs <;> simp_all
        · cases hk
    · exact q1.elim
theorem se_neg (ha : PE X a (rdE X.K Ξ fa)) : PE X (.UnaryOp .USub a pos) (rdE X.K Ξ (e1 oNeg fa)) :=
  PE_imp (pe_un un_neg ha) fun σ H Q q => by
    obtain ⟨g, s, m, em, sr, q⟩ := q
    refine ⟨g, s, m, em, sr, QR.bind q fun p hp q1 g1 H1 V x1 e1 r1 => ?_⟩
    obtain ⟨v, m1⟩ := p
    simp only [oNeg] at q1
    split at q1
    · cases r1.int_inv
      exact ⟨_, rfl, QE.ret e1 (.int _) (QE.later x1 q1)⟩
    · exact q1.elim
/-- is None, is not None -/
theorem se_isN {j pos'} (ha : PE X a (rdE X.K Ξ fa)) : PE X (.Compare a [.Is] [.Constant .none j pos'] pos) (rdE X.K Ξ (e1 (oIs false .non) fa)) :=
  PE_imp (pe_cmp (pc_isN ha)) fun σ H Q q => by
    obtain ⟨g, s, m, em, sr, q⟩ := q
    refine ⟨g, s, m, em, sr, QR.bind q fun p hp q1 g1 H1 V x1 e1 r1 => ?_⟩
    have e := QE.later x1 q1
    obtain ⟨v, m1⟩ := p
    cases r1 <;> exact QE.ret e1 (.bl _) e
theorem se_notN {j pos'} (ha : PE X a (rdE X.K Ξ fa)) : PE X (.Compare a [.IsNot] [.Constant .none j pos'] pos) (rdE X.K Ξ (e1 (oIs true .non) fa)) :=
  PE_imp (pe_cmp (pc_notN ha)) fun σ H Q q => by
    obtain ⟨g, s, m, em, sr, q⟩ := q
    refine ⟨g, s, m, em, sr, QR.bind q fun p hp q1 g1 H1 V x1 e1 r1 => ?_⟩
    have e := QE.later x1 q1
    obtain ⟨v, m1⟩ := p
    cases r1 <;> exact QE.ret e1 (.bl _) e
theorem st_isN {j pos'} (ha : PE X a (rdE X.K Ξ fa)) : PT X (.Compare a [.Is] [.Constant .none j pos'] pos) (rdT X.K Ξ (tV (e1 (oIs false .non) fa))) :=
  PT_imp (pt_cmp (pc_isN ha)) fun σ H Q q => by
    obtain ⟨g, s, m, em, sr, q⟩ := q
    refine ⟨g, s, m, em, sr, QR.bind (QR.bind q fun p hp q1 => q1) fun p hp q1 g1 H1 V x1 e1 r1 => ?_⟩
    obtain ⟨v, m1⟩ := p
    cases r1 <;> exact ⟨_, rfl, q1 g1 H1 x1 e1⟩
theorem st_notN {j pos'} (ha : PE X a (rdE X.K Ξ fa)) : PT X (.Compare a [.IsNot] [.Constant .none j pos'] pos) (rdT X.K Ξ (tV (e1 (oIs true .non) fa))) :=
  PT_imp (pt_cmp (pc_notN ha)) fun σ H Q q => by
    obtain ⟨g, s, m, em, sr, q⟩ := q
    refine ⟨g, s, m, em, sr, QR.bind (QR.bind q fun p hp q1 => q1) fun p hp q1 g1 H1 V x1 e1 r1 => ?_⟩
    obtain ⟨v, m1⟩ := p
    cases r1 <;> exact ⟨_, rfl, q1 g1 H1 x1 e1⟩
/-- is True, is False of a truth value -/
theorem se_isB {k : Bool} {j pos'} (ha : PE X a (rdE X.K Ξ fa)) : PE X (.Compare a [.Is] [.Constant (.bool k) j pos'] pos) (rdE X.K Ξ (e1 (oIs false (.bl k)) fa)) :=
  PE_imp (pe_cmpR op_isBl ha pe_bl (nomark _)) fun σ H Q q => by
    obtain ⟨g, s, m, em, sr, q⟩ := q
    refine ⟨g, s, m, em, sr, QR.bind q fun p hp q1 g1 H1 V x1 e1 r1 => ?_⟩
    have e := QE.later x1 q1
    obtain ⟨v, m1⟩ := p
    cases v with
    | bl c =>
      cases r1.bl_inv
      refine ⟨c, k, rfl, rfl, ?_⟩
      have : (if c == k then (!false : Bool) else false) = decide (c = k) := by cases c <;> cases k <;> rfl
      simp only [oIs, this] at e
      exact QE.ret e1 (.bl _) e
    | _ => exact e.elim

/-! ### arguments, displays -/
theorem sa_nil : PA X [] (rdA X.K Ξ aNil) := PA_imp pa_nil fun σ H Q ⟨g, s, m, em, sr, q⟩ => q g H [] (Ext.refl _ _) em .nil
theorem sa_cons {f : SA} (ha : PE X e (rdE X.K Ξ fa)) (hr : PA X es (rdA X.K Ξ f)) (hs : starEach (e :: es) X.env = (false, eval e X.env) :: starEach es X.env := by rfl) : PA X (e :: es) (rdA X.K Ξ (aCons fa f)) :=
  PA_imp (pa_cons ha hr hs) fun σ H Q ⟨g, s, m, em, sr, q⟩ => by
    refine ⟨g, s, m, em, sr, QR.bind q fun p hp q1 g1 H1 V x1 e1 r1 => ?_⟩
    refine ⟨g1, s, p.2, e1, sr.ext em x1, QR.bind (QA.later x1 q1) fun p2 hp2 q2 g2 H2 W x2 e2 r2 => ?_⟩
    exact q2 g2 H2 _ x2 e2 (.cons (r1.ext e1 x2) r2)
theorem rps_small {xs : List PV} {vs : List V} (r : Rps K g H xs vs) (n : Nat) (h : xs.length ≤ n) (hn : n ≤ sizeLine) : vs.length ≤ sizeLine := by rw [← r.length]; exact Nat.le_trans h hn
theorem se_tup {f : SA} {x1} (h : PA X es (rdA X.K Ξ f)) (hl : ∀ s m xs m', f s m = .ok (xs, m') → xs.length = es.length) (hn : es.length ≤ 1000 := by decide) : PE X (.Tuple es x1 pos) (rdE X.K Ξ (eTup f)) :=
  PE_imp (pe_tup h) fun σ H Q ⟨g, s, m, em, sr, q⟩ => by
    refine ⟨g, s, m, em, sr, QR.bind q fun p hp q1 g1 H1 V x1 e1 r1 => ?_⟩
    refine ⟨rps_small r1 1000 ?_ (by rw [sizeLine_eq]; decide), fun p' hp' => QE.newT e1 r1 (QE.later x1 q1) hp'⟩
    rw [hl s m p.1 p.2 hp]; exact hn
theorem se_lst {f : SA} (h : PA X es (rdA X.K Ξ f)) (hl : ∀ s m xs m', f s m = .ok (xs, m') → xs.length = es.length) (hn : es.length ≤ 1000 := by decide) : PE X (.List es pos) (rdE X.K Ξ (eLst f)) :=
  PE_imp (pe_lst h) fun σ H Q ⟨g, s, m, em, sr, q⟩ => by
    refine ⟨g, s, m, em, sr, QR.bind q fun p hp q1 g1 H1 V x1 e1 r1 => ?_⟩
    refine ⟨rps_small r1 1000 ?_ (by rw [sizeLine_eq]; decide), fun p' hp' => QE.newL e1 r1 (QE.later x1 q1) hp'⟩
    rw [hl s m p.1 p.2 hp]; exact hn
theorem se_lstM {f : SA} (h : PA X es (rdA X.K Ξ f)) (hl : ∀ s m xs m', f s m = .ok (xs, m') → xs.length = es.length) (hn : es.length ≤ 1000 := by decide) : PE X (.List es pos) (rdE X.K Ξ (eLstM f)) :=
  PE_imp (pe_lst h) fun σ H Q ⟨g, s, m, em, sr, q⟩ => by
    refine ⟨g, s, m, em, sr, QR.bind q fun p hp q1 g1 H1 V x1 e1 r1 => ?_⟩
    refine ⟨rps_small r1 1000 ?_ (by rw [sizeLine_eq]; decide), fun p' hp' => QE.newM e1 r1 (QE.later x1 q1) hp'⟩
    rw [hl s m p.1 p.2 hp]; exact hn
end
/-- arguments come one for each expression -/
theorem al_nil : ∀ s m xs m', aNil s m = .ok (xs, m') → xs.length = ([] : List Expr).length := by
  intro s m xs m' h; cases h; rfl
theorem al_cons {fa : SE} {f : SA} {e : Expr} {es : List Expr} (h : ∀ s m xs m', f s m = .ok (xs, m') → xs.length = es.length) : ∀ s m xs m', aCons fa f s m = .ok (xs, m') → xs.length = (e :: es).length := by
  intro s m xs m' q
  obtain ⟨p, h1, h2⟩ := Rs.bind_eq_ok q
  obtain ⟨p2, h3, h4⟩ := Rs.bind_eq_ok h2
  cases h4
  rw [List.length_cons, h _ _ _ _ h3, List.length_cons]
section
variable {X : Cx} {Ξ : XC} {a b c e o : Expr} {es : List Expr} {pos : Pos} {fa fb fc : SE} {ft fu : ST} {K : PySem.W.Frag}
/-! ### calls of built-ins -/
theorem rd_eN {f : ON} {fs : SA} {σ : L2.St} {H : Hp} {Q : VK} (h : rdE K Ξ (eN f fs) σ H Q) : tCB (rdN K Ξ f) (rdA K Ξ fs) σ H Q := by
  obtain ⟨g, s, m, em, sr, q⟩ := h
  exact ⟨g, s, m, em, sr, QR.bind q fun p hp q1 g1 H1 V x1 e1 r1 => ⟨g1, p.2, p.1, e1, r1, QE.later x1 q1⟩⟩
theorem se_callB {x : Str} {p : Pos} {id : String} {f : ON} {fs : SA} (hc : CallR X (.builtin id) (rdN X.K Ξ f)) (hg : Gl X x) (hm : X.mg x = none) (hv : bootBuiltins x = some (.builtin id)) (ha : PA X (e :: es) (rdA X.K Ξ fs)) (hn : x ≠ "__name__" := by decide) (hdb : (x == ("__debug__" : Str)) = false := by decide)
    (he : starEach (e :: es) X.env = (false, eval e X.env) :: starEach es X.env := by rfl) (hpl : (backTo pos (starEach es X.env)).any (·.1) = false := by rfl) : PE X (.Call (.Name x p) (e :: es) [] pos) (rdE X.K Ξ (eN f fs)) :=
  PE_imp (pe_callB hc hg hm hv ha hn hdb he hpl) fun _ _ _ => rd_eN
theorem se_callTy {x : Str} {p : Pos} {T : String} {f : ON} {fs : SA} (hc : CallR X (.type T) (rdN X.K Ξ f)) (hg : Gl X x) (hm : X.mg x = none) (hv : bootBuiltins x = some (.type T)) (ha : PA X (e :: es) (rdA X.K Ξ fs)) (hn : x ≠ "__name__" := by decide) (hdb : (x == ("__debug__" : Str)) = false := by decide)
    (he : starEach (e :: es) X.env = (false, eval e X.env) :: starEach es X.env := by rfl) (hpl : (backTo pos (starEach es X.env)).any (·.1) = false := by rfl) : PE X (.Call (.Name x p) (e :: es) [] pos) (rdE X.K Ξ (eN f fs)) :=
  PE_imp (pe_callTy hc hg hm hv ha hn hdb he hpl) fun _ _ _ => rd_eN
/-- isinstance(x, T) -/
theorem se_isA {x y : Str} {p p2 : Pos} (t : Ty) (hg : Gl X x) (hm : X.mg x = none) (hv : bootBuiltins x = some (.builtin "isinstance")) (ha : PE X a (rdE X.K Ξ fa)) (hg2 : Gl X y) (hm2 : X.mg y = none) (hv2 : bootBuiltins y = some (.type t.name)) (hn : x ≠ "__name__" := by decide) (hdb : (x == ("__debug__" : Str)) = false := by decide)
    (hn2 : y ≠ "__name__" := by decide) (hdb2 : (y == ("__debug__" : Str)) = false := by decide) (hs : starEach [a, .Name y p2] X.env = (false, eval a X.env) :: starEach [.Name y p2] X.env := by rfl) :
    PE X (.Call (.Name x p) [a, .Name y p2] [] pos) (rdE X.K Ξ (e1 (oIsA t) fa)) :=
  PE_imp (pe_callB (call_tIsA t) hg hm hv (pa_cons ha (pa_cons (pe_bltn (v := .ty t.name) hg2 hm2 hv2 rfl hn2 hdb2) pa_nil) hs) hn hdb hs) fun σ H Q ⟨g, s, m, em, sr, q⟩ =>
    ⟨g, s, m, em, sr, QR.bind q fun p hp q1 g1 H1 V x1 e1 r1 => ⟨V, rfl, g1, p.2, p.1, e1, r1, QE.later x1 q1⟩⟩

/-! ### subscripts -/
theorem se_ix (ha : PE X a (rdE X.K Ξ fa)) (hb : PE X b (rdE X.K Ξ fb)) (hs : PlainIx b := by exact fun _ _ => rfl) : PE X (.Subscript a b pos) (rdE X.K Ξ (e2 oIx fa fb)) :=
  PE_imp (pe_ix ix_t ha hb hs) fun _ _ _ => rd_e2
/-- a[lo:hi] -/
theorem rd_part {f : SE} {σ : L2.St} {H : Hp} {Q : Option Int → Hp → Prop} (h : rdE K Ξ f σ H fun x H1 => ∃ i, x = .int i ∧ Q (some i) H1) : tPart (rdE K Ξ f) σ H Q := h
theorem se_sl0 {p2 : Pos} (ha : PE X a (rdE X.K Ξ fa)) : PE X (.Subscript a (.Slice none none none p2) pos) (rdE X.K Ξ (e1 (oSlice none none) fa)) :=
  PE_imp (pe_slice sl_t ha po_none po_none) fun σ H Q ⟨g, s, m, em, sr, q⟩ => by
    exact ⟨g, s, m, em, sr, QR.bind q fun p hp q1 g1 H1 V x1 e1 r1 => ⟨g1, p.2, p.1, e1, r1, QE.later x1 q1⟩⟩
theorem se_slL {p2 : Pos} (ha : PE X a (rdE X.K Ξ fa)) (hb : PE X b (rdE X.K Ξ fb)) : PE X (.Subscript a (.Slice (some b) none none p2) pos) (rdE X.K Ξ (eSlL fb fa)) :=
  PE_imp (pe_slice sl_t ha (po_some hb) po_none) fun σ H Q ⟨g, s, m, em, sr, q⟩ => by
    refine ⟨g, s, m, em, sr, QR.bind q fun p hp q1 g1 H1 V x1 e1 r1 => ?_⟩
    refine ⟨g1, s, p.2, e1, sr.ext em x1, QR.bind (QE.later x1 q1) fun p2 hp2 q2 g2 H2 W x2 e2 r2 => ?_⟩
    obtain ⟨l, m2⟩ := p2
    cases l with
    | int i => cases r2.int_inv; exact ⟨i, rfl, g2, m2, p.1, e2, r1.ext e1 x2, QE.later x2 q2⟩
    | _ => exact q2.elim
theorem se_slH {p2 : Pos} (ha : PE X a (rdE X.K Ξ fa)) (hb : PE X b (rdE X.K Ξ fb)) : PE X (.Subscript a (.Slice none (some b) none p2) pos) (rdE X.K Ξ (eSlH fb fa)) :=
  PE_imp (pe_slice sl_t ha po_none (po_some hb)) fun σ H Q ⟨g, s, m, em, sr, q⟩ => by
    refine ⟨g, s, m, em, sr, QR.bind q fun p hp q1 g1 H1 V x1 e1 r1 => ?_⟩
    refine ⟨g1, s, p.2, e1, sr.ext em x1, QR.bind (QE.later x1 q1) fun p2 hp2 q2 g2 H2 W x2 e2 r2 => ?_⟩
    obtain ⟨l, m2⟩ := p2
    cases l with
    | int i => cases r2.int_inv; exact ⟨i, rfl, g2, m2, p.1, e2, r1.ext e1 x2, QE.later x2 q2⟩
    | _ => exact q2.elim
theorem se_slLH {p2 : Pos} (ha : PE X a (rdE X.K Ξ fa)) (hb : PE X b (rdE X.K Ξ fb)) (hc : PE X c (rdE X.K Ξ fc)) : PE X (.Subscript a (.Slice (some b) (some c) none p2) pos) (rdE X.K Ξ (eSlLH fb fc fa)) :=
  PE_imp (pe_slice sl_t ha (po_some hb) (po_some hc)) fun σ H Q ⟨g, s, m, em, sr, q⟩ => by
    refine ⟨g, s, m, em, sr, QR.bind q fun p hp q1 g1 H1 V x1 e1 r1 => ?_⟩
    refine ⟨g1, s, p.2, e1, sr.ext em x1, QR.bind (QE.later x1 q1) fun p2 hp2 q2 g2 H2 W x2 e2 r2 => ?_⟩
    obtain ⟨l, m2⟩ := p2
    cases l with
    | int i =>
      cases r2.int_inv
      refine ⟨i, rfl, g2, s, m2, e2, (sr.ext em x1).ext e1 x2, QR.bind (QE.later x2 q2) fun p3 hp3 q3 g3 H3 U x3 e3 r3 => ?_⟩
      obtain ⟨u, m3⟩ := p3
      cases u with
      | int j => cases r3.int_inv; exact ⟨j, rfl, g3, m3, p.1, e3, (r1.ext e1 x2).ext e2 x3, QE.later x3 q3⟩
      | _ => exact q3.elim
    | _ => exact q2.elim
/-- methods of built-in types -/
def Tag.name : Tag → String
  | .list => "list" | .str => "str"
theorem tyV_of {g : Gh} {m : Mm} {H : Hp} {t : Tag} {v : PV} {w : V} (e : Emb K g m H) (h : tyOk m t v = true) (r : Rp K g H v w) : tyV K t.name w H := by
  cases t <;> cases r <;> simp only [tyOk] at h <;> first | cases h | skip
  · rename_i hh rr
    exact .inl ⟨rfl, _, SqL.of (e.ro _ _ hh).1⟩
  · rename_i hn
    split at h
    · rename_i ys hy
      obtain ⟨a', vs, h1, h2, h3⟩ := e.obj _ _ hy
      rw [hn] at h1; cases h1
      exact .inl ⟨rfl, _, SqL.of h2⟩
    · cases h
  · rfl
theorem se_meth {t : Tag} {id : String} {name : Str} {apos cpos : Pos} {f : PV → List PV → Mm → Rs (PV × Mm)} {fs : SA} {fo : SE} (pa : PlainAttrs t.name) (slot : Slot t.name name id) (hty : typeOf (.builtin id) = pure (.type "method_descriptor")) (hm : MtR X id (rdM X.K Ξ f)) (ho : PE X o (rdE X.K Ξ fo)) (ha : PA X (e :: es) (rdA X.K Ξ fs))
    (hbase : attributeBase o name X.env (eval o X.env) = eval o X.env := by rfl)
    (hfew : ((backTo cpos (starEach (e :: es) X.env)).all (fun x => !x.1) && (backToKw cpos (keywordEach [] X.env)).all (fun x => x.1.isSome)
      && decide ((e :: es).length + ([] : List Keyword).length + (if ([] : List Keyword).isEmpty then 0 else 1) < 30)) = true := by rfl)
    (hline : (apos.endLine == cpos.line) = true := by rfl) (hs : starEach (e :: es) X.env = (false, eval e X.env) :: starEach es X.env := by rfl) (hplain : (backTo cpos (starEach es X.env)).any (·.1) = false := by rfl) :
    PE X (.Call (.Attribute o name apos) (e :: es) [] cpos) (rdE X.K Ξ (eM t f fo fs)) :=
  PE_imp (pe_bm pa slot hty hm ho ha hbase hfew hline hs hplain) fun σ H Q ⟨g, s, m, em, sr, q⟩ => by
    refine ⟨g, s, m, em, sr, QR.bind q fun p hp q1 g1 H1 V x1 e1 r1 => ?_⟩
    obtain ⟨v, m1⟩ := p
    simp only at q1
    by_cases hty : tyOk m1 t v = true
    · rw [if_pos hty] at q1
      refine ⟨tyV_of e1 hty r1, g1, s, m1, e1, sr.ext em x1, QR.bind (QE.later x1 q1) fun p2 hp2 q2 g2 H2 W x2 e2 r2 => ?_⟩
      exact ⟨g2, p2.2, v, p2.1, e2, r1.ext e1 x2, r2, QE.later x2 q2⟩
    · rw [if_neg hty] at q1; exact q1.elim

/-! ### and, or, not, conditional expressions -/
theorem se_and1 {op pos} (h : PE X a (rdE X.K Ξ fa)) : PE X (.BoolOp op [a] pos) (rdE X.K Ξ fa) := pe_one h
theorem se_and {rest : List Expr} (ha : PE X a (rdE X.K Ξ fa)) (hb : PE X (.BoolOp .And (b :: rest) pos) (rdE X.K Ξ fb)) : PE X (.BoolOp .And (a :: b :: rest) pos) (rdE X.K Ξ (eAnd fa fb)) :=
  PE_imp (pe_and ha hb) fun σ H Q ⟨g, s, m, em, sr, q⟩ => by
    refine ⟨g, s, m, em, sr, QR.bind q fun p hp q1 g1 H1 V x1 e1 r1 => ?_⟩
    obtain ⟨v, m1⟩ := p
    cases v with
    | bl k =>
      cases r1.bl_inv
      refine ⟨k, rfl, ?_⟩
      cases k with
      | true => exact iteT ⟨g1, s, m1, e1, sr.ext em x1, QE.later x1 q1⟩
      | false => exact iteF (QE.ret e1 (.bl false) (QE.later x1 q1))
    | _ => exact q1.elim
theorem se_or {rest : List Expr} (ha : PE X a (rdE X.K Ξ fa)) (hb : PE X (.BoolOp .Or (b :: rest) pos) (rdE X.K Ξ fb)) : PE X (.BoolOp .Or (a :: b :: rest) pos) (rdE X.K Ξ (eOr fa fb)) :=
  PE_imp (pe_or ha hb) fun σ H Q ⟨g, s, m, em, sr, q⟩ => by
    refine ⟨g, s, m, em, sr, QR.bind q fun p hp q1 g1 H1 V x1 e1 r1 => ?_⟩
    obtain ⟨v, m1⟩ := p
    cases v with
    | bl k =>
      cases r1.bl_inv
      refine ⟨k, rfl, ?_⟩
      cases k with
      | false => exact iteF ⟨g1, s, m1, e1, sr.ext em x1, QE.later x1 q1⟩
      | true => exact iteT (QE.ret e1 (.bl true) (QE.later x1 q1))
    | _ => exact q1.elim
theorem se_not (ha : PE X a (rdE X.K Ξ fa)) : PE X (.UnaryOp .Not a pos) (rdE X.K Ξ (eNot fa)) :=
  PE_imp (pe_not ha) fun σ H Q ⟨g, s, m, em, sr, q⟩ => by
    refine ⟨g, s, m, em, sr, QR.bind q fun p hp q1 g1 H1 V x1 e1 r1 => ?_⟩
    obtain ⟨v, m1⟩ := p
    cases v with
    | bl k =>
      cases r1.bl_inv
      exact ⟨k, rfl, QE.ret e1 (.bl _) (QE.later x1 q1)⟩
    | _ => exact q1.elim
theorem sw_and1 {pos} (h : PT X a (rdT X.K Ξ ft)) : PW X (.BoolOp .And [a] pos) (rdT X.K Ξ ft) := pw_and1 h
theorem sw_or1 {pos} (h : PT X a (rdT X.K Ξ ft)) : PW X (.BoolOp .Or [a] pos) (rdT X.K Ξ ft) := pw_or1 h
theorem sw_and {rest : List Expr} (ha : PT X a (rdT X.K Ξ ft)) (hb : PW X (.BoolOp .And (b :: rest) pos) (rdT X.K Ξ fu)) : PW X (.BoolOp .And (a :: b :: rest) pos) (rdT X.K Ξ (tAnd ft fu)) :=
  PW_imp (pw_and ha hb) fun σ H Q ⟨g, s, m, em, sr, q⟩ => by
    refine ⟨g, s, m, em, sr, QR.bind q fun p hp q1 g1 H1 x1 e1 => ?_⟩
    obtain ⟨k, m1⟩ := p
    cases k with
    | true => exact iteT ⟨g1, s, m1, e1, sr.ext em x1, QT.later x1 q1⟩
    | false => exact iteF (q1 g1 H1 x1 e1)
theorem sw_or {rest : List Expr} (ha : PT X a (rdT X.K Ξ ft)) (hb : PW X (.BoolOp .Or (b :: rest) pos) (rdT X.K Ξ fu)) : PW X (.BoolOp .Or (a :: b :: rest) pos) (rdT X.K Ξ (tOr ft fu)) :=
  PW_imp (pw_or ha hb) fun σ H Q ⟨g, s, m, em, sr, q⟩ => by
    refine ⟨g, s, m, em, sr, QR.bind q fun p hp q1 g1 H1 x1 e1 => ?_⟩
    obtain ⟨k, m1⟩ := p
    cases k with
    | false => exact iteF ⟨g1, s, m1, e1, sr.ext em x1, QT.later x1 q1⟩
    | true => exact iteT (q1 g1 H1 x1 e1)
theorem st_w (h : PW X e (rdT X.K Ξ ft)) : PT X e (rdT X.K Ξ ft) := h.pt
theorem st_not (ha : PT X a (rdT X.K Ξ ft)) : PT X (.UnaryOp .Not a pos) (rdT X.K Ξ (tNot ft)) :=
  PT_imp (pt_not ha) fun σ H Q ⟨g, s, m, em, sr, q⟩ => by
    refine ⟨g, s, m, em, sr, QR.bind q fun p hp q1 g1 H1 x1 e1 => ?_⟩
    exact q1 g1 H1 x1 e1
theorem se_if (hc : PT X c (rdT X.K Ξ ft)) (ha : PE X a (rdE X.K Ξ fa)) (hb : PE X b (rdE X.K Ξ fb)) : PE X (.IfExp c a b pos) (rdE X.K Ξ (eIf ft fa fb)) :=
  PE_imp (pe_ifExp hc ha hb) fun σ H Q ⟨g, s, m, em, sr, q⟩ => by
    refine ⟨g, s, m, em, sr, QR.bind q fun p hp q1 g1 H1 x1 e1 => ?_⟩
    obtain ⟨k, m1⟩ := p
    cases k with
    | true => exact iteT ⟨g1, s, m1, e1, sr.ext em x1, QE.later x1 q1⟩
    | false => exact iteF ⟨g1, s, m1, e1, sr.ext em x1, QE.later x1 q1⟩
/-- a < b < c -/
theorem rd_chain {r r' : R2} {f f' : O2} {σ : L2.St} {H : Hp} {Q : VK} (hr : ∀ x y H Q, rd2 K Ξ f x y H Q → r x y H Q) (hr' : ∀ x y H Q, rd2 K Ξ f' x y H Q → r' x y H Q) (h : rdE K Ξ (eChain f f' fa fb fc) σ H Q) : tChain r r' (rdE K Ξ fa) (rdE K Ξ fb) (rdE K Ξ fc) σ H Q := by
  obtain ⟨g, s, m, em, sr, q⟩ := h
  refine ⟨g, s, m, em, sr, QR.bind q fun p hp q1 g1 H1 V x1 e1 r1 => ?_⟩
  refine ⟨g1, s, p.2, e1, sr.ext em x1, QR.bind (QE.later x1 q1) fun p2 hp2 q2 g2 H2 W x2 e2 r2 => ?_⟩
  have q2' := QE.later x2 q2
  refine hr _ _ _ _ ⟨g2, p2.2, p.1, p2.1, e2, r1.ext e1 x2, r2, QR.bind q2' fun p3 hp3 q3 g3 H3 Z x3 e3 r3 => ?_⟩
  obtain ⟨z, m3⟩ := p3
  cases z with
  | bl k =>
    cases r3.bl_inv
    refine ⟨k, rfl, ?_⟩
    cases k with
    | true =>
      refine iteT ⟨g3, s, m3, e3, ((sr.ext em x1).ext e1 x2).ext e2 x3, QR.bind (QE.later x3 q3) fun p4 hp4 q4 g4 H4 U x4 e4 r4 => ?_⟩
      exact hr' _ _ _ _ ⟨g4, p4.2, p2.1, p4.1, e4, (r2.ext e2 x3).ext e3 x4, r4, QE.later x4 q4⟩
    | false => exact iteF (QE.ret e3 (.bl false) (QE.later x3 q3))
  | _ => exact q3.elim
theorem se_chain {op op' : CmpOp} {f f' : O2} (h : OpR X (compareOp op) (rd2 X.K Ξ f)) (h' : OpR X (compareOp op') (rd2 X.K Ξ f')) (ha : PE X a (rdE X.K Ξ fa)) (hb : PE X b (rdE X.K Ξ fb)) (hc : PE X c (rdE X.K Ξ fc))
    (hm : lastMarks [op, op'] [b, c] = false := by with_unfolding_all rfl) : PE X (.Compare a [op, op'] [b, c] pos) (rdE X.K Ξ (eChain f f' fa fb fc)) :=
  PE_imp (pe_chain h h' ha hb hc hm) fun σ H Q q => rd_chain (fun _ _ _ _ h => h) (fun _ _ _ _ h => h) q
theorem st_chain {op op' : CmpOp} {f f' : O2} (h : OpR X (compareOp op) (rd2 X.K Ξ f)) (h' : OpR X (compareOp op') (rd2 X.K Ξ f')) (ha : PE X a (rdE X.K Ξ fa)) (hb : PE X b (rdE X.K Ξ fb)) (hc : PE X c (rdE X.K Ξ fc))
    (hm : lastMarks [op, op'] [b, c] = false := by with_unfolding_all rfl) : PT X (.Compare a [op, op'] [b, c] pos) (rdT X.K Ξ (tV (eChain f f' fa fb fc))) :=
  PT_imp (pt_chain h h' ha hb hc hm) fun σ H Q q => st_of (e := a) (fun _ h => rd_chain (fun _ _ _ _ h => h) (fun _ _ _ _ h => h) h) q
end
end TT
end

section
set_option Elab.async false
set_option linter.all false
set_option autoImplicit false
set_option maxRecDepth 100000
/-! TT: targets, statements, loops, comprehensions -/
namespace TT
open PySem PySem.Spec PyProof.Rows L2
/-- behind a target, a ghost step -/
abbrev PEndG (K : PySem.W.Frag) (g : Gh) (H : Hp) (Q : L2.St → Hp → Prop) : Sl × Mm → Prop := fun p => ∀ g' H' σ', Ext g H g' H' → Emb K g' p.2 H' → Sr K g' H' p.1 σ' → Q σ' H'
abbrev QG (K : PySem.W.Frag) (Ξ : XC) (g : Gh) (H : Hp) (Q : L2.St → Hp → Prop) (r : Rs (Sl × Mm)) : Prop := QR K Ξ g H (PEndG K g H Q) r
theorem QG.later {K : PySem.W.Frag} {Ξ : XC} {g g' : Gh} {H H' : Hp} {Q : L2.St → Hp → Prop} {r : Rs (Sl × Mm)} (x : Ext g H g' H') (h : QG K Ξ g H Q r) : QG K Ξ g' H' Q r := QR.later x h fun _ p g2 H2 V x2 => p g2 H2 V (x.trans x2)
def rdG (K : PySem.W.Frag) (Ξ : XC) (f : SG) : TG := fun v σ H Q => ∃ g s m pv, Emb K g m H ∧ Sr K g H s σ ∧ Rp K g H pv v ∧ QG K Ξ g H Q (f pv s m)
/-- names one after another -/
def rdGs (K : PySem.W.Frag) (Ξ : XC) (is : List Nat) : TGs := fun vs σ H Q => ∃ g s m pvs, Emb K g m H ∧ Sr K g H s σ ∧ Rps K g H pvs vs ∧ ∃ s', gNames is pvs s = some s' ∧ ∀ σ', Sr K g H s' σ' → Q σ' H
section
variable {X : Cx} {Ξ : XC} {a b c e o : Expr} {es : List Expr} {pos : Pos} {fa fb fc : SE} {ft : ST} {K : PySem.W.Frag}
theorem sg_name (i : Nat) {x : Str} (hN : X.N.Nodup) (hi : X.N[i]? = some x := by rfl) (hx : Loc X.env.scope x := by first | exact Or.inl rfl | exact Or.inr rfl) (hf : X.fn x = true ∨ X.env.scope.names.lookup x = some .local := by first | exact .inl rfl | exact .inr rfl | assumption) : PG X (.Name x pos) (rdG X.K Ξ (gName i)) :=
  PG_imp (pg_name hN hi hx hf) fun v σ H Q ⟨g, s, m, pv, em, sr, rv, q⟩ => q g H _ (Ext.refl _ _) em (sr.set rv i)
theorem gNames_len : ∀ (is : List Nat) (vs : List PV) (s s' : Sl), gNames is vs s = some s' → vs.length = is.length
  | [], [], _, _, _ => rfl
  | [], _ :: _, _, _, h => by cases h
  | _ :: _, [], _, _, h => by cases h
  | _ :: is, _ :: vs, s, s', h => by rw [List.length_cons, List.length_cons, gNames_len is vs _ s' h]
theorem sgs_nil : PGs X [] (rdGs X.K Ξ []) := ⟨fun pins s σ H vs us Q I r ⟨g, sl, m, pvs, em, sr, rs, s', h, q⟩ => by
  cases pvs with
  | nil => cases h; cases rs; exact pgs_nil.run pins s σ H [] us Q I r ⟨rfl, q σ sr⟩
  | cons => cases h⟩
theorem sgs_cons {is : List Nat} (i : Nat) {x : Str} {p : Pos} (hN : X.N.Nodup) (h2 : PGs X es (rdGs X.K Ξ is)) (hi : X.N[i]? = some x := by rfl) (hx : Loc X.env.scope x := by first | exact Or.inl rfl | exact Or.inr rfl) (hf : X.fn x = true ∨ X.env.scope.names.lookup x = some .local := by first | exact .inl rfl | exact .inr rfl | assumption)
    (hs : (assignEach (.Name x p :: es) X.env).map (·.2) = assign (.Name x p) X.env :: (assignEach es X.env).map (·.2) := by rfl) : PGs X (.Name x p :: es) (rdGs X.K Ξ (i :: is)) :=
  ⟨fun pins s σ H vs us Q I r ⟨g, sl, m, pvs, em, sr, rs, s', h, q⟩ => by
    cases pvs with
    | nil => cases h
    | cons pv pvs =>
      cases rs with
      | cons r1 r2 =>
        exact (pgs_cons (pg_name hN hi hx hf) h2 hs).run pins s σ H _ us Q I r ⟨_, _, rfl, g, _, m, pvs, em, sr.set r1 i, r2, s', h, q⟩⟩
theorem sg_tup {is : List Nat} {k : Nat} (n : Nat) (hc : X.calm = true) (h : PGs X es (rdGs X.K Ξ is)) (hl : is.length = n := by rfl) (hn : (assignEach es X.env).length = n := by rfl) (hst : (assignEach es X.env).findIdx? (·.1) = none := by rfl) : PG X (.Tuple es k pos) (rdG X.K Ξ (gTup is)) :=
  PG_imp (pg_tup hc h hn hst) fun v σ H Q ⟨g, s, m, pv, em, sr, rv, q⟩ => by
    unfold gTup at q
    split at q
    · rename_i vs
      obtain ⟨a, ws, rfl, ha, r1⟩ := rv.tup_inv
      split at q
      · rename_i s' hs
        have hlen : vs.length = n := by rw [← hl]; exact gNames_len _ _ _ _ hs
        exact ⟨a, ws, rfl, ha, by rw [← r1.length]; exact hlen, g, s, m, vs, em, sr, r1, s', hs, fun σ' sr' => q g H σ' (Ext.refl _ _) em sr'⟩
      · exact q.elim
    · exact q.elim
theorem sg_sub (ho : PE X o (rdE X.K Ξ fa)) (hi : PE X e (rdE X.K Ξ fb)) (ha : ∀ v, assign (.Subscript o e pos) X.env v = (do
      let ov ← holding [v] (eval o X.env)
      let iv ← holding [v, ov] (eval e X.env)
      standAt pos
      holding [v, ov, iv] (setItem ov iv v)
      release [v, ov, iv] []) := by intro _; rfl) : PG X (.Subscript o e pos) (rdG X.K Ξ (gSub fa fb)) :=
  PG_imp (pg_sub ho hi set_t ha) fun v σ H Q ⟨g, s, m, pv, em, sr, rv, q⟩ => by
    refine ⟨g, s, m, em, sr, QR.bind q fun p hp q1 g1 H1 V x1 e1 r1 => ?_⟩
    refine ⟨g1, s, p.2, e1, sr.ext em x1, QR.bind (QG.later x1 q1) fun p2 hp2 q2 g2 H2 W x2 e2 r2 => ?_⟩
    refine ⟨g2, p2.2, p.1, p2.1, pv, e2, r1.ext e1 x2, r2, (rv.ext em x1).ext e1 x2, QR.bind (QG.later x2 q2) fun m3 hm3 q3 g3 H3 x3 e3 => ?_⟩
    exact q3 g3 H3 σ x3 e3 ((((sr.ext em x1).ext e1 x2)).ext e2 x3)

/-! ### statements -/
section
variable {st : Stmt} {rest : List Stmt} {f h : SS}
theorem QS_nx {g : Gh} {H : Hp} {m : Mm} {s : Sl} {σ : L2.St} {D : Ends} (em : Emb K g m H) (sr : Sr K g H s σ) (q : QS K Ξ g H D (.ok (.nx, s, m))) : D.nx σ H := q g H σ (Ext.refl _ _) em sr
theorem rd_seq {t u : TS} {D : Ends} {σ : L2.St} {H : Hp} (ht : ∀ D σ H, rdS K Ξ f D σ H → t D σ H) (hu : ∀ D σ H, rdS K Ξ h D σ H → u D σ H) (q : rdS K Ξ (sSeq f h) D σ H) : tSeq t u D σ H := by
  obtain ⟨g, s, m, em, sr, q⟩ := q
  refine ht _ _ _ ⟨g, s, m, em, sr, QR.bind q fun p hp q1 g1 H1 σ1 x1 e1 r1 => ?_⟩
  obtain ⟨fl, s1, m1⟩ := p
  cases fl with
  | nx => exact hu D σ1 H1 ⟨g1, s1, m1, e1, r1, QS.later x1 q1⟩
  | bk => exact q1 g1 H1 σ1 x1 e1 r1
  | ct => exact q1 g1 H1 σ1 x1 e1 r1
  | rt v => exact q1 g1 H1 σ1 x1 e1 r1
theorem ss_nil : PSs X [] (rdS X.K Ξ sSkip) := PSs_imp pss_nil fun D σ H ⟨g, s, m, em, sr, q⟩ => QS_nx em sr q
theorem ss_cons (h1 : PS X st (rdS X.K Ξ f)) (h2 : PSs X rest (rdS X.K Ξ h)) : PSs X (st :: rest) (rdS X.K Ξ (sSeq f h)) :=
  PSs_imp (pss_cons h1 h2) fun D σ H q => rd_seq (fun _ _ _ h => h) (fun _ _ _ h => h) q
theorem ss_one (h1 : PS X st (rdS X.K Ξ f)) : PSs X [st] (rdS X.K Ξ f) := pss_one h1
/-- a ghost step ahead of the rest: the list in slot i is changed no more -/
theorem frz_step {K : PySem.W.Frag} {g : Gh} {m : Mm} {H : Hp} {s : Sl} {σ : L2.St} {i n : Nat} {xs : List PV} (em : Emb K g m H) (sr : Sr K g H s σ) (h1 : s[i]? = some (some (.ref n))) (h2 : m[n]? = some (.lst xs)) :
    ∃ g', Ext g H g' H ∧ Emb K g' (m.set n .dead) H ∧ Sr K g' H (s.set i (some (.vl xs))) σ := by
  obtain ⟨w, hw, rw'⟩ := sr.at_ i _ h1
  obtain ⟨a, rfl, hn⟩ := rw'.ref_inv
  obtain ⟨g', x, e', rv⟩ := em.freeze h2 hn
  refine ⟨g', x, e', ⟨by rw [List.length_set]; exact sr.len, fun j v hv => ?_⟩⟩
  by_cases hj : i = j
  · subst hj
    have hi : i < s.length := (List.getElem?_eq_some_iff.mp h1).1
    rw [List.getElem?_set_self hi] at hv
    cases hv
    exact ⟨_, hw, rv⟩
  · rw [List.getElem?_set_ne hj] at hv
    obtain ⟨u, h3, h4⟩ := sr.at_ j v hv
    exact ⟨u, h3, h4.ext em x⟩
theorem ss_frz {sts : List Stmt} (i : Nat) (h1 : PSs X sts (rdS X.K Ξ f)) : PSs X sts (rdS X.K Ξ (sSeq (sFrz i) f)) :=
  PSs_imp h1 fun D σ H ⟨g, s, m, em, sr, q⟩ => by
    simp only [sSeq, sFrz] at q
    split at q
    · rename_i n hn
      split at q
      · rename_i xs hx
        obtain ⟨g', x, e', sr'⟩ := frz_step em sr hn hx
        exact ⟨g', _, _, e', sr', QS.later x q⟩
      · exact q.elim
    · exact q.elim
theorem ss_expr (he : PE X e (rdE X.K Ξ fa)) (hs : swapsWith e none pos.line X.env = pure false := by rfl) : PS X (.Expr e pos) (rdS X.K Ξ (sExpr fa)) :=
  PS_imp (ps_expr he hs) fun D σ H ⟨g, s, m, em, sr, q⟩ =>
    ⟨g, s, m, em, sr, QR.bind q fun p hp q1 g1 H1 V x1 e1 r1 => QS_nx e1 (sr.ext em x1) (QS.later x1 q1)⟩
theorem ss_ret (he : PE X e (rdE X.K Ξ fa)) : PS X (.Return (some e) pos) (rdS X.K Ξ (sRet fa)) :=
  PS_imp (ps_ret he) fun D σ H ⟨g, s, m, em, sr, q⟩ =>
    ⟨g, s, m, em, sr, QR.bind q fun p hp q1 g1 H1 V x1 e1 r1 => q1 g1 H1 σ x1 e1 (sr.ext em x1) V r1⟩
theorem ss_retN : PS X (.Return none pos) (rdS X.K Ξ sRetN) :=
  PS_imp ps_retN fun D σ H ⟨g, s, m, em, sr, q⟩ => q g H σ (Ext.refl _ _) em sr _ .non
theorem ss_pass : PS X (.Pass pos) (rdS X.K Ξ sSkip) := PS_imp ps_pass fun D σ H ⟨g, s, m, em, sr, q⟩ => QS_nx em sr q
theorem ss_break : PS X (.Break pos) (rdS X.K Ξ sBreak) := PS_imp ps_break fun D σ H ⟨g, s, m, em, sr, q⟩ => q g H σ (Ext.refl _ _) em sr
theorem ss_cont : PS X (.Continue pos) (rdS X.K Ξ sCont) := PS_imp ps_continue fun D σ H ⟨g, s, m, em, sr, q⟩ => q g H σ (Ext.refl _ _) em sr
theorem ss_never : PS X st (rdS X.K Ξ sNever) := PS_imp ps_never fun D σ H ⟨g, s, m, em, sr, q⟩ => q.elim
theorem ss_if {c : Expr} {b1 b2 : List Stmt} (hc : PT X c (rdT X.K Ξ ft)) (ha : PSs X b1 (rdS X.K Ξ f)) (hb : PSs X b2 (rdS X.K Ξ h)) : PS X (.If c b1 b2 pos) (rdS X.K Ξ (sIf ft f h)) :=
  PS_imp (ps_if hc ha hb) fun D σ H ⟨g, s, m, em, sr, q⟩ => by
    refine ⟨g, s, m, em, sr, QR.bind q fun p hp q1 g1 H1 x1 e1 => ?_⟩
    obtain ⟨k, m1⟩ := p
    cases k with
    | true => exact iteT ⟨g1, s, m1, e1, sr.ext em x1, QS.later x1 q1⟩
    | false => exact iteF ⟨g1, s, m1, e1, sr.ext em x1, QS.later x1 q1⟩
theorem ss_asg {tg : Expr} {fg : SG} (he : PE X e (rdE X.K Ξ fa)) (hg : PG X tg (rdG X.K Ξ fg)) (hs : swapsWithSole [tg] e pos.line X.env = pure false := by rfl) (hw : swappedStores [tg] e X.env = pure none := by rfl)
    (h1 : (assignEach [tg] X.env).map (·.2) = [assign tg X.env] := by rfl) : PS X (.Assign [tg] e pos) (rdS X.K Ξ (sAsg fa fg)) :=
  PS_imp (ps_asg he hg hs hw h1) fun D σ H ⟨g, s, m, em, sr, q⟩ => by
    refine ⟨g, s, m, em, sr, QR.bind q fun p hp q1 g1 H1 V x1 e1 r1 => ?_⟩
    refine ⟨g1, s, p.2, p.1, e1, sr.ext em x1, r1, QR.bind (QS.later x1 q1) fun p2 hp2 q2 g2 H2 σ2 x2 e2 r2 => ?_⟩
    exact QS_nx e2 r2 (QS.later x2 q2)
theorem ss_set (i : Nat) {x : Str} {pos' : Pos} (hN : X.N.Nodup) (he : PE X e (rdE X.K Ξ fa)) (hi : X.N[i]? = some x := by rfl) (hx : Loc X.env.scope x := by first | exact Or.inl rfl | exact Or.inr rfl) (hs : swapsWith e (some (.Name x pos')) pos.line X.env = pure false := by rfl) (hf : X.fn x = true ∨ X.env.scope.names.lookup x = some .local := by first | exact .inl rfl | exact .inr rfl | assumption) :
    PS X (.Assign [.Name x pos'] e pos) (rdS X.K Ξ (sAsg fa (gName i))) :=
  PS_imp (ps_set hN hi hx he hs hf) fun D σ H ⟨g, s, m, em, sr, q⟩ => by
    refine ⟨g, s, m, em, sr, QR.bind q fun p hp q1 g1 H1 V x1 e1 r1 => ?_⟩
    exact QS_nx e1 ((sr.ext em x1).set r1 i) (QS.later x1 q1)
theorem ss_par2 (i j : Nat) {x y : Str} {px py pt : Pos} {kt k2 pt2} {fs : SA} (hc : X.calm = true) (hN : X.N.Nodup) (ha : PA X [a, b] (rdA X.K Ξ fs)) (hi : X.N[i]? = some x := by rfl) (hj : X.N[j]? = some y := by rfl) (hij : i ≠ j := by decide)
    (hx : X.env.scope.names.lookup x = some .local := by rfl) (hy : X.env.scope.names.lookup y = some .local := by rfl)
    (hw : swappedStores [.Tuple [.Name x px, .Name y py] kt pt] (.Tuple [a, b] k2 pt2) X.env = pure (some [x, y]) := by rfl)
    (hs : swapsWithSole [.Tuple [.Name x px, .Name y py] kt pt] (.Tuple [a, b] k2 pt2) pos.line X.env = pure false := by rfl) :
    PS X (.Assign [.Tuple [.Name x px, .Name y py] kt pt] (.Tuple [a, b] k2 pt2) pos) (rdS X.K Ξ (sPar2 i j fs)) :=
  PS_imp (ps_par hc hN hi hj hij hx hy ha hw hs) fun D σ H ⟨g, s, m, em, sr, q⟩ => by
    refine ⟨g, s, m, em, sr, QR.bind q fun p hp q1 g1 H1 V x1 e1 r1 => ?_⟩
    obtain ⟨xs, m1⟩ := p
    simp only at q1
    split at q1
    · rename_i u v
      cases r1 with
      | cons ra rb => cases rb with
        | cons rb rc =>
          cases rc
          exact ⟨_, _, rfl, QS_nx e1 (((sr.ext em x1).set ra i).set rb j) (QS.later x1 q1)⟩
    · exact q1.elim
theorem ss_par3 (i j l : Nat) {x y z : Str} {px py pz pt : Pos} {kt k2 pt2} {fs : SA} (hc : X.calm = true) (hN : X.N.Nodup) (ha : PA X [a, b, c] (rdA X.K Ξ fs)) (hi : X.N[i]? = some x := by rfl) (hj : X.N[j]? = some y := by rfl) (hl : X.N[l]? = some z := by rfl) (hij : i ≠ j := by decide) (hil : i ≠ l := by decide) (hjl : j ≠ l := by decide)
    (hx : X.env.scope.names.lookup x = some .local := by rfl) (hy : X.env.scope.names.lookup y = some .local := by rfl) (hz : X.env.scope.names.lookup z = some .local := by rfl)
    (hw : swappedStores [.Tuple [.Name x px, .Name y py, .Name z pz] kt pt] (.Tuple [a, b, c] k2 pt2) X.env = pure (some [x, y, z]) := by rfl)
    (hs : swapsWithSole [.Tuple [.Name x px, .Name y py, .Name z pz] kt pt] (.Tuple [a, b, c] k2 pt2) pos.line X.env = pure false := by rfl) :
    PS X (.Assign [.Tuple [.Name x px, .Name y py, .Name z pz] kt pt] (.Tuple [a, b, c] k2 pt2) pos) (rdS X.K Ξ (sPar3 i j l fs)) :=
  PS_imp (ps_par3 hc hN hi hj hl hij hil hjl hx hy hz ha hw hs) fun D σ H ⟨g, s, m, em, sr, q⟩ => by
    refine ⟨g, s, m, em, sr, QR.bind q fun p hp q1 g1 H1 V x1 e1 r1 => ?_⟩
    obtain ⟨xs, m1⟩ := p
    simp only at q1
    split at q1
    · cases r1 with
      | cons ra rb => cases rb with
        | cons rb rc => cases rc with
          | cons rc rd =>
            cases rd
            exact ⟨_, _, _, rfl, QS_nx e1 ((((sr.ext em x1).set ra i).set rb j).set rc l) (QS.later x1 q1)⟩
    · exact q1.elim

/-! ### while -/
theorem ss_while {body : List Stmt} (hp : PassesOwn (model X.prog X.w) X.A X.env X.xe) (hc : PT X c (rdT X.K Ξ ft)) (hb : PSs X body (rdS X.K Ξ f)) : PS X (.While c body [] pos) (rdS X.K Ξ (sWhile ft f)) :=
  PS_imp (ps_while hp hc hb) fun D σ H ⟨g, s, m, em, sr, q⟩ => by
    refine ⟨fun n σ H => ∃ g s m, Emb X.K g m H ∧ Sr X.K g H s σ ∧ QS X.K Ξ g H D (whileF ft f n s m), ⟨FUEL, g, s, m, em, sr, q⟩, ?_⟩
    rintro n σ1 H1 ⟨g1, s1, m1, e1, r1, q1⟩
    cases n with
    | zero => exact q1.elim
    | succ n =>
      refine ⟨g1, s1, m1, e1, r1, QR.bind q1 fun p hp q2 g2 H2 x2 e2 => ?_⟩
      obtain ⟨k, m2⟩ := p
      cases k with
      | false => exact iteF (QS_nx e2 (r1.ext e1 x2) (QS.later x2 q2))
      | true =>
        refine iteT ⟨fun σ' H' => ∃ g s m, Emb X.K g m H' ∧ Sr X.K g H' s σ' ∧ QS X.K Ξ g H' D (whileF ft f n s m), fun σ' H' hN => ⟨n, Nat.lt_succ_self _, hN⟩, ?_⟩
        refine ⟨g2, s1, m2, e2, r1.ext e1 x2, QR.bind (QS.later x2 q2) fun p3 hp3 q3 g3 H3 σ3 x3 e3 r3 => ?_⟩
        obtain ⟨fl, s3, m3⟩ := p3
        cases fl with
        | nx => exact ⟨g3, s3, m3, e3, r3, QS.later x3 q3⟩
        | ct => exact ⟨g3, s3, m3, e3, r3, QS.later x3 q3⟩
        | bk => exact QS_nx e3 r3 (QS.later x3 q3)
        | rt v => exact q3 g3 H3 σ3 x3 e3 r3

/-! ### for -/
/-- the iterator walks these items, whatever the heap becomes -/
structure Wk (K : PySem.W.Frag) (g : Gh) (H : Hp) (xs : List PV) (J : It) : Prop where
  go : ∀ g' m' H' i, Ext g H g' H' → Emb K g' m' H' → i < xs.length → J.go i H' ∧ ∀ x H2, J.yld i H' x H2 → ∃ g2 v, Ext g' H' g2 H2 ∧ Emb K g2 m' H2 ∧ xs[i]? = some v ∧ Rp K g2 H2 v x
  stop : ∀ g' m' H' i, Ext g H g' H' → Emb K g' m' H' → xs.length ≤ i → J.stop i H'
def rdI (K : PySem.W.Frag) (Ξ : XC) (it : SI) : TI := fun σ H R => ∃ g s m, Emb K g m H ∧ Sr K g H s σ ∧ QR K Ξ g H (fun p => ∀ g' H' J, Ext g H g' H' → Emb K g' p.2 H' → Wk K g' H' p.1 J → R J H') (it s m)
theorem PI_imp {tg iter : Expr} {t t' : TI} (h : PI X tg iter t) (i : ∀ σ H R, t' σ H R → t σ H R) : PI X tg iter t' := ⟨fun pins s σ H R I q => h.run pins s σ H R I (i σ H R q)⟩
theorem ss_for {tg iter : Expr} {body : List Stmt} {it : SI} {fg : SG} (hp : PassesOwn (model X.prog X.w) X.A X.env X.xe) (hc : X.calm = true) (hi : PI X tg iter (rdI X.K Ξ it)) (hg : PG X tg (rdG X.K Ξ fg)) (hb : PSs X body (rdS X.K Ξ f))
    (hs : ∀ x, foldedSetIterable iter X.env x = pure x := by intro _; rfl) : PS X (.For tg iter body [] pos) (rdS X.K Ξ (sFor it fg f)) :=
  PS_imp (ps_for hp hc hi hg hb hs) fun D σ H ⟨g, s, m, em, sr, q⟩ => by
    refine ⟨g, s, m, em, sr, QR.bind q fun p hp q1 g1 H1 J x1 e1 wk => ?_⟩
    obtain ⟨xs, m1⟩ := p
    refine ⟨fun i n σ H => ∃ g s m, Ext g1 H1 g H ∧ Emb X.K g m H ∧ Sr X.K g H s σ ∧ n = xs.length - i ∧ QS X.K Ξ g H D (forL fg f (xs.drop i) s m), ⟨xs.length, g1, s, m1, Ext.refl _ _, e1, sr.ext em x1, by simp, QS.later x1 (by simpa using q1)⟩, ?_⟩
    rintro i n σ2 H2 ⟨g2, s2, m2, x2, e2, r2, rfl, q2⟩
    by_cases hlt : i < xs.length
    · obtain ⟨h1, h2⟩ := wk.go g2 m2 H2 i x2 e2 hlt
      refine .inr ⟨h1, fun σ' H' => ∃ g s m, Ext g1 H1 g H' ∧ Emb X.K g m H' ∧ Sr X.K g H' s σ' ∧ QS X.K Ξ g H' D (forL fg f (xs.drop (i + 1)) s m), ?_, ?_⟩
      · rintro σ' H' ⟨g', s', m', hx, he, hr, hq⟩
        exact ⟨xs.length - (i + 1), by omega, g', s', m', hx, he, hr, rfl, hq⟩
      · intro x H3 hy
        obtain ⟨g3, v, x3, e3, hv, rv⟩ := h2 x H3 hy
        have hd : xs.drop i = v :: xs.drop (i + 1) := by
          rw [List.drop_eq_getElem_cons hlt]
          rw [List.getElem?_eq_getElem hlt] at hv
          cases hv; rfl
        rw [hd] at q2
        refine ⟨g3, s2, m2, v, e3, r2.ext e2 x3, rv, QR.bind (QS.later x3 q2) fun p4 hp4 q4 g4 H4 σ4 x4 e4 r4 => ?_⟩
        refine ⟨g4, p4.1, p4.2, e4, r4, QR.bind (QS.later x4 q4) fun p5 hp5 q5 g5 H5 σ5 x5 e5 r5 => ?_⟩
        obtain ⟨fl, s5, m5⟩ := p5
        have xx : Ext g1 H1 g5 H5 := ((x2.trans x3).trans x4).trans x5
        cases fl with
        | nx => exact ⟨g5, s5, m5, xx, e5, r5, QS.later x5 q5⟩
        | ct => exact ⟨g5, s5, m5, xx, e5, r5, QS.later x5 q5⟩
        | bk => exact QS_nx e5 r5 (QS.later x5 q5)
        | rt v => exact q5 g5 H5 σ5 x5 e5 r5
    · have hle : xs.length ≤ i := Nat.le_of_not_lt hlt
      refine .inl ⟨wk.stop g2 m2 H2 i x2 e2 hle, ?_⟩
      rw [List.drop_of_length_le hle] at q2
      exact QS_nx e2 r2 q2

/-! what is walked -/
theorem wk_vl {g : Gh} {H : Hp} {xs : List PV} {a : Addr} {vs : List V} (ha : g.ro a = some (.lst vs)) (r : Rps K g H xs vs) {m : Mm} (em : Emb K g m H) : Wk K g H xs (Itl K a) := by
  refine ⟨fun g' m' H' i x' e' hi => ?_, fun g' m' H' i x' e' hi => ?_⟩
  · have h1 : H' a = some (.lst vs) := (e'.ro _ _ (x'.ro _ _ ha)).1
    have r' := r.ext em x'
    have hlt : i < vs.length := by rw [← r.length]; exact hi
    refine ⟨⟨vs, vs[i], SqL.of h1, List.getElem?_eq_getElem hlt⟩, fun x H2 ⟨e2, hy⟩ => ?_⟩
    subst e2
    have hx := hy vs (SqL.of h1)
    obtain ⟨v, hv, rv⟩ := r'.get' hx
    exact ⟨g', v, Ext.refl _ _, e', hv, rv⟩
  · have h1 : H' a = some (.lst vs) := (e'.ro _ _ (x'.ro _ _ ha)).1
    exact ⟨vs, SqL.of h1, by rw [← r.length]; exact hi⟩
theorem wk_tup {g : Gh} {H : Hp} {xs : List PV} {a : Addr} {vs : List V} (ha : SqT K H a vs) (r : Rps K g H xs vs) {m : Mm} (em : Emb K g m H) : Wk K g H xs (Itt K a) := by
  refine ⟨fun g' m' H' i x' e' hi => ?_, fun g' m' H' i x' e' hi => ?_⟩
  · have h1 := em.sqT x' ha
    have r' := r.ext em x'
    have hlt : i < vs.length := by rw [← r.length]; exact hi
    refine ⟨⟨vs, vs[i], h1, List.getElem?_eq_getElem hlt⟩, fun x H2 ⟨e2, hy⟩ => ?_⟩
    subst e2
    have hx := hy vs h1
    obtain ⟨v, hv, rv⟩ := r'.get' hx
    exact ⟨g', v, Ext.refl _ _, e', hv, rv⟩
  · exact ⟨vs, em.sqT x' ha, by rw [← r.length]; exact hi⟩
theorem rngL_len : ∀ (n : Nat) (lo : Int), (rngL lo n).length = n
  | 0, _ => rfl
  | n + 1, lo => by rw [rngL, List.length_cons, rngL_len n]
theorem rngL_get : ∀ (n : Nat) (lo : Int) (i : Nat), i < n → (rngL lo n)[i]? = some (.int (lo + i))
  | 0, _, i, h => absurd h (Nat.not_lt_zero i)
  | n + 1, lo, 0, _ => by simp [rngL]
  | n + 1, lo, i + 1, h => by
    rw [rngL, List.getElem?_cons_succ, rngL_get n (lo + 1) i (Nat.lt_of_succ_lt_succ h)]
    have : lo + 1 + (i : Int) = lo + ((i + 1 : Nat) : Int) := by omega
    rw [this]
theorem wk_rng {g : Gh} {H : Hp} {lo : Int} {n : Nat} : Wk K g H (rngL lo n) (Itr lo n) := by
  refine ⟨fun g' m' H' i x' e' hi => ?_, fun g' m' H' i x' e' hi => ?_⟩
  · rw [rngL_len] at hi
    refine ⟨hi, fun x H2 ⟨e2, hy⟩ => ?_⟩
    subst e2
    subst hy
    exact ⟨g', _, Ext.refl _ _, e', rngL_get n lo i hi, .int _⟩
  · rw [rngL_len] at hi; exact hi
variable {tg : Expr}
/-- a list, by a value -/
theorem si_list (h : PE X e (rdE X.K Ξ fa)) : PI X tg e (rdI X.K Ξ (iL fa)) :=
  PI_imp (pi_list h) fun σ H R ⟨g, s, m, em, sr, q⟩ => by
    refine ⟨g, s, m, em, sr, QR.bind q fun p hp q1 g1 H1 V x1 e1 r1 => ?_⟩
    obtain ⟨v, m1⟩ := p
    cases v with
    | vl xs => cases r1 with
      | vl ha rr => exact ⟨_, rfl, ⟨_, SqL.of (e1.ro _ _ ha).1⟩, q1 g1 H1 _ x1 e1 (wk_vl ha rr e1)⟩
    | _ => exact q1.elim
theorem si_tup (h : PE X e (rdE X.K Ξ fa)) : PI X tg e (rdI X.K Ξ (iT fa)) :=
  PI_imp (pi_tup h) fun σ H R ⟨g, s, m, em, sr, q⟩ => by
    refine ⟨g, s, m, em, sr, QR.bind q fun p hp q1 g1 H1 V x1 e1 r1 => ?_⟩
    obtain ⟨v, m1⟩ := p
    cases v with
    | tup xs => cases r1 with
      | tup ha rr => exact ⟨_, rfl, ⟨_, ha⟩, q1 g1 H1 _ x1 e1 (wk_tup ha rr e1)⟩
    | _ => exact q1.elim
theorem si_rng1 {p p2 : Pos} (hg : Gl X "range") (hm : X.mg "range" = none) (h : PE X e (rdE X.K Ξ fa)) (hs : starEach [e] X.env = [(false, eval e X.env)] := by rfl) : PI X tg (.Call (.Name "range" p) [e] [] p2) (rdI X.K Ξ (TT.iRng1 fa)) :=
  PI_imp (pi_range1 hg hm (pa_cons h pa_nil hs) hs) fun σ H R ⟨g, s, m, em, sr, q⟩ => by
    refine ⟨g, s, m, em, sr, QR.bind q fun p hp q1 g1 H1 V x1 e1 r1 => ?_⟩
    obtain ⟨v, m1⟩ := p
    cases v with
    | int j =>
      cases r1.int_inv
      simp only at q1
      split at q1
      · rename_i hc
        simp only [Bool.and_eq_true, decide_eq_true_eq] at hc
        have p62 : P62 = 2 ^ 62 := by decide
        rw [p62] at hc
        exact ⟨j, rfl, hc.1, hc.2, q1 g1 H1 _ x1 e1 wk_rng⟩
      · exact q1.elim
    | _ => exact q1.elim
theorem si_rng2 {p p2 : Pos} (hg : Gl X "range") (hm : X.mg "range" = none) (h : PE X a (rdE X.K Ξ fa)) (h' : PE X b (rdE X.K Ξ fb)) (hs : starEach [a, b] X.env = [(false, eval a X.env), (false, eval b X.env)] := by rfl) (hs2 : starEach [b] X.env = [(false, eval b X.env)] := by rfl) : PI X tg (.Call (.Name "range" p) [a, b] [] p2) (rdI X.K Ξ (TT.iRng2 fa fb)) :=
  PI_imp (pi_range2 hg hm (pa_cons h (pa_cons h' pa_nil hs2) (by rw [hs, hs2])) hs hs2) fun σ H R ⟨g, s, m, em, sr, q⟩ => by
    refine ⟨g, s, m, em, sr, QR.bind q fun p hp q1 g1 H1 V x1 e1 r1 => ?_⟩
    refine ⟨g1, s, p.2, e1, sr.ext em x1, QR.bind (QR.later x1 q1 fun _ q g' H' J x => q g' H' J (x1.trans x)) fun p2 hp2 q2 g2 H2 W x2 e2 r2 => ?_⟩
    obtain ⟨v, m1⟩ := p
    obtain ⟨u, m2⟩ := p2
    simp only at q2
    split at q2
    · rename_i i j
      cases r1.int_inv; cases r2.int_inv
      split at q2
      · rename_i hc
        simp only [Bool.and_eq_true, decide_eq_true_eq] at hc
        have p62 : P62 = 2 ^ 62 := by decide
        rw [p62] at hc
        exact ⟨i, j, rfl, ⟨hc.1.1.1, hc.1.1.2, hc.1.2, hc.2⟩, q2 g2 H2 _ x2 e2 wk_rng⟩
      · exact q2.elim
    · exact q2.elim
end
end
end TT
end

section
set_option Elab.async false
set_option linter.all false
set_option autoImplicit false
set_option maxRecDepth 100000
/-! TT: comprehensions, calls, defs -/
namespace TT
open PySem PySem.Spec PyProof.Rows L2
abbrev X0 : XC := fun _ _ _ _ => False
section
variable {X : Cx} {Ξ : XC} {a b c e o : Expr} {es : List Expr} {pos : Pos} {fa fb fc : SE} {ft : ST} {K : PySem.W.Frag}
theorem QR.nx {g : Gh} {H : Hp} {α : Type} {P : α → Prop} {r : Rs α} (h : QR K Ξ g H P r.nx) : QR K X0 g H P r := by
  cases r with
  | ok a => exact h
  | ex e m => exact h.elim
  | no => exact h
theorem QR.nxAt {g g1 : Gh} {H H1 : Hp} {α β : Type} {r : Rs α} {k : α → Rs β} {P : β → Prop} {P' : α → Prop} (h : QR K Ξ g1 H1 P (r.nx.bind k)) (f : ∀ a, r = .ok a → QR K Ξ g1 H1 P (k a) → P' a) : QR K X0 g H P' r := by
  cases r with
  | ok a => exact f a rfl h
  | ex e m => exact h.elim
  | no => exact h

/-! ### comprehensions -/
mutual
theorem Rp.mono {g g' : Gh} {H H' : Hp} (h1 : ∀ n a, g.φ n = some a → g'.φ n = some a) (h2 : ∀ a u, g.ro a = some u → g'.ro a = some u) (h3 : ∀ a xs, SqT K H a xs → SqT K H' a xs) : ∀ {v : PV} {w : V}, Rp K g H v w → Rp K g' H' v w
  | _, _, .non => .non
  | _, _, .bl b => .bl b
  | _, _, .int i => .int i
  | _, _, .str l => .str l
  | _, _, .tup h r => .tup (h3 _ _ h) (Rps.mono h1 h2 h3 r)
  | _, _, .vl h r => .vl (h2 _ _ h) (Rps.mono h1 h2 h3 r)
  | _, _, .fz h r => .fz (sqL_mono h2 h) (Rps.mono h1 h2 h3 r)
  | _, _, .ref h => .ref (h1 _ _ h)
theorem Rps.mono {g g' : Gh} {H H' : Hp} (h1 : ∀ n a, g.φ n = some a → g'.φ n = some a) (h2 : ∀ a u, g.ro a = some u → g'.ro a = some u) (h3 : ∀ a xs, SqT K H a xs → SqT K H' a xs) : ∀ {v : List PV} {w : List V}, Rps K g H v w → Rps K g' H' v w
  | _, _, .nil => .nil
  | _, _, .cons h r => .cons (Rp.mono h1 h2 h3 h) (Rps.mono h1 h2 h3 r)
end
theorem Emb.other {g : Gh} {m : Mm} {H : Hp} (e : Emb K g m H) {D : Addr} {o : HO} (h1 : ∀ n, g.φ n ≠ some D) (h2 : g.ro D = none) (h3 : ∀ xs, ¬ Rd H D (.tup xs)) : Emb K g m (upd H D o) ∧ ∀ {v w}, Rp K g H v w → Rp K g (upd H D o) v w := by
  have hT : ∀ a xs, SqT K H a xs → SqT K (upd H D o) a xs := fun a xs h => by
    rcases h with h | h
    · have : a ≠ D := fun z => h3 xs (by rw [← z]; exact h)
      rcases h with h | ⟨ob, h⟩
      · exact .inl (.inl (by rw [upd_ne this]; exact h))
      · exact .inl (.inr ⟨ob, by rw [upd_ne this]; exact h⟩)
    · exact .inr h
  have key : ∀ (v : PV) (w : V), Rp K g H v w → Rp K g (upd H D o) v w := fun v w r => r.mono (fun _ _ h => h) (fun _ _ h => h) hT
  have keys : ∀ (v : List PV) (w : List V), Rps K g H v w → Rps K g (upd H D o) v w := fun v w r => r.mono (fun _ _ h => h) (fun _ _ h => h) hT
  refine ⟨⟨fun n ob h => ?_, fun n a h => ?_, e.inj, fun a u h => ?_⟩, fun {v w} r => key v w r⟩
  · have q := e.obj n ob h
    cases ob with
    | lst ys =>
      obtain ⟨a, ws, q1, q2, q3⟩ := q
      exact ⟨a, ws, q1, by rw [upd_ne (fun z => h1 n (by rw [← z]; exact q1))]; exact q2, keys _ _ q3⟩
    | dict => exact q
    | dead => trivial
  · obtain ⟨q1, u, q2, q3⟩ := e.dom n a h
    exact ⟨q1, u, by rw [upd_ne (fun z => h1 n (by rw [← z]; exact h))]; exact q2, q3⟩
  · obtain ⟨q1, q2⟩ := e.ro a u h
    exact ⟨by rw [upd_ne (fun z => by rw [z, h2] at h; cases h)]; exact q1, q2⟩
theorem Ext.other {g g' : Gh} {H H' : Hp} {D : Addr} {o : HO} (x : Ext g H g' H') (hD : H D = none) : Ext g H g' (upd H' D o) :=
  ⟨x.phi, x.ro, fun a u h n => by rw [upd_ne (ne_of_none h hD)]; exact x.fr a u h n, x.old, x.oldr⟩
theorem rps_of_rp {g : Gh} {H H' : Hp} (f : ∀ {v w}, Rp K g H v w → Rp K g H' v w) : ∀ {v : List PV} {w : List V}, Rps K g H v w → Rps K g H' v w
  | _, _, .nil => .nil
  | _, _, .cons a b => .cons (f a) (rps_of_rp f b)
theorem sr_of_rp {g : Gh} {H H' : Hp} {s : Sl} {σ : L2.St} (f : ∀ {v w}, Rp K g H v w → Rp K g H' v w) (r : Sr K g H s σ) : Sr K g H' s σ :=
  ⟨r.len, fun i v h => let ⟨w, h1, h2⟩ := r.at_ i v h; ⟨w, h1, f h2⟩⟩
/-- a comprehension's reading, from its function -/
theorem rd_lc {own : List Nat} {it : SI} {fg : SG} {ft : ST} {fe : SE} {tg : TG} {σ : L2.St} {H : Hp} {Q : VK}
    (hw : ∀ (v : V) (σ : L2.St) (H : Hp) (Q : L2.St → Hp → Prop), rdG K X0 fg v (L2.wipe σ own) H Q → tg v (L2.wipe σ own) H fun (σ2 : L2.St) H2 => L2.wipe σ2 own = L2.wipe σ own ∧ Q σ2 H2)
    (h : rdE K Ξ (eLc own it fg ft fe) σ H Q) : tLc (rdI K Ξ it) tg (rdT K X0 ft) (rdE K X0 fe) own σ H Q := by
  obtain ⟨g, s, m, em, sr, q⟩ := h
  refine ⟨g, s, m, em, sr, QR.bind q fun p hp q1 g1 H1 J x1 e1 wk => ?_⟩
  obtain ⟨xs, m1⟩ := p
  intro D hD
  have q1' : QE K Ξ g1 H1 Q ((lcL fg ft fe (TT.wipe s own) xs m1 []).bind fun p => Rs.ok (PV.vl p.1, p.2)) := QE.later x1 q1
  have e0 := e1.other (o := .lst []) (fun n => e1.free hD n) (e1.freeR hD) (fun xs h => by rcases h with h | ⟨ob, h⟩ <;> rw [hD] at h <;> cases h)
  refine ⟨fun i n H => ∃ g m acc ws, Ext g1 H1 g H ∧ Emb K g m H ∧ Sr K g H (TT.wipe s own) (L2.wipe σ own) ∧ H D = some (.lst ws) ∧ Rps K g H acc ws ∧ (∀ n, g.φ n ≠ some D) ∧ g.ro D = none ∧ n = xs.length - i ∧
      QE K Ξ g1 H1 Q ((lcL fg ft fe (TT.wipe s own) (xs.drop i) m acc).bind fun p => Rs.ok (PV.vl p.1, p.2)), ⟨xs.length, g1, m1, [], [], (Ext.refl _ _).other hD, e0.1, sr_of_rp e0.2 ((sr.ext em x1).wipe own), upd_same, .nil, fun n => e1.free hD n, e1.freeR hD, by simp, by simpa using q1'⟩, ?_⟩
  rintro i n H2 ⟨g2, m2, acc, ws, x2, e2, r2, hD2, ra, f1, f2, rfl, q2⟩
  by_cases hlt : i < xs.length
  · obtain ⟨h1, h2⟩ := wk.go g2 m2 H2 i x2 e2 hlt
    refine .inr ⟨h1, fun H' => ∃ g m acc ws, Ext g1 H1 g H' ∧ Emb K g m H' ∧ Sr K g H' (TT.wipe s own) (L2.wipe σ own) ∧ H' D = some (.lst ws) ∧ Rps K g H' acc ws ∧ (∀ n, g.φ n ≠ some D) ∧ g.ro D = none ∧
      QE K Ξ g1 H1 Q ((lcL fg ft fe (TT.wipe s own) (xs.drop (i + 1)) m acc).bind fun p => Rs.ok (PV.vl p.1, p.2)), ?_, ?_⟩
    · rintro H' ⟨g', m', acc', ws', hx, he, hr, hd, ha, hf1, hf2, hq⟩
      exact ⟨xs.length - (i + 1), by omega, g', m', acc', ws', hx, he, hr, hd, ha, hf1, hf2, rfl, hq⟩
    · intro x H3 hy
      obtain ⟨g3, v, x3, e3, hv, rv⟩ := h2 x H3 hy
      have hd : xs.drop i = v :: xs.drop (i + 1) := by
        rw [List.drop_eq_getElem_cons hlt]
        rw [List.getElem?_eq_getElem hlt] at hv
        cases hv; rfl
      rw [hd] at q2
      simp only [lcL] at q2
      -- the bind of the whole
      have reb : ∀ {α β γ : Type} (r : Rs α) (k : α → Rs β) (l : β → Rs γ), (r.bind k).bind l = r.bind fun a => (k a).bind l := fun r k l => by cases r <;> rfl
      rw [reb] at q2
      have r3 := r2.ext e2 x3
      have a3 := ra.ext e2 x3
      have d3 := x3.fr _ _ hD2 f1
      have f13 := x3.old _ _ hD2 f1
      have f23 := x3.oldr _ _ hD2 f1 f2
      have xx3 := x2.trans x3
      refine hw x σ H3 _ ⟨g3, _, m2, v, e3, r3, rv, QR.nxAt q2 fun p4 hp4 q4 g4 H4 σ4 x4 e4 r4 => ?_⟩
      obtain ⟨s4, m4⟩ := p4
      simp only at q4
      rw [reb] at q4
      have a4 := a3.ext e3 x4
      have d4 := x4.fr _ _ d3 f13
      have f14 := x4.old _ _ d3 f13
      have f24 := x4.oldr _ _ d3 f13 f23
      have w4 := r3.ext e3 x4
      have xx4 := xx3.trans x4
      refine ⟨g4, s4, m4, e4, r4, QR.nxAt q4 fun p5 hp5 q5 g5 H5 x5 e5 => ?_⟩
      obtain ⟨k, m5⟩ := p5
      have a5 := a4.ext e4 x5
      have d5 := x5.fr _ _ d4 f14
      have f15 := x5.old _ _ d4 f14
      have f25 := x5.oldr _ _ d4 f14 f24
      have w5 := w4.ext e4 x5
      have xx5 := xx4.trans x5
      cases k with
      | false =>
        refine iteF ⟨g5, m5, acc, ws, xx5, e5, w5, d5, a5, f15, f25, ?_⟩
        simpa using q5
      | true =>
        simp only [if_true] at q5
        rw [reb] at q5
        refine iteT ⟨g5, s4, m5, e5, r4.ext e4 x5, QR.nxAt q5 fun p6 hp6 q6 g6 H6 y x6 e6 ry => ?_⟩
        obtain ⟨pv, m6⟩ := p6
        simp only at q6
        have a6 := a5.ext e5 x6
        have d6 := x6.fr _ _ d5 f15
        have f16 := x6.old _ _ d5 f15
        have f26 := x6.oldr _ _ d5 f15 f25
        have w6 := w5.ext e5 x6
        have xx6 := xx5.trans x6
        by_cases hl : acc.length < LINE
        · rw [if_pos hl] at q6
          have hno : ∀ xs, ¬ Rd H6 D (.tup xs) := fun xs h => by rcases h with h | ⟨ob, h⟩ <;> rw [d6] at h <;> cases h
          have e7 := e6.other (o := .lst (ws ++ [y])) f16 f26 hno
          refine ⟨ws, d6, by rw [← ra.length]; exact line_lt hl, g6, m6, acc ++ [pv], ws ++ [y], xx6.other hD, e7.1, sr_of_rp e7.2 w6, upd_same, rps_of_rp e7.2 (a6.append (.cons ry .nil)), f16, f26, q6⟩
        · rw [if_neg hl] at q6
          exact q6.elim
  · have hle : xs.length ≤ i := Nat.le_of_not_lt hlt
    refine .inl ⟨wk.stop g2 m2 H2 i x2 e2 hle, ?_⟩
    rw [List.drop_of_length_le hle] at q2
    have q3 : QE K Ξ g1 H1 Q (.ok (.vl acc, m2)) := q2
    have hro : ∀ a u, g2.ro a = some u → (g2.addR D (.lst ws)).ro a = some u := fun a u h => by
      have : a ≠ D := fun z => by subst z; rw [f2] at h; cases h
      show upd g2.ro D _ a = some u
      rw [upd_ne this]; exact h
    have x3 : Ext g1 H1 (g2.addR D (.lst ws)) H2 := ⟨x2.phi, fun a u h => hro a u (x2.ro a u h), x2.fr, x2.old, fun a u h hn hr => by
      show upd g2.ro D _ a = none
      rw [upd_ne (ne_of_none h hD)]
      exact x2.oldr a u h hn hr⟩
    have e3 : Emb K (g2.addR D (.lst ws)) m2 H2 := by
      refine ⟨fun n ob h => ?_, e2.dom, e2.inj, fun a u h => ?_⟩
      · have q := e2.obj n ob h
        cases ob with
        | lst ys =>
          obtain ⟨a, us, q1, q2, q3⟩ := q
          exact ⟨a, us, q1, q2, Rps.mono (g := g2) (g' := g2.addR D (.lst ws)) (fun _ _ h => h) hro (fun _ _ h => h) q3⟩
        | dict => exact q
        | dead => trivial
      · have h' : upd g2.ro D (.lst ws) a = some u := h
        by_cases ha : a = D
        · subst ha
          rw [upd_same] at h'; cases h'
          exact ⟨hD2, fun n hn => (f1 n hn).elim⟩
        · rw [upd_ne ha] at h'
          exact e2.ro a u h'
    exact q3 _ _ _ x3 e3 (.vl upd_same (Rps.mono (g := g2) (g' := g2.addR D (.lst ws)) (fun _ _ h => h) hro (fun _ _ h => h) ra))
theorem wipe_set {σ : L2.St} {i : Nat} {x : Option V} : ∀ {own : List Nat}, i ∈ own → L2.wipe ((L2.wipe σ own).set i x) own = L2.wipe σ own := by
  intro own hi
  apply List.ext_getElem?
  intro j
  have hw : ∀ (σ : L2.St) (own : List Nat) (j : Nat), (L2.wipe σ own)[j]? = if j ∈ own then (if j < σ.length then some none else none) else σ[j]? := by
    intro σ own
    induction own with
    | nil => intro j; simp [L2.wipe]
    | cons v vs ih =>
      intro j
      unfold L2.wipe
      by_cases hv : v = j
      · subst hv
        simp only [List.mem_cons, true_or, if_true]
        by_cases hl : v < σ.length
        · rw [List.getElem?_set_self (by rw [L2.wipe_length]; exact hl), if_pos hl]
        · rw [List.getElem?_eq_none (by rw [List.length_set, L2.wipe_length]; omega), if_neg hl]
      · rw [List.getElem?_set_ne hv, ih j]
        simp only [List.mem_cons, Ne.symm hv, false_or]
  rw [hw, hw]
  by_cases hj : j ∈ own
  · rw [if_pos hj, if_pos hj, List.length_set, L2.wipe_length]
  · rw [if_neg hj, if_neg hj, List.getElem?_set_ne (fun z => hj (by rw [← z]; exact hi)), hw, if_neg hj]
/-- [e for x in xs if t], one name -/
theorem rd_lcN {own : List Nat} {it : SI} {i : Nat} {ft : ST} {fe : SE} (hi : i ∈ own) {σ : L2.St} {H : Hp} {Q : VK}
    (h : rdE K Ξ (eLc own it (TT.gName i) ft fe) σ H Q) : tLc (rdI K Ξ it) (L2.gName i) (rdT K X0 ft) (rdE K X0 fe) own σ H Q :=
  rd_lc (fun v σ H Q ⟨g, s, m, pv, em, sr, rv, q⟩ =>
    ⟨wipe_set hi, q g H _ (Ext.refl _ _) em (sr.set rv i)⟩) h
theorem se_lc {elt iter : Expr} {ifs : List Expr} {scope : Scope} {own : List (Str × Nat)} {oi : List Nat} {x : Str} {px : Pos} {it : SI} (i : Nat) {fe : SE} (hc : X.calm = true) (hN : X.N.Nodup) (hi : PI X (.Name x px) iter (rdI X.K Ξ it)) (ok : BlkOk X.N X.env.scope scope own)
    (hg : ∀ (s : Shared) (H : Hp) (C : Addr) (cl : List (Str × Addr)) (fp : List Addr), PG (X.blk s H scope (compEnvC scope cl C X.env) fp) (.Name x px) (L2.gName i)) (ht : ∀ (s : Shared) (H : Hp) (C : Addr) (cl : List (Str × Addr)) (fp : List Addr), PTs (X.blk s H scope (compEnvC scope cl C X.env) fp) ifs (rdT X.K X0 ft))
    (he : ∀ (s : Shared) (H : Hp) (C : Addr) (cl : List (Str × Addr)) (fp : List Addr), PE (X.blk s H scope (compEnvC scope cl C X.env) fp) elt (rdE X.K X0 fe)) (hs : ∀ x, foldedSetIterable iter X.env x = pure x := by intro _; rfl) (ho : own.map (·.2) = oi := by rfl) (hm : i ∈ own.map (·.2) := by decide) :
    PE X (.ListComp elt [⟨.Name x px, iter, ifs, 0⟩] scope pos) (rdE X.K Ξ (eLc oi it (TT.gName i) ft fe)) := by
  subst ho
  exact PE_imp (pe_lc hc hN hi ok hg ht he hs) fun σ H Q h => rd_lcN hm h
/-- y = [..] -/
theorem ss_setLc {elt iter : Expr} {ifs : List Expr} {scope : Scope} {own : List (Str × Nat)} {oi : List Nat} {x y : Str} {px py spos : Pos} {it : SI} (iy i : Nat) {fe : SE} (hc : X.calm = true) (hN : X.N.Nodup) (hi : PI X (.Name x px) iter (rdI X.K Ξ it)) (ok : BlkOk X.N X.env.scope scope own)
    (hg : ∀ (s : Shared) (H : Hp) (C : Addr) (cl : List (Str × Addr)) (fp : List Addr), PG (X.blk s H scope (compEnvC scope cl C X.env) fp) (.Name x px) (L2.gName i)) (ht : ∀ (s : Shared) (H : Hp) (C : Addr) (cl : List (Str × Addr)) (fp : List Addr), PTs (X.blk s H scope (compEnvC scope cl C X.env) fp) ifs (rdT X.K X0 ft))
    (he : ∀ (s : Shared) (H : Hp) (C : Addr) (cl : List (Str × Addr)) (fp : List Addr), PE (X.blk s H scope (compEnvC scope cl C X.env) fp) elt (rdE X.K X0 fe)) (hsw : swapsWith (.ListComp elt [⟨.Name x px, iter, ifs, 0⟩] scope pos) (some (.Name y py)) spos.line X.env = pure true)
    (hy : X.N[iy]? = some y := by rfl) (hyl : X.env.scope.names.lookup y = some .local := by rfl) (hs : ∀ x, foldedSetIterable iter X.env x = pure x := by intro _; rfl) (ho : own.map (·.2) = oi := by rfl) (hm : i ∈ own.map (·.2) := by decide) :
    PS X (.Assign [.Name y py] (.ListComp elt [⟨.Name x px, iter, ifs, 0⟩] scope pos) spos) (rdS X.K Ξ (sAsg (eLc oi it (TT.gName i) ft fe) (TT.gName iy))) := by
  subst ho
  exact PS_imp (ps_setLc hc hN hy hyl hsw hi ok hg ht he hs) fun D σ H ⟨g, s, m, em, sr, q⟩ => by
    refine rd_lcN (Ξ := Ξ) hm ⟨g, s, m, em, sr, QR.bind q fun p hp q1 g1 H1 V x1 e1 r1 => ?_⟩
    exact QS_nx e1 ((sr.ext em x1).set r1 iy) (QS.later x1 q1)
theorem sts_nil : PTs X [] (rdT X.K Ξ TT.tYes) := ⟨fun pins s σ H Q I ⟨g, sl, m, em, sr, q⟩ => pts_nil.run pins s σ H Q I (q g H (Ext.refl _ _) em)⟩
theorem sts_one (h : PT X c (rdT X.K Ξ ft)) : PTs X [c] (rdT X.K Ξ ft) := pts_one h

/-! ### defs -/
/-- what a def promises: by the whole memory -/
def spI (K : PySem.W.Frag) (n : Nat) (F : IF) : Sp := fun vs H Q _ => ∃ g m as, as.length = n ∧ Emb K g m H ∧ Rps K g H as vs ∧ QE K X0 g H Q (cI F as m)
/-- .. by values -/
def spP (K : PySem.W.Frag) (n : Nat) (F : PF) : Sp := fun vs H Q _ => ∃ g m as, as.length = n ∧ Emb K g m H ∧ Rps K g H as vs ∧ QE K X0 g H Q (cP F as m)
theorem spI_len {K : PySem.W.Frag} {n : Nat} {F : IF} {vs : List V} {H : Hp} {Q : VK} {E : XK} (h : spI K n F vs H Q E) : vs.length = n := by
  obtain ⟨g, m, as, hl, _, r, _⟩ := h
  rw [← r.length, hl]
theorem start_sr {g : Gh} {H : Hp} {N : List Str} {as : List PV} {vs : List V} (r : Rps K g H as vs) (hl : as.length ≤ N.length) : Sr K g H (startS N.length as) (L2.start N vs) := by
  refine ⟨?_, fun i v h => ?_⟩
  · unfold startS L2.start
    simp [r.length]
  · unfold startS at h
    unfold L2.start
    by_cases hi : i < as.length
    · rw [List.getElem?_append_left (by simpa using hi), List.getElem?_map] at h
      cases q : as[i]? with
      | none => rw [q] at h; cases h
      | some u =>
        rw [q] at h; cases h
        obtain ⟨w, h1, h2⟩ := r.get q
        refine ⟨w, ?_, h2⟩
        rw [List.getElem?_append_left (by simp [← r.length]; exact hi), List.getElem?_map, h1]
        rfl
    · rw [List.getElem?_append_right (by simpa using hi), List.getElem?_replicate] at h
      split at h <;> cases h
/-- from a body's function to the body's reading -/
theorem body_rd {g : Gh} {m : Mm} {H : Hp} {N : List Str} {as : List PV} {vs : List V} {Q : VK} {b : SS} (em : Emb K g m H) (r : Rps K g H as vs) (hN : as.length ≤ N.length) (q : QE K X0 g H Q (cI (bodyI N.length as.length b) as m)) :
    rdS K X0 b { nx := fun _ H' => Q .non H', rt := Q } (L2.start N vs) H := by
  refine ⟨g, startS N.length as, m, em, start_sr r hN, ?_⟩
  unfold cI bodyI at q
  rw [if_pos rfl] at q
  cases hr : b (startS N.length as) m with
  | ok p =>
    obtain ⟨fl, s, m1⟩ := p
    rw [hr] at q
    cases fl with
    | nx => exact fun g1 H1 σ1 x1 e1 r1 => q g1 H1 .non x1 e1 .non
    | rt v => exact fun g1 H1 σ1 x1 e1 r1 V rv => q g1 H1 V x1 e1 rv
    | bk => exact q.elim
    | ct => exact q.elim
  | ex e m1 => rw [hr] at q; exact q.elim
  | no => rw [hr] at q; exact q.elim
section
variable {P : Program} {w : World} {mg : Str → Option Value} {base : Heap}
/-- THE RULE for a def, by its body's function -/
theorem defI {x qual : Str} {st : Stmt} {f : Addr} {fd : FuncData} {N ps : List Str} {k : Nat} {b : SS} (F : Fun K x qual st f fd) (S : FnScope N ps (defScope st)) (hN : ps.length ≤ N.length)
    (hbody : ∀ (cdv : Value) (A : Around) (outer : List Env) (s : Shared) (H : Hp) (E : XK), Room k (A.deeper (envOfC qual (defScope st) s.heap.objs.size f cdv)) →
      PSs (cxOf CX0 P w K mg base N qual (defScope st) f cdv A outer s H E).nox (defBody st) (rdS K X0 b)) : FnOk P w K mg base CX0 (k + 1) f fd ps (spI K ps.length (bodyI N.length ps.length b)) :=
  F.ok S (fun _ _ _ _ h => spI_len h) fun cdv A outer s H vs Q E hr ⟨g, m, as, hl, em, r, q⟩ => ⟨_, hbody cdv A outer s H E hr, body_rd em r (by rw [hl]; exact hN) (by rw [hl]; exact q)⟩
end
end
end TT
end

section
set_option Elab.async false
set_option linter.all false
set_option autoImplicit false
set_option maxRecDepth 100000
/-! TT: defs by values, calls, walks over zip, more built-ins -/
namespace TT
open PySem PySem.Spec PyProof.Rows L2
section
variable {K : PySem.W.Frag} {g g' : Gh} {m m' : Mm} {H H' : Hp}
mutual
/-- a value without refs does not lean on where the memory stands -/
theorem Rp.pure {φ' : Nat → Option Addr} : ∀ {v : PV} {w : V}, v.pu = true → Rp K g H v w → Rp K ⟨φ', g.ro⟩ H v w
  | _, _, _, .non => .non
  | _, _, _, .bl b => .bl b
  | _, _, _, .int i => .int i
  | _, _, _, .str l => .str l
  | _, _, h, .tup a r => .tup a (Rps.pure (by simpa only [PV.pu] using h) r)
  | _, _, h, .vl a r => .vl a (Rps.pure (by simpa only [PV.pu] using h) r)
  | _, _, h, .fz a r => .fz a (Rps.pure (by simpa only [PV.pu] using h) r)
  | _, _, h, .ref _ => by simp only [PV.pu] at h; cases h
theorem Rps.pure {φ' : Nat → Option Addr} : ∀ {v : List PV} {w : List V}, pus v = true → Rps K g H v w → Rps K ⟨φ', g.ro⟩ H v w
  | _, _, _, .nil => .nil
  | _, _, h, .cons a r => by
    simp only [pus, Bool.and_eq_true] at h
    exact .cons (Rp.pure h.1 a) (Rps.pure h.2 r)
end
open Classical in
/-- all that lives in the memory is read only from now on -/
noncomputable def roAll (g : Gh) (H : Hp) : Hp := fun a => match g.ro a with
  | some u => some u
  | none => if ∃ n, g.φ n = some a then H a else none
theorem roAll_old {a : Addr} {u : HO} (h : g.ro a = some u) : roAll g H a = some u := by unfold roAll; rw [h]
theorem roAll_new (e : Emb K g m H) {a : Addr} {n : Nat} {u : HO} (h : g.φ n = some a) (hu : H a = some u) : roAll g H a = some u := by
  unfold roAll
  cases q : g.ro a with
  | some v =>
    have := (e.ro a v q).1
    rw [hu] at this; cases this; rfl
  | none => simp only; rw [if_pos ⟨n, h⟩, hu]
theorem roAll_inv {a : Addr} {u : HO} (h : roAll g H a = some u) : g.ro a = some u ∨ (g.ro a = none ∧ (∃ n, g.φ n = some a) ∧ H a = some u) := by
  unfold roAll at h
  split at h
  · rename_i v hv; cases h; exact .inl hv
  · rename_i hv
    split at h
    · rename_i hc; exact .inr ⟨hv, hc, h⟩
    · cases h
theorem frzs_rp (e : Emb K g m H) {f : PV → Option PV} {φ' : Nat → Option Addr} (hf : ∀ v w v', Rp K g H v w → f v = some v' → Rp K ⟨φ', roAll g H⟩ H v' w) : ∀ {xs : List PV} {ws : List V} {ys : List PV}, Rps K g H xs ws → frz.frzs f xs = some ys → Rps K ⟨φ', roAll g H⟩ H ys ws
  | [], _, _, .nil, h => by cases h; exact .nil
  | x :: xs, _, ys, .cons a r, h => by
    simp only [frz.frzs] at h
    split at h
    · rename_i y zs h1 h2
      cases h
      exact .cons (hf _ _ _ a h1) (frzs_rp e hf r h2)
    · cases h
theorem frz_rp (e : Emb K g m H) {φ' : Nat → Option Addr} : ∀ (k : Nat) (v : PV) (w : V) (v' : PV), Rp K g H v w → frz k m v = some v' → Rp K ⟨φ', roAll g H⟩ H v' w
  | 0, v, w, v', r, h => by
    unfold frz at h
    split at h
    · rename_i hp
      cases h
      exact Rp.mono (g := ⟨φ', g.ro⟩) (g' := ⟨φ', roAll g H⟩) (fun _ _ h => h) (fun _ _ h => roAll_old h) (fun _ _ h => h) (Rp.pure (φ' := φ') hp r)
    · cases h
  | k + 1, v, w, v', r, h => by
    unfold frz at h
    split at h
    · rename_i hp
      cases h
      exact Rp.mono (g := ⟨φ', g.ro⟩) (g' := ⟨φ', roAll g H⟩) (fun _ _ h => h) (fun _ _ h => roAll_old h) (fun _ _ h => h) (Rp.pure (φ' := φ') hp r)
    · split at h
      · rename_i n
        split at h
        · rename_i xs hx
          obtain ⟨a, rfl, hn⟩ := r.ref_inv
          obtain ⟨a', vs, h1, h2, h3⟩ := e.obj _ _ hx
          rw [hn] at h1; cases h1
          cases hq : frz.frzs (frz k m) xs with
          | none => rw [hq] at h; cases h
          | some ys =>
            rw [hq] at h; cases h
            exact .vl (roAll_new e hn h2) (frzs_rp e (fun v w v' r h => frz_rp e k v w v' r h) h3 hq)
        · cases h
      · rename_i xs _
        obtain ⟨a, vs, rfl, ha, r1⟩ := r.tup_inv
        cases hq : frz.frzs (frz k m) xs with
        | none => rw [hq] at h; cases h
        | some ys =>
          rw [hq] at h; cases h
          exact .tup ha (frzs_rp e (fun v w v' r h => frz_rp e k v w v' r h) r1 hq)
      · cases h
/-- behind a def that was run in a memory of its own -/
theorem after_own {φ₀ : Gh} (e : Emb K g m H) (h0 : φ₀ = ⟨fun _ => none, g.ro⟩) {g1 : Gh} {m1 : Mm} {H1 : Hp} (x : Ext φ₀ H g1 H1) (e1 : Emb K g1 m1 H1) :
    Ext g H ⟨g.φ, roAll g1 H1⟩ H1 ∧ Emb K ⟨g.φ, roAll g1 H1⟩ m H1 := by
  subst h0
  have fr : ∀ a u, H a = some u → H1 a = some u := fun a u h => x.fr a u h (fun n z => nomatch z)
  have out : ∀ a u, H a = some u → ∀ n, g1.φ n ≠ some a := fun a u h => x.old a u h (fun n z => nomatch z)
  have xx : Ext g H ⟨g.φ, roAll g1 H1⟩ H1 := by
    refine ⟨fun _ _ h => h, fun a u h => roAll_old (x.ro a u h), fun a u h _ => fr a u h, fun a u h hn => hn, fun a u h hn hr => ?_⟩
    have q := x.oldr a u h (fun n z => nomatch z) hr
    show roAll g1 H1 a = none
    cases z : roAll g1 H1 a with
    | none => rfl
    | some v =>
      rcases roAll_inv z with z | ⟨_, ⟨n, z⟩, _⟩
      · rw [q] at z; cases z
      · exact (out a u h n z).elim
  refine ⟨xx, ⟨fun n o h => ?_, fun n a h => ?_, e.inj, fun a u h => ?_⟩⟩
  · have q := e.obj n o h
    cases o with
    | lst ys =>
      obtain ⟨a, ws, q1, q2, q3⟩ := q
      exact ⟨a, ws, q1, fr _ _ q2, q3.ext e xx⟩
    | dict => exact q
    | dead => trivial
  · obtain ⟨q1, u, q2, q3⟩ := e.dom n a h
    exact ⟨q1, u, fr _ _ q2, q3⟩
  · have h' : roAll g1 H1 a = some u := h
    have key : H1 a = some u := by
      rcases roAll_inv h' with z | ⟨_, _, z⟩
      · exact (e1.ro a u z).1
      · exact z
    refine ⟨key, fun n hn => ?_⟩
    have hn' : g.φ n = some a := hn
    obtain ⟨_, v, hv, _⟩ := e.dom n a hn'
    cases hr : g.ro a with
    | some u' => exact (e.ro a u' hr).2 n hn'
    | none =>
      have q := x.oldr a v hv (fun n z => nomatch z) hr
      rcases roAll_inv h' with z | ⟨_, ⟨k, z⟩, _⟩
      · rw [q] at z; cases z
      · exact (out a v hv k z).elim
theorem emb_own (e : Emb K g m H) : Emb K ⟨fun _ => none, g.ro⟩ [] H :=
  ⟨(fun n o h => by simp at h), (fun n a h => nomatch h), (fun n k a h _ => nomatch h), (fun a u h => ⟨(e.ro a u h).1, (fun n z => nomatch z)⟩)⟩
end

/-! ### promises -/
section
variable {P : Program} {w : World} {K : PySem.W.Frag} {mg : Str → Option Value} {base : Heap} {CX : CXT} {k : Nat} {f : Addr} {fd : FuncData} {ps : List Str}
/-- by values, from the body -/
theorem spP_of {n N : Nat} {b : SS} {vs : List V} {H : Hp} {Q : VK} {E : XK} (h : spP K n (bodyP N n b) vs H Q E) : spI K n (bodyI N n b) vs H Q E := by
  obtain ⟨g, m, as, hl, em, r, q⟩ := h
  unfold cP at q
  by_cases hp : pus as = true
  · rw [if_pos hp] at q
    refine ⟨⟨fun _ => none, g.ro⟩, [], as, hl, emb_own em, Rps.pure hp r, ?_⟩
    unfold bodyP at q
    unfold cI
    cases hr : bodyI N n b as [] with
    | ok p =>
      obtain ⟨v, m1⟩ := p
      rw [hr] at q
      simp only at q
      intro g1 H1 V x1 e1 r1
      cases hf : frz 4 m1 v with
      | none => rw [hf] at q; exact q.elim
      | some v' =>
        rw [hf] at q
        obtain ⟨xx, ee⟩ := after_own em rfl x1 e1
        exact q ⟨g.φ, roAll g1 H1⟩ H1 V xx ee (frz_rp e1 4 v V v' r1 hf)
    | ex e m1 => rw [hr] at q; exact q.elim
    | no => rw [hr] at q; exact q.elim
  · rw [if_neg hp] at q; exact q.elim
theorem FnOk.toP {n N : Nat} {b : SS} (F : FnOk P w K mg base CX k f fd ps (spI K n (bodyI N n b))) : FnOk P w K mg base CX k f fd ps (spP K n (bodyP N n b)) := F.imp fun _ _ _ _ => spP_of
/-- a mirror of a def by values -/
theorem FnOk.mirP {n : Nat} {F G : PF} (h : FnOk P w K mg base CX k f fd ps (spP K n F)) (i : ∀ as v, as.length = n → G as = .ok v → F as = .ok v) : FnOk P w K mg base CX k f fd ps (spP K n G) :=
  h.imp fun vs H Q E ⟨g, m, as, hl, em, r, q⟩ => ⟨g, m, as, hl, em, r, by
    unfold cP at q ⊢
    split at q
    · rename_i hp
      rw [if_pos hp]
      cases hr : G as with
      | ok v => rw [hr] at q; rw [i as v hl hr]; exact q
      | ex e m => rw [hr] at q; exact q.elim
      | no => rw [hr] at q; exact q.elim
    · exact q.elim⟩
mutual
theorem Rp.belo {g g' : Gh} {H : Hp} (hro : g'.ro = g.ro) : ∀ {v : PV} {w : V}, v.pu = true → Rp K g H v w → Rp K g' H v w
  | _, _, _, .non => .non
  | _, _, _, .bl b => .bl b
  | _, _, _, .int i => .int i
  | _, _, _, .str l => .str l
  | _, _, h, .tup a r => .tup a (Rps.belo hro (by simpa only [PV.pu] using h) r)
  | _, _, h, .vl a r => .vl (by rw [hro]; exact a) (Rps.belo hro (by simpa only [PV.pu] using h) r)
  | _, _, h, .fz a r => .fz (by rw [hro]; exact a) (Rps.belo hro (by simpa only [PV.pu] using h) r)
  | _, _, h, .ref _ => by simp only [PV.pu] at h; cases h
theorem Rps.belo {g g' : Gh} {H : Hp} (hro : g'.ro = g.ro) : ∀ {v : List PV} {w : List V}, pus v = true → Rps K g H v w → Rps K g' H v w
  | _, _, _, .nil => .nil
  | _, _, h, .cons a r => by
    simp only [pus, Bool.and_eq_true] at h
    exact .cons (Rp.belo hro h.1 a) (Rps.belo hro h.2 r)
end
mutual
theorem Rp.dom2 {g g1 : Gh} {H H1 : Hp} (h : ∀ n a, g.φ n = some a → g1.φ n = some a) : ∀ {v : PV} {w w1 : V}, Rp K g H v w → Rp K g1 H1 v w1 → Rp K ⟨g.φ, g1.ro⟩ H1 v w1
  | _, _, _, _, .non => .non
  | _, _, _, _, .bl b => .bl b
  | _, _, _, _, .int i => .int i
  | _, _, _, _, .str l => .str l
  | _, _, _, .tup _ r, .tup a r1 => .tup a (Rps.dom2 h r r1)
  | _, _, _, .vl _ r, .vl a r1 => .vl a (Rps.dom2 h r r1)
  | _, _, _, .fz _ r, .fz a r1 => .fz a (Rps.dom2 h r r1)
  | _, _, _, .ref q, .ref q1 => .ref (by have := h _ _ q; rw [q1] at this; cases this; exact q)
theorem Rps.dom2 {g g1 : Gh} {H H1 : Hp} (h : ∀ n a, g.φ n = some a → g1.φ n = some a) : ∀ {v : List PV} {w w1 : List V}, Rps K g H v w → Rps K g1 H1 v w1 → Rps K ⟨g.φ, g1.ro⟩ H1 v w1
  | _, _, _, .nil, .nil => .nil
  | _, _, _, .cons a r, .cons a1 r1 => .cons (Rp.dom2 h a a1) (Rps.dom2 h r r1)
end
/-- an object as it was, or a list that holds no refs now -/
def Calm1 (m m1 : Mm) : Prop := ∀ (n : Nat) (o : Ob), m1[n]? = some o → m[n]? = some o ∨ (o.pu = true ∧ ∃ xs, m[n]? = some (.lst xs))
/-- the memory's last objects are forgotten -/
theorem Emb.trim {g g1 : Gh} {m m1 gar : Mm} {H H1 : Hp} (e : Emb K g m H) (x : Ext g H g1 H1) (e1 : Emb K g1 (m1 ++ gar) H1) (hl : m1.length = m.length) (hp : Calm1 m m1) :
    ∃ g2, Ext g H g2 H1 ∧ Emb K g2 m1 H1 ∧ ∀ v w, v.pu = true → Rp K g1 H1 v w → Rp K g2 H1 v w := by
  refine ⟨⟨g.φ, g1.ro⟩, ?_, ⟨fun n o h => ?_, fun n a h => ?_, fun n k a h1 h2 => e.inj n k a h1 h2, fun a u h => ?_⟩, fun v w hv r => Rp.belo (g := g1) (g' := ⟨g.φ, g1.ro⟩) rfl hv r⟩
  · exact ⟨fun _ _ h => h, x.ro, x.fr, fun a u h hn => hn, x.oldr⟩
  · have hlt : n < m1.length := (List.getElem?_eq_some_iff.mp h).1
    have q := e1.obj n o (by rw [List.getElem?_append_left hlt]; exact h)
    cases o with
    | lst ys =>
      obtain ⟨a, ws, q1, q2, q3⟩ := q
      rcases hp n _ h with z | ⟨z, xs, zx⟩
      · obtain ⟨a', vs, p1, p2, p3⟩ := e.obj n _ z
        have e' := x.phi _ _ p1
        rw [q1] at e'; cases e'
        exact ⟨a, ws, p1, q2, Rps.dom2 x.phi p3 q3⟩
      · obtain ⟨a', vs, p1, p2, p3⟩ := e.obj n _ zx
        have e' := x.phi _ _ p1
        rw [q1] at e'; cases e'
        exact ⟨a, ws, p1, q2, Rps.belo (g := g1) (g' := ⟨g.φ, g1.ro⟩) rfl (by simpa only [Ob.pu] using z) q3⟩
    | dict => exact q
    | dead => trivial
  · have h' : g.φ n = some a := h
    obtain ⟨q1, u, q2, q3⟩ := e1.dom n a (x.phi _ _ h')
    exact ⟨by rw [hl]; exact (e.dom n a h').1, u, q2, q3⟩
  · have h' : g1.ro a = some u := h
    obtain ⟨q1, q2⟩ := e1.ro a u h'
    refine ⟨q1, fun n hn => ?_⟩
    have hn' : g.φ n = some a := hn
    have q := q2 n (x.phi _ _ hn')
    have hlt : n < m1.length := by rw [hl]; exact (e.dom n a hn').1
    rw [List.getElem?_append_left hlt] at q
    exact q
/-- a mirror of a def by the whole memory: its rubbish is forgotten -/
theorem FnOk.mirI {n : Nat} {F G : IF} (h : FnOk P w K mg base CX k f fd ps (spI K n F))
    (i : ∀ as m v m', as.length = n → G as m = .ok (v, m') → ∃ gar, F as m = .ok (v, m' ++ gar) ∧ (gar = [] ∨ (m'.length = m.length ∧ v.pu = true ∧ Calm1 m m'))) : FnOk P w K mg base CX k f fd ps (spI K n G) :=
  h.imp fun vs H Q E ⟨g, m, as, hl, em, r, q⟩ => ⟨g, m, as, hl, em, r, by
    unfold cI at q ⊢
    cases hr : G as m with
    | ok p =>
      obtain ⟨v, m'⟩ := p
      rw [hr] at q
      obtain ⟨gar, hF, hc⟩ := i as m v m' hl hr
      rw [hF]
      intro g1 H1 V x1 e1 r1
      rcases hc with hc | ⟨c1, c2, c3⟩
      · subst hc
        have e1' : Emb K g1 m' H1 := by simpa using e1
        exact q g1 H1 V x1 e1' r1
      · obtain ⟨g2, x2, e2, f2⟩ := em.trim x1 e1 c1 c3
        exact q g2 H1 V x2 e2 (f2 v V c2 r1)
    | ex e m => rw [hr] at q; exact q.elim
    | no => rw [hr] at q; exact q.elim⟩
end

/-! ### calls -/
section
variable {X : Cx} {Ξ : XC} {k : Nat} {f : Addr} {fd : FuncData} {ps : List Str} {x : Str} {p pos : Pos} {e : Expr} {es : List Expr} {fs : SA} {K : PySem.W.Frag}
theorem cI_X0 {g : Gh} {H : Hp} {Q : VK} {F : IF} {as : List PV} {m : Mm} (q : QE K Ξ g H Q (cI F as m)) : QE K X0 g H Q (cI F as m) := by
  unfold cI at q ⊢
  cases h : F as m with
  | ok p => rw [h] at q; exact q
  | ex e m => rw [h] at q; exact q.elim
  | no => rw [h] at q; exact q.elim
theorem cP_X0 {g : Gh} {H : Hp} {Q : VK} {F : PF} {as : List PV} {m : Mm} (q : QE K Ξ g H Q (cP F as m)) : QE K X0 g H Q (cP F as m) := by
  unfold cP at q ⊢
  split at q
  · rename_i hp
    rw [if_pos hp]
    cases h : F as with
    | ok p => rw [h] at q; exact q
    | ex e m => rw [h] at q; exact q.elim
    | no => rw [h] at q; exact q.elim
  · exact q.elim
theorem se_callI {n : Nat} {F : IF} (G : FnOk X.prog X.w X.K X.mg X.base CX0 k f fd ps (spI X.K n F)) (hr : Room k X.A) (hm : X.mg x = some (.ref f)) (hk : PySem.W.keepIn X.K (.ref f) = true) (hb : Binds X.K fd ps []) (ha : PA X (e :: es) (rdA X.K Ξ fs)) (hl : ∀ s m xs m', fs s m = .ok (xs, m') → xs.length = (e :: es).length)
    (hn : (e :: es).length = n := by rfl) (hg : Gl X x := by rfl) (hdb : (x == ("__debug__" : Str)) = false := by decide) (he : starEach (e :: es) X.env = (false, eval e X.env) :: starEach es X.env := by rfl) (hpl : (backTo pos (starEach es X.env)).any (·.1) = false := by rfl) :
    PE X (.Call (.Name x p) (e :: es) [] pos) (rdE X.K Ξ (eN (cI F) fs)) :=
  PE_imp (pe_call G hr hg hm hk hb .nil pass0 ha hdb he hpl) fun σ H Q ⟨g, s, m, em, sr, q⟩ => by
    refine ⟨g, s, m, em, sr, QR.bind q fun p hp q1 g1 H1 V x1 e1 r1 => ?_⟩
    exact ⟨g1, p.2, p.1, by rw [hl s m p.1 p.2 hp, hn], e1, by rw [List.append_nil]; exact r1, cI_X0 (QE.later x1 q1)⟩
theorem se_callI0 {F : IF} (G : FnOk X.prog X.w X.K X.mg X.base CX0 k f fd ps (spI X.K 0 F)) (hr : Room k X.A) (hm : X.mg x = some (.ref f)) (hk : PySem.W.keepIn X.K (.ref f) = true) (hb : Binds X.K fd ps [])
    (hg : Gl X x := by rfl) (hdb : (x == ("__debug__" : Str)) = false := by decide) : PE X (.Call (.Name x p) [] [] pos) (rdE X.K Ξ (eN (cI F) aNil)) :=
  PE_imp (pe_call0 G hr hg hm hk hb .nil pass0 hdb) fun σ H Q ⟨g, s, m, em, sr, q⟩ => ⟨g, m, [], rfl, em, .nil, cI_X0 q⟩
theorem se_callP {n : Nat} {F : PF} (G : FnOk X.prog X.w X.K X.mg X.base CX0 k f fd ps (spP X.K n F)) (hr : Room k X.A) (hm : X.mg x = some (.ref f)) (hk : PySem.W.keepIn X.K (.ref f) = true) (hb : Binds X.K fd ps []) (ha : PA X (e :: es) (rdA X.K Ξ fs)) (hl : ∀ s m xs m', fs s m = .ok (xs, m') → xs.length = (e :: es).length)
    (hn : (e :: es).length = n := by rfl) (hg : Gl X x := by rfl) (hdb : (x == ("__debug__" : Str)) = false := by decide) (he : starEach (e :: es) X.env = (false, eval e X.env) :: starEach es X.env := by rfl) (hpl : (backTo pos (starEach es X.env)).any (·.1) = false := by rfl) :
    PE X (.Call (.Name x p) (e :: es) [] pos) (rdE X.K Ξ (eN (cP F) fs)) :=
  PE_imp (pe_call G hr hg hm hk hb .nil pass0 ha hdb he hpl) fun σ H Q ⟨g, s, m, em, sr, q⟩ => by
    refine ⟨g, s, m, em, sr, QR.bind q fun p hp q1 g1 H1 V x1 e1 r1 => ?_⟩
    exact ⟨g1, p.2, p.1, by rw [hl s m p.1 p.2 hp, hn], e1, by rw [List.append_nil]; exact r1, cP_X0 (QE.later x1 q1)⟩
theorem se_callP0 {F : PF} (G : FnOk X.prog X.w X.K X.mg X.base CX0 k f fd ps (spP X.K 0 F)) (hr : Room k X.A) (hm : X.mg x = some (.ref f)) (hk : PySem.W.keepIn X.K (.ref f) = true) (hb : Binds X.K fd ps [])
    (hg : Gl X x := by rfl) (hdb : (x == ("__debug__" : Str)) = false := by decide) : PE X (.Call (.Name x p) [] [] pos) (rdE X.K Ξ (eN (cP F) aNil)) :=
  PE_imp (pe_call0 G hr hg hm hk hb .nil pass0 hdb) fun σ H Q ⟨g, s, m, em, sr, q⟩ => ⟨g, m, [], rfl, em, .nil, cP_X0 q⟩

/-! ### repr of a truth value -/
theorem call_tReprB : CallR X (.builtin "repr") (rdN X.K Ξ fReprB) := by
  intro pins s σ H xs us Q I r ⟨g, m, as, e, ra, q⟩
  unfold fReprB at q
  split at q
  · cases ra with
    | cons r1 r2 =>
      cases r2
      cases r1.bl_inv
      obtain ⟨u, rfl, rx⟩ := vals1 r
      cases rx
      exact PySem.P.repr_of_bool ⟨.str _, H, I.tok _, ⟨_, rfl⟩, QE.ret e (.str _) q⟩
  · cases ra with
    | cons r1 r2 =>
      cases r2
      cases r1.bl_inv
      obtain ⟨u, rfl, rx⟩ := vals1 r
      cases rx
      exact PySem.P.repr_of_bool ⟨.str _, H, I.tok _, ⟨_, rfl⟩, QE.ret e (.str _) q⟩
  · exact q.elim

/-! ### zip -/
theorem zipP_get : ∀ {xs ys : List PV} {i : Nat}, i < (zipP xs ys).length → ∃ x y, xs[i]? = some x ∧ ys[i]? = some y ∧ (zipP xs ys)[i]? = some (.tup [x, y])
  | x :: xs, y :: ys, 0, _ => ⟨x, y, rfl, rfl, rfl⟩
  | x :: xs, y :: ys, i + 1, h => by
    obtain ⟨u, v, h1, h2, h3⟩ := zipP_get (xs := xs) (ys := ys) (i := i) (by simpa [zipP] using h)
    exact ⟨u, v, by simpa using h1, by simpa using h2, by simpa [zipP] using h3⟩
  | [], _, _, h => by simp [zipP] at h
  | _ :: _, [], _, h => by simp [zipP] at h
theorem zipP_end : ∀ {xs ys : List PV} {i : Nat}, (zipP xs ys).length ≤ i → xs.length ≤ i ∨ ys.length ≤ i
  | x :: xs, y :: ys, 0, h => by simp [zipP] at h
  | x :: xs, y :: ys, i + 1, h => by
    have := zipP_end (xs := xs) (ys := ys) (i := i) (by simpa [zipP] using h)
    simp only [List.length_cons]; omega
  | [], _, _, _ => .inl (by simp)
  | _ :: _, [], _, _ => .inr (by simp)
variable {a b : Expr} {fa fb : SE}
theorem si_zip {p2 tpos : Pos} {elts : List Expr} {kk : Nat} (hg : Gl X "zip") (hm : X.mg "zip" = none) (h : PE X a (rdE X.K Ξ fa)) (h' : PE X b (rdE X.K Ξ fb)) (hs : starEach [a, b] X.env = (false, eval a X.env) :: starEach [b] X.env := by rfl) (hpl : (backTo pos (starEach [b] X.env)).any (·.1) = false := by rfl) (hs2 : starEach [b] X.env = (false, eval b X.env) :: starEach [] X.env := by rfl) :
    PI X (.Tuple elts kk tpos) (.Call (.Name "zip" p2) [a, b] [] pos) (rdI X.K Ξ (iZip fa fb)) :=
  PI_imp (RZ.pi_zipA hg hm (pa_cons h (pa_cons h' pa_nil hs2) hs) hs hpl) fun σ H R ⟨g, s, m, em, sr, q⟩ => by
    refine ⟨g, s, m, em, sr, QR.bind q fun p hp q1 g1 H1 V x1 e1 r1 => ?_⟩
    refine ⟨g1, s, p.2, e1, sr.ext em x1, QR.bind (QR.later x1 q1 fun _ q g' H' J x => q g' H' J (x1.trans x)) fun p2 hp2 q2 g2 H2 W x2 e2 r2 => ?_⟩
    obtain ⟨v, m1⟩ := p
    obtain ⟨u, m2⟩ := p2
    have r1' := r1.ext e1 x2
    simp only at q2
    split at q2
    · rename_i xs ys
      obtain ⟨a1, vs, rfl, ha, ra⟩ := r1'.tup_inv
      obtain ⟨b1, ws, rfl, hb, rb⟩ := r2.tup_inv
      refine ⟨a1, b1, vs, ws, rfl, .inr ⟨ha, hb, q2 g2 H2 _ x2 e2 ⟨fun g' m' H' i x' e' hi => ?_, fun g' m' H' i x' e' hi => ?_⟩⟩⟩
      · obtain ⟨x0, y0, h1, h2, h3⟩ := zipP_get hi
        have ha' := e2.sqT x' ha
        have hb' := e2.sqT x' hb
        obtain ⟨xv, hx, rx⟩ := (ra.ext e2 x').get h1
        obtain ⟨yv, hy, ry⟩ := (rb.ext e2 x').get h2
        refine ⟨⟨vs, ws, xv, yv, ha', hb', hx, hy⟩, fun z H3 ⟨T, x1, y1, hz, hT, hH, f1, f2⟩ => ?_⟩
        subst hz hH
        have ex : x1 = xv := Option.some.inj ((f1 _ ha').symm.trans hx)
        have ey : y1 = yv := Option.some.inj ((f2 _ hb').symm.trans hy)
        subst ex ey
        obtain ⟨n1, n2, n3⟩ := e'.new_tup (xs := [x0, y0]) (vs := [x1, y1]) hT (.cons rx (.cons ry .nil))
        exact ⟨g', _, n1, n2, h3, n3⟩
      · refine ⟨vs, ws, e2.sqT x' ha, e2.sqT x' hb, ?_⟩
        rw [← ra.length, ← rb.length]
        exact zipP_end hi
    · rename_i xs ys
      cases r1' with
      | vl ha ra => cases r2 with
        | vl hb rb =>
          rename_i a1 vs b1 ws
          have hL : ∀ {g' m' H'}, Ext g2 H2 g' H' → Emb X.K g' m' H' → SqL X.K H' a1 vs ∧ SqL X.K H' b1 ws := fun x' e' => ⟨SqL.of (e'.ro _ _ (x'.ro _ _ ha)).1, SqL.of (e'.ro _ _ (x'.ro _ _ hb)).1⟩
          obtain ⟨l1, l2⟩ := hL (Ext.refl _ _) e2
          refine ⟨a1, b1, vs, ws, rfl, .inl ⟨l1, l2, q2 g2 H2 _ x2 e2 ⟨fun g' m' H' i x' e' hi => ?_, fun g' m' H' i x' e' hi => ?_⟩⟩⟩
          · obtain ⟨x0, y0, h1, h2, h3⟩ := zipP_get hi
            obtain ⟨ha', hb'⟩ := hL x' e'
            obtain ⟨xv, hx, rx⟩ := (ra.ext e2 x').get h1
            obtain ⟨yv, hy, ry⟩ := (rb.ext e2 x').get h2
            refine ⟨⟨vs, ws, xv, yv, ha', hb', hx, hy⟩, fun z H3 ⟨T, x1, y1, hz, hT, hH, f1, f2⟩ => ?_⟩
            subst hz hH
            have ex : x1 = xv := Option.some.inj ((f1 _ ha').symm.trans hx)
            have ey : y1 = yv := Option.some.inj ((f2 _ hb').symm.trans hy)
            subst ex ey
            obtain ⟨n1, n2, n3⟩ := e'.new_tup (xs := [x0, y0]) (vs := [x1, y1]) hT (.cons rx (.cons ry .nil))
            exact ⟨g', _, n1, n2, h3, n3⟩
          · obtain ⟨ha', hb'⟩ := hL x' e'
            refine ⟨vs, ws, ha', hb', ?_⟩
            rw [← ra.length, ← rb.length]
            exact zipP_end hi
    · exact q2.elim
end
end TT
end

section
set_option Elab.async false
set_option linter.all false
set_option autoImplicit false
set_option maxRecDepth 100000
/-! TT: x[::-1] of tuples and lists -/
namespace TT
open PySem PySem.Spec PyProof.Rows L2
section
variable {prog : Program} {w : World} {A : Around} {E : Value → Shared → Prop} {s : Shared}
theorem revAll (xs : Array Value) : ((List.range xs.size).filterMap fun (m : Nat) => xs[((xs.size : Int) - 1 + (m : Int) * (-1)).toNat]?).toArray = xs.toList.reverse.toArray := by
  congr 1
  apply List.ext_getElem?
  intro i
  have key : ∀ (n : Nat), n ≤ xs.size → ((List.range n).filterMap fun (m : Nat) => xs[((xs.size : Int) - 1 + (m : Int) * (-1)).toNat]?) = xs.toList.reverse.take n := by
    intro n hn
    induction n with
    | zero => rfl
    | succ n ih =>
      rw [List.range_succ, List.filterMap_append, ih (Nat.le_of_succ_le hn)]
      have hlt : n < xs.toList.reverse.length := by simp; omega
      rw [List.take_succ_eq_append_getElem hlt]
      congr 1
      have e : ((xs.size : Int) - 1 + (n : Int) * (-1)).toNat = xs.size - 1 - n := by omega
      simp only [List.filterMap_cons, List.filterMap_nil, e]
      have hb : xs.size - 1 - n < xs.size := by omega
      rw [Array.getElem?_eq_getElem hb]
      simp [List.getElem_reverse]
  rw [key xs.size (Nat.le_refl _), List.take_of_length_le (by simp)]
theorem sliceApplied_rev {sl : Addr} {vs : Value} {n : Nat} {Q : Int × Int × Nat → Shared → Prop} (hs : s.heap.IsSliceOf sl .none .none vs) (ps : IsPart vs (some (-1))) (h : Q ((n : Int) - 1, -1, n) s) : wpAny (model prog w) A (Builtin.Slice.sliceApplied (.ref sl) (pure (n : Int))) Q E s := by
  obtain ⟨os, hos, hcs, hds⟩ := id hs
  unfold Builtin.Slice.sliceApplied Builtin.Slice.sliceFields
  refine wpAny_bind (wpAny_bind (wpAny_field hos hds (x := .none) rfl (wpAny_bind (wpAny_field hos hds (x := .none) rfl (wpAny_bind (wpAny_field hos hds (x := vs) rfl (wpAny_pure ?_)))))))
  refine wpAny_bind (HT.slicePart_ ps ?_)
  show wpAny _ _ (if ((-1 : Int) == 0) = true then _ else _) _ _ s
  rw [if_neg (by decide)]
  refine wpAny_bind (slicePart_none (wpAny_bind (slicePart_none (wpAny_bind (wpAny_pure ?_)))))
  show wpAny _ _ (match Builtin.Slice.sliceAdjust none none (-1) (n : Int) with | (lo, hi) => pure (lo, (-1 : Int), Builtin.Slice.slicePlaces lo hi (-1))) _ _ s
  have e1 : Builtin.Slice.sliceAdjust none none (-1) (n : Int) = ((n : Int) - 1, -1) := by
    unfold Builtin.Slice.sliceAdjust; rfl
  rw [e1]
  have e2 : Builtin.Slice.slicePlaces ((n : Int) - 1) (-1) (-1) = n := by
    unfold Builtin.Slice.slicePlaces
    rw [if_neg (by decide)]
    split <;> simp <;> omega
  show wpAny _ _ (pure ((n : Int) - 1, (-1 : Int), Builtin.Slice.slicePlaces ((n : Int) - 1) (-1) (-1))) _ _ s
  rw [e2]
  exact wpAny_pure h
theorem getItem_tuple_rev {t sl : Addr} {items : Array Value} {vs : Value} {Q : Value → Shared → Prop} (ht : IsTup s.heap t items) (hs : s.heap.IsSliceOf sl .none .none vs) (ps : IsPart vs (some (-1)))
    (h : Q (.ref s.heap.objs.size) { s with heap := s.heap.push { cls := .type "tuple", data := .seq items.toList.reverse.toArray } })
    (hsz : items.size ≤ sizeLine) : wpAny (model prog w) A (getItem (.ref t) (.ref sl)) Q E s := by
  have htake : sizeOk (.seq items.toList.reverse.toArray) := by
    show items.toList.reverse.toArray.size ≤ sizeLine
    simpa using hsz
  obtain ⟨os, hos, hcs, hds⟩ := id hs
  have hTs : s.TypeIs (.ref sl) "slice" := ⟨os, hos, hcs⟩
  unfold getItem
  try with_reducible refine wpAny_holding ?_
  first | refine wpAny_bind (wpAny_pure ?_) | skip
  refine wpAny_bind (wpAny_sequenceKey ht.typeIs (by decide) ?_)
  refine wpAny_bind (wpAny_callSpecial?_slot (name := Str.ofString "__getitem__") ht.typeIs PyProof.Rows.slot_tuple_getitem
    (wpAny_call_entry PyProof.Rows.slot_tuple_getitem ht.typeIs entry_tuple_getitem ?_ (args_tuple_getitem _ _)))
  show wpAny _ _ (Builtin.Tuple.tupleItemsOf (.ref t) >>= _) _ _ s
  refine wpAny_bind (tupleItemsOf_ ht ?_)
  refine wpAny_bind (wpAny_typeOf hTs ?_)
  rw [if_pos (by decide)]
  refine wpAny_bind (sliceApplied_rev hs ps ?_)
  show wpAny _ _ (if ((((items.size : Int) - 1) == 0 && (-1 : Int) == 1 && items.size == items.size) = true) then _ else _) _ _ s
  rw [if_neg (by intro q; rw [Bool.and_eq_true, Bool.and_eq_true] at q; exact absurd q.1.2 (by decide)), revAll]
  first
    | exact wpAny_bind (m := Builtin.Tuple.tupleExact _) (wpAny_newObj_type (wpAny_pure ⟨_, rfl, wpAny_pure h⟩) htake)
    | exact wpAny_bind (m := Builtin.Tuple.tupleExact _) (wpAny_newObj_type (wpAny_bind (wpAny_pure (wpAny_pure ⟨_, rfl, wpAny_pure h⟩))) htake)
    | exact wpAny_bind (wpAny_bind (m := Builtin.Tuple.tupleExact _) (wpAny_newObj_type (wpAny_pure (wpAny_pure ⟨_, rfl, wpAny_pure h⟩)) htake))
    | exact wpAny_bind (wpAny_bind (m := Builtin.Tuple.tupleExact _) (wpAny_newObj_type (wpAny_pure ⟨_, rfl, wpAny_pure h⟩) htake))
end
section
variable {X : Cx} {Ξ : XC} {fa : SE}
def tRevT (K : PySem.W.Frag) (te : TE) : TE := fun σ H Q => te σ H fun x H1 => ∃ a xs, x = .ref a ∧ SqT K H1 a xs ∧ ∀ p, H1 p = none → Q (.ref p) (upd H1 p (.tup xs.reverse))
theorem pe_revT {e : Expr} {te : TE} {k : Nat} {p1 p2 p3 pos : Pos} (he : PE X e te) : PE X (.Subscript e (.Slice none none (some (.UnaryOp .USub (.Constant (.int 1) k p1) p2)) p3) pos) (tRevT X.K te) := by
  refine ⟨fun pins s σ H Q I h => ?_⟩
  refine Subscript_ (thn (he.run pins s σ H _ I h) fun v s1 ⟨x, H1, I1, r1, q1⟩ => ?_)
  obtain ⟨a, xs, ex, hx, q⟩ := q1
  subst ex
  cases r1
  have hst : PO X (some (.UnaryOp .USub (.Constant (.int 1) k p1) p2)) (tPart (tUn (rU fun i => .int (-i)) (tC (.int 1)))) := po_some (pe_un un_neg pe_int)
  refine wpAny_Slice (thn (po_none.run pins s1 σ H1 (fun o H2 => o = none ∧ H2 = H1) I1 ⟨rfl, rfl⟩) fun vl s2 ⟨l, H2, I2, pl, el, e2⟩ => ?_)
  subst el e2
  refine thn (po_none.run pins s2 σ H2 (fun o H3 => o = none ∧ H3 = H2) I2 ⟨rfl, rfl⟩) fun vu s3 ⟨u, H3, I3, pu, eu, e3⟩ => ?_
  subst eu e3
  refine thn (hst.run pins s3 σ H3 (fun o H4 => o = some (-1) ∧ H4 = H3) I3 ⟨1, rfl, -1, rfl, rfl, rfl⟩) fun vs s4 ⟨o, H4, I4, ps, eo, e4⟩ => ?_
  subst eo e4
  cases pl
  cases pu
  have I5 : Inv X pins σ H4 { s4 with heap := s4.heap.push { cls := .type "slice", data := .fields #[.none, .none, vs] } } := I4.kept (t' := s4.toks) fun b ob q => Heap.get?_push_of_some _ q
  obtain ⟨its, r, ht, hz⟩ := I5.tuple hx
  have hlen := r.length
  show wpAny (model X.prog X.w) X.A (subscriptTail e (.Slice none none (some (.UnaryOp .USub (.Constant (.int 1) k p1) p2)) p3) (.ref a) (.ref s4.heap.objs.size)) (EP X pins σ Q) X.xe { s4 with heap := s4.heap.push { cls := .type "slice", data := .fields #[.none, .none, vs] } }
  refine tail_any (ops := [.ref a, .ref s4.heap.objs.size]) ht.typeIs PyProof.Rows.slot_tuple_getitem.lookup ?_ (by with_unfolding_all rfl)
  refine getItem_tuple_rev ht (Heap.IsSliceOf.new _ .none .none vs) ps ?_ (by rw [List.size_toArray]; omega)
  refine ⟨.ref _, _, I5.laid (t' := s4.toks) (o := .tup xs.reverse) (fun b ob q => Heap.get?_push_of_some _ q) (Nat.le_refl _) ?_, rfl, q _ (I5.hok.fresh (Nat.le_refl _))⟩
  refine ⟨by rw [List.length_reverse]; exact hz, its.reverse, r.reverse, ?_⟩
  have := IsTup.new { s4.heap with objs := s4.heap.objs.push { cls := .type "slice", data := .fields #[.none, .none, vs] } } its.reverse.toArray
  exact this
theorem PE_or {e : Expr} {t t' : TE} (h : PE X e t) (h' : PE X e t') : PE X e (fun σ H Q => t σ H Q ∨ t' σ H Q) := ⟨fun pins s σ H Q I q => q.elim (h.run pins s σ H Q I) (h'.run pins s σ H Q I)⟩
theorem se_revL {e : Expr} {k : Nat} {p1 p2 p3 pos : Pos} (he : PE X e (rdE X.K Ξ fa)) : PE X (.Subscript e (.Slice none none (some (.UnaryOp .USub (.Constant (.int 1) k p1) p2)) p3) pos) (rdE X.K Ξ (e1 oRevL fa)) :=
  PE_imp (pe_revL he) fun σ H Q ⟨g, s, m, em, sr, q⟩ => by
    refine ⟨g, s, m, em, sr, QR.bind q fun p hp q1 g1 H1 V x1 e1 r1 => ?_⟩
    obtain ⟨v, m1⟩ := p
    have q2 : QE X.K Ξ g1 H1 Q (oRevL v m1) := QE.later x1 q1
    unfold oRevL at q2
    split at q2
    · rename_i xs h1
      obtain ⟨a1, vs, rfl, ha, r1'⟩ := e1.look r1 h1
      exact ⟨a1, vs, rfl, SqL.of ha, fun p hp => QE.newL e1 r1'.rev q2 hp⟩
    · exact q2.elim
theorem se_revT {e : Expr} {k : Nat} {p1 p2 p3 pos : Pos} (he : PE X e (rdE X.K Ξ fa)) : PE X (.Subscript e (.Slice none none (some (.UnaryOp .USub (.Constant (.int 1) k p1) p2)) p3) pos) (rdE X.K Ξ (e1 oRevT fa)) :=
  PE_imp (pe_revT he) fun σ H Q ⟨g, s, m, em, sr, q⟩ => by
    refine ⟨g, s, m, em, sr, QR.bind q fun p hp q1 g1 H1 V x1 e1 r1 => ?_⟩
    obtain ⟨v, m1⟩ := p
    have q2 : QE X.K Ξ g1 H1 Q (oRevT v m1) := QE.later x1 q1
    unfold oRevT at q2
    split at q2
    · rename_i xs
      obtain ⟨a1, vs, rfl, ha, r1'⟩ := r1.tup_inv
      exact ⟨a1, vs, rfl, ha, fun p hp => QE.newT e1 r1'.rev q2 hp⟩
    · exact q2.elim
end
end TT
end

section
set_option Elab.async false
set_option linter.all false
set_option autoImplicit false
set_option maxRecDepth 100000
/-! TT: comprehensions whose target is a tuple of names -/
namespace TT
open PySem PySem.Spec PyProof.Rows L2
theorem wipe_get (σ : L2.St) (own : List Nat) : ∀ (j : Nat), (L2.wipe σ own)[j]? = if j ∈ own then (if j < σ.length then some none else none) else σ[j]? := by
  induction own with
  | nil => intro j; simp [L2.wipe]
  | cons v vs ih =>
    intro j
    unfold L2.wipe
    by_cases hv : v = j
    · subst hv
      simp only [List.mem_cons, true_or, if_true]
      by_cases hl : v < σ.length
      · rw [List.getElem?_set_self (by rw [L2.wipe_length]; exact hl), if_pos hl]
      · rw [List.getElem?_eq_none (by rw [List.length_set, L2.wipe_length]; omega), if_neg hl]
    · rw [List.getElem?_set_ne hv, ih j]
      simp only [List.mem_cons, Ne.symm hv, false_or]
theorem wipe_set1 {σ : L2.St} {i : Nat} {x : Option V} {own : List Nat} (hi : i ∈ own) : L2.wipe (σ.set i x) own = L2.wipe σ own := by
  apply List.ext_getElem?
  intro j
  rw [wipe_get, wipe_get, List.length_set]
  by_cases hj : j ∈ own
  · rw [if_pos hj, if_pos hj]
  · rw [if_neg hj, if_neg hj, List.getElem?_set_ne (fun z => hj (by rw [← z]; exact hi))]
theorem wipe_wipe {σ : L2.St} {own : List Nat} : L2.wipe (L2.wipe σ own) own = L2.wipe σ own := by
  apply List.ext_getElem?
  intro j
  rw [wipe_get, wipe_get, L2.wipe_length]
  by_cases hj : j ∈ own
  · rw [if_pos hj, if_pos hj]
  · rw [if_neg hj, if_neg hj]
def tgs : List Nat → TGs
  | [] => gNil
  | i :: is => gCons (L2.gName i) (tgs is)
section
variable {K : PySem.W.Frag} {g : Gh} {H : Hp}
theorem tgs_run : ∀ (is : List Nat) (pvs : List PV) (xs : List V) (s s' : Sl) (σ : L2.St), Sr K g H s σ → Rps K g H pvs xs → gNames is pvs s = some s' →
    ∃ σ', Sr K g H s' σ' ∧ (∀ Q : L2.St → Hp → Prop, Q σ' H → tgs is xs σ H Q) ∧ ∀ own : List Nat, (∀ i ∈ is, i ∈ own) → L2.wipe σ' own = L2.wipe σ own
  | [], [], _, s, s', σ, sr, .nil, h => by
    cases h
    exact ⟨σ, sr, fun Q q => ⟨rfl, q⟩, fun _ _ => rfl⟩
  | [], _ :: _, _, _, _, _, _, _, h => by cases h
  | _ :: _, [], _, _, _, _, _, _, h => by cases h
  | i :: is, pv :: pvs, x :: xs, s, s', σ, sr, .cons r1 r2, h => by
    obtain ⟨σ', h1, h2, h3⟩ := tgs_run is pvs xs _ s' (σ.set i (some x)) (sr.set r1 i) r2 h
    refine ⟨σ', h1, fun Q q => ⟨x, xs, rfl, h2 Q q⟩, fun own ho => ?_⟩
    rw [h3 own fun j hj => ho j (List.mem_cons_of_mem _ hj), wipe_set1 (ho i List.mem_cons_self)]
end
section
variable {X : Cx} {Ξ : XC} {c : Expr} {es : List Expr} {pos : Pos} {ft : ST} {K : PySem.W.Frag}
theorem sgt_nil : PGs X [] (tgs []) := pgs_nil
theorem sgt_cons {is : List Nat} (i : Nat) {x : Str} {p : Pos} (hN : X.N.Nodup) (h2 : PGs X es (tgs is)) (hi : X.N[i]? = some x := by rfl) (hx : Loc X.env.scope x := by first | exact Or.inl rfl | exact Or.inr rfl) (hf : X.fn x = true ∨ X.env.scope.names.lookup x = some .local := by first | exact .inl rfl | exact .inr rfl | assumption)
    (hs : (assignEach (.Name x p :: es) X.env).map (·.2) = assign (.Name x p) X.env :: (assignEach es X.env).map (·.2) := by rfl) : PGs X (.Name x p :: es) (tgs (i :: is)) := pgs_cons (pg_name hN hi hx hf) h2 hs
theorem rd_lcT {own : List Nat} {it : SI} {is : List Nat} {n : Nat} {ft : ST} {fe : SE} (hi : ∀ i ∈ is, i ∈ own) (hn : is.length = n) {σ : L2.St} {H : Hp} {Q : VK}
    (h : rdE K Ξ (eLc own it (TT.gTup is) ft fe) σ H Q) : tLc (rdI K Ξ it) (L2.gTup K n (tgs is)) (rdT K X0 ft) (rdE K X0 fe) own σ H Q :=
  rd_lc (fun v σ H Q ⟨g, s, m, pv, em, sr, rv, q⟩ => by
    unfold TT.gTup at q
    split at q
    · rename_i vs
      obtain ⟨a, ws, rfl, ha, r1⟩ := rv.tup_inv
      split at q
      · rename_i s' hs
        obtain ⟨σ', h1, h2, h3⟩ := tgs_run is vs ws s s' _ sr r1 hs
        refine ⟨a, ws, rfl, ha, by rw [← r1.length, gNames_len _ _ _ _ hs, hn], h2 _ ⟨?_, q g H σ' (Ext.refl _ _) em h1⟩⟩
        rw [h3 own hi, wipe_wipe]
      · exact q.elim
    · exact q.elim) h
theorem se_lcT {elt iter : Expr} {ifs : List Expr} {scope : Scope} {own : List (Str × Nat)} {oi : List Nat} {tes : List Expr} {tk : Nat} {tp : Pos} {it : SI} (is : List Nat) {fe : SE} (hc : X.calm = true) (hN : X.N.Nodup) (hi : PI X (.Tuple tes tk tp) iter (rdI X.K Ξ it)) (ok : BlkOk X.N X.env.scope scope own)
    (hg : ∀ (s : Shared) (H : Hp) (C : Addr) (cl : List (Str × Addr)) (fp : List Addr), PG (X.blk s H scope (compEnvC scope cl C X.env) fp) (.Tuple tes tk tp) (L2.gTup X.K is.length (tgs is))) (ht : ∀ (s : Shared) (H : Hp) (C : Addr) (cl : List (Str × Addr)) (fp : List Addr), PTs (X.blk s H scope (compEnvC scope cl C X.env) fp) ifs (rdT X.K X0 ft))
    (he : ∀ (s : Shared) (H : Hp) (C : Addr) (cl : List (Str × Addr)) (fp : List Addr), PE (X.blk s H scope (compEnvC scope cl C X.env) fp) elt (rdE X.K X0 fe)) (hs : ∀ x, foldedSetIterable iter X.env x = pure x := by intro _; rfl) (ho : own.map (·.2) = oi := by rfl) (hm : ∀ i ∈ is, i ∈ own.map (·.2) := by decide) :
    PE X (.ListComp elt [⟨.Tuple tes tk tp, iter, ifs, 0⟩] scope pos) (rdE X.K Ξ (eLc oi it (TT.gTup is) ft fe)) := by
  subst ho
  exact PE_imp (pe_lc hc hN hi ok hg ht he hs) fun σ H Q h => rd_lcT hm rfl h
theorem ss_setLcT {elt iter : Expr} {ifs : List Expr} {scope : Scope} {own : List (Str × Nat)} {oi : List Nat} {y : Str} {py spos : Pos} {tes : List Expr} {tk : Nat} {tp : Pos} {it : SI} (iy : Nat) (is : List Nat) {fe : SE} (hc : X.calm = true) (hN : X.N.Nodup) (hi : PI X (.Tuple tes tk tp) iter (rdI X.K Ξ it)) (ok : BlkOk X.N X.env.scope scope own)
    (hg : ∀ (s : Shared) (H : Hp) (C : Addr) (cl : List (Str × Addr)) (fp : List Addr), PG (X.blk s H scope (compEnvC scope cl C X.env) fp) (.Tuple tes tk tp) (L2.gTup X.K is.length (tgs is))) (ht : ∀ (s : Shared) (H : Hp) (C : Addr) (cl : List (Str × Addr)) (fp : List Addr), PTs (X.blk s H scope (compEnvC scope cl C X.env) fp) ifs (rdT X.K X0 ft))
    (he : ∀ (s : Shared) (H : Hp) (C : Addr) (cl : List (Str × Addr)) (fp : List Addr), PE (X.blk s H scope (compEnvC scope cl C X.env) fp) elt (rdE X.K X0 fe)) (hsw : swapsWith (.ListComp elt [⟨.Tuple tes tk tp, iter, ifs, 0⟩] scope pos) (some (.Name y py)) spos.line X.env = pure true)
    (hy : X.N[iy]? = some y := by rfl) (hyl : X.env.scope.names.lookup y = some .local := by rfl) (hs : ∀ x, foldedSetIterable iter X.env x = pure x := by intro _; rfl) (ho : own.map (·.2) = oi := by rfl) (hm : ∀ i ∈ is, i ∈ own.map (·.2) := by decide) :
    PS X (.Assign [.Name y py] (.ListComp elt [⟨.Tuple tes tk tp, iter, ifs, 0⟩] scope pos) spos) (rdS X.K Ξ (sAsg (eLc oi it (TT.gTup is) ft fe) (TT.gName iy))) := by
  subst ho
  exact PS_imp (ps_setLc hc hN hy hyl hsw hi ok hg ht he hs) fun D σ H ⟨g, s, m, em, sr, q⟩ => by
    refine rd_lcT (Ξ := Ξ) hm rfl ⟨g, s, m, em, sr, QR.bind q fun p hp q1 g1 H1 V x1 e1 r1 => ?_⟩
    exact QS_nx e1 ((sr.ext em x1).set r1 iy) (QS.later x1 q1)
end

/-! ### what a def of the text is worth to its callers -/
section
variable {P : Program} {w : World} {K : PySem.W.Frag} {mg : Str → Option Value} {base : Heap}
/-- a def by this name keeps this promise, by at most level k -/
def Has (P : Program) (w : World) (K : PySem.W.Frag) (mg : Str → Option Value) (base : Heap) (x : Str) (k : Nat) (sp : Sp) : Prop :=
  ∃ f fd ps, FnOk P w K mg base CX0 k f fd ps sp ∧ mg x = some (.ref f) ∧ PySem.W.keepIn K (.ref f) = true ∧ Binds K fd ps []
theorem Has.mono {x : Str} {j k : Nat} {sp : Sp} (h : Has P w K mg base x j sp) (hk : j ≤ k) : Has P w K mg base x k sp := let ⟨f, fd, ps, a, b, c, d⟩ := h; ⟨f, fd, ps, a.mono hk, b, c, d⟩
theorem Has.toP {x : Str} {k n N : Nat} {b : SS} (h : Has P w K mg base x k (spI K n (bodyI N n b))) : Has P w K mg base x k (spP K n (bodyP N n b)) := let ⟨f, fd, ps, a, b, c, d⟩ := h; ⟨f, fd, ps, TT.FnOk.toP a, b, c, d⟩
theorem Has.mirP {x : Str} {k n : Nat} {F G : PF} (h : Has P w K mg base x k (spP K n F)) (i : ∀ as v, as.length = n → G as = .ok v → F as = .ok v) : Has P w K mg base x k (spP K n G) := let ⟨f, fd, ps, a, b, c, d⟩ := h; ⟨f, fd, ps, TT.FnOk.mirP a i, b, c, d⟩
theorem Has.mirI {x : Str} {k n : Nat} {F G : IF} (h : Has P w K mg base x k (spI K n F)) (i : ∀ as m v m', as.length = n → G as m = .ok (v, m') → ∃ gar, F as m = .ok (v, m' ++ gar) ∧ (gar = [] ∨ (m'.length = m.length ∧ v.pu = true ∧ Calm1 m m'))) : Has P w K mg base x k (spI K n G) := let ⟨f, fd, ps, a, b, c, d⟩ := h; ⟨f, fd, ps, TT.FnOk.mirI a i, b, c, d⟩
/-- a def, by its body -/
theorem has_def {x : Str} {st : Stmt} {f : Addr} {fd : FuncData} {N ps : List Str} {k : Nat} {b : SS} (F : Fun K x x st f fd) (hm : mg x = some (.ref f)) (S : FnScope N ps (defScope st)) (hN : ps.length ≤ N.length)
    (hb : ∀ (kV doc pm : Value) (an : Option Addr) (cdv ct : Value) (us : List Value), us.length = ps.length → bindArgs (PySem.W.fnOf x x (defArgs st) (defBody st) (defScope st) .none kV doc pm an cdv ct) ⟨us, []⟩ = pure (ps.zip us))
    (hbody : ∀ (cdv : Value) (A : Around) (outer : List Env) (s : Shared) (H : Hp) (E : XK), Room k (A.deeper (envOfC x (defScope st) s.heap.objs.size f cdv)) →
      PSs (cxOf CX0 P w K mg base N x (defScope st) f cdv A outer s H E).nox (defBody st) (rdS K X0 b)) : Has P w K mg base x (k + 1) (spI K ps.length (bodyI N.length ps.length b)) :=
  ⟨f, fd, ps, defI F S hN hbody, hm, F.kp, F.binds hb⟩
end
section
variable {X : Cx} {Ξ : XC} {k : Nat} {x : Str} {p pos : Pos} {e : Expr} {es : List Expr} {fs : SA}
theorem sh_callI {n : Nat} {F : IF} (h : Has X.prog X.w X.K X.mg X.base x k (spI X.K n F)) (hr : Room k X.A) (ha : PA X (e :: es) (rdA X.K Ξ fs)) (hl : ∀ s m xs m', fs s m = .ok (xs, m') → xs.length = (e :: es).length)
    (hn : (e :: es).length = n := by rfl) (hg : Gl X x := by rfl) (hdb : (x == ("__debug__" : Str)) = false := by decide) (he : starEach (e :: es) X.env = (false, eval e X.env) :: starEach es X.env := by rfl) (hpl : (backTo pos (starEach es X.env)).any (·.1) = false := by rfl) :
    PE X (.Call (.Name x p) (e :: es) [] pos) (rdE X.K Ξ (eN (cI F) fs)) := let ⟨f, fd, ps, a, b, c, d⟩ := h; se_callI a hr b c d ha hl hn hg hdb he hpl
theorem sh_callI0 {F : IF} (h : Has X.prog X.w X.K X.mg X.base x k (spI X.K 0 F)) (hr : Room k X.A) (hg : Gl X x := by rfl) (hdb : (x == ("__debug__" : Str)) = false := by decide) : PE X (.Call (.Name x p) [] [] pos) (rdE X.K Ξ (eN (cI F) aNil)) := let ⟨f, fd, ps, a, b, c, d⟩ := h; se_callI0 a hr b c d hg hdb
theorem sh_callP {n : Nat} {F : PF} (h : Has X.prog X.w X.K X.mg X.base x k (spP X.K n F)) (hr : Room k X.A) (ha : PA X (e :: es) (rdA X.K Ξ fs)) (hl : ∀ s m xs m', fs s m = .ok (xs, m') → xs.length = (e :: es).length)
    (hn : (e :: es).length = n := by rfl) (hg : Gl X x := by rfl) (hdb : (x == ("__debug__" : Str)) = false := by decide) (he : starEach (e :: es) X.env = (false, eval e X.env) :: starEach es X.env := by rfl) (hpl : (backTo pos (starEach es X.env)).any (·.1) = false := by rfl) :
    PE X (.Call (.Name x p) (e :: es) [] pos) (rdE X.K Ξ (eN (cP F) fs)) := let ⟨f, fd, ps, a, b, c, d⟩ := h; se_callP a hr b c d ha hl hn hg hdb he hpl
theorem sh_callP0 {F : PF} (h : Has X.prog X.w X.K X.mg X.base x k (spP X.K 0 F)) (hr : Room k X.A) (hg : Gl X x := by rfl) (hdb : (x == ("__debug__" : Str)) = false := by decide) : PE X (.Call (.Name x p) [] [] pos) (rdE X.K Ξ (eN (cP F) aNil)) := let ⟨f, fd, ps, a, b, c, d⟩ := h; se_callP0 a hr b c d hg hdb
/-- a constant of the module -/
def HasC (K : PySem.W.Frag) (mg : Str → Option Value) (x : Str) (v : PV) : Prop := ∃ u w, mg x = some u ∧ RelV w u ∧ ∀ g H, Rp K g H v w
theorem sh_glob {v : PV} {pos : Pos} (h : HasC X.K X.mg x v) (hg : Gl X x := by rfl) (hd : (x == ("__debug__" : Str)) = false := by decide) : PE X (.Name x pos) (rdE X.K Ξ (eC v)) := let ⟨u, w, a, b, c⟩ := h; se_glob hg a b c hd
end
theorem bb_len : bootBuiltins "len" = some (.builtin "len") := by decide +kernel
theorem bb_int : bootBuiltins "int" = some (.type "int") := by decide +kernel
theorem bb_str : bootBuiltins "str" = some (.type "str") := by decide +kernel
theorem bb_bool : bootBuiltins "bool" = some (.type "bool") := by decide +kernel
theorem bb_list : bootBuiltins "list" = some (.type "list") := by decide +kernel
theorem bb_tuple : bootBuiltins "tuple" = some (.type "tuple") := by decide +kernel
theorem bb_isinstance : bootBuiltins "isinstance" = some (.builtin "isinstance") := by decide +kernel
theorem bb_min : bootBuiltins "min" = some (.builtin "min") := by decide +kernel
theorem bb_max : bootBuiltins "max" = some (.builtin "max") := by decide +kernel
theorem bb_all : bootBuiltins "all" = some (.builtin "all") := by decide +kernel
theorem bb_repr : bootBuiltins "repr" = some (.builtin "repr") := by decide +kernel
theorem bb_sum : bootBuiltins "sum" = some (.builtin "sum") := by decide +kernel
theorem bb_sorted : bootBuiltins "sorted" = some (.builtin "sorted") := by decide +kernel
end TT
end

section
set_option Elab.async false
set_option linter.all false
set_option autoImplicit false
set_option maxRecDepth 100000
/-! TT: the law's own promise -/
namespace TT
open PySem PySem.Spec PyProof.Rows L2
def spLaw (K : PySem.W.Frag) : Sp := fun vs H Q _ => ∃ (a : Addr) (ns : List Int), vs = [.ref a] ∧ SqL K H a (ns.map V.int) ∧ ns.length ≤ 63 ∧ ∀ H', Q (.bl true) H'
theorem rps_ints {K : PySem.W.Frag} {g : Gh} {H : Hp} : ∀ ns : List Int, Rps K g H (ns.map PV.int) (ns.map V.int)
  | [] => .nil
  | n :: r => .cons (.int n) (rps_ints r)
theorem spLaw_of {K : PySem.W.Frag} {F : IF} (h : ∀ ns : List Int, ns.length ≤ 63 → ∃ m, F [.fz (ns.map PV.int)] [] = .ok (.bl true, m)) {vs : List V} {H : Hp} {Q : VK} {E : XK} (q : spLaw K vs H Q E) : spI K 1 F vs H Q E := by
  obtain ⟨a, ns, rfl, hS, hl, q⟩ := q
  refine ⟨⟨fun _ => none, H⟩, [], [.fz (ns.map PV.int)], rfl, ⟨(fun n o h => by simp at h), (fun n a h => nomatch h), (fun n k a h _ => nomatch h), (fun a u h => ⟨h, (fun n z => nomatch z)⟩)⟩, .cons (.fz hS (rps_ints ns)) .nil, ?_⟩
  obtain ⟨m, hm⟩ := h ns hl
  unfold cI
  rw [hm]
  intro g' H' V x e r
  cases r.bl_inv
  exact q H'
/-- the law's def: its function over every base, from what it has there -/
theorem law_fn {P : Program} {w : World} {K : PySem.W.Frag} {mg : Str → Option Value} {base : Heap} {x : Str} {st : Stmt} {f : Addr} {fd : FuncData} {N : List Str} {p : Str} {k : Nat} {b : SS} (F : Fun K x x st f fd) (S : FnScope N [p] (defScope st)) (hN : 1 ≤ N.length)
    (hbody : ∀ (cdv : Value) (A : Around) (outer : List Env) (s : Shared) (H : Hp) (E : XK), Room k (A.deeper (envOfC x (defScope st) s.heap.objs.size f cdv)) →
      PSs (cxOf CX0 P w K mg base N x (defScope st) f cdv A outer s H E).nox (defBody st) (rdS K X0 b))
    (h : ∀ ns : List Int, ns.length ≤ 63 → ∃ m, bodyI N.length 1 b [.fz (ns.map PV.int)] [] = .ok (.bl true, m)) : FnOk P w K mg base CX0 (k + 1) f fd [p] (spLaw K) :=
  (defI (ps := [p]) F S hN hbody).imp fun _ _ _ _ => spLaw_of h
/-! ### constants of the module -/
theorem HasC.int {K : PySem.W.Frag} {mg : Str → Option Value} {x : Str} {i : Int} {t : Tok} (h : mg x = some (.int i t)) : HasC K mg x (.int i) := ⟨_, .int i, h, ⟨t, rfl⟩, fun _ _ => .int i⟩
theorem HasC.str {K : PySem.W.Frag} {mg : Str → Option Value} {x : Str} {z : Str} {t : Tok} (l : List Nat) (h : mg x = some (.str z t)) (e : z = ⟨l.toArray⟩) : HasC K mg x (.str l) := by
  subst e; exact ⟨_, .str _, h, ⟨t, rfl⟩, fun _ _ => .str l⟩
/-- a value of the written part -/
inductive KV1 (K : PySem.W.Frag) : PV → Value → Prop
  | non : KV1 K .non .none
  | bl (b : Bool) : KV1 K (.bl b) (.bool b)
  | int (i : Int) (t : Tok) : KV1 K (.int i) (.int i t)
  | str (l : List Nat) (t : Tok) : KV1 K (.str l) (.str ⟨l.toArray⟩ t)
inductive KVs (K : PySem.W.Frag) (R : PV → Value → Prop) : List PV → List Value → Prop
  | nil : KVs K R [] []
  | cons {x : PV} {xs : List PV} {u : Value} {us : List Value} : R x u → KVs K R xs us → KVs K R (x :: xs) (u :: us)
theorem kv1_rp {K : PySem.W.Frag} {g : Gh} {H : Hp} {x : PV} {u : Value} (h : KV1 K x u) : ∃ v, RelV v u ∧ Rp K g H x v := by
  cases h with
  | non => exact ⟨.non, rfl, .non⟩
  | bl b => exact ⟨.bl b, rfl, .bl b⟩
  | int i t => exact ⟨.int i, ⟨t, rfl⟩, .int i⟩
  | str l t => exact ⟨.str _, ⟨t, rfl⟩, .str l⟩
/-- a tuple of the written part whose items are R -/
def KTup (K : PySem.W.Frag) (R : PV → Value → Prop) (xs : List PV) (a : Addr) : Prop := ∃ (oc : Value) (od : Option Addr) (us : List Value) (n : Nat) (sl : Array (Option Value)), oc = .type "tuple" ∧ K.lookup a = some ⟨oc, od, .seq us.toArray n, sl⟩ ∧ us.length ≤ 1000 ∧ KVs K R xs us
theorem ktup_rp {K : PySem.W.Frag} {R : PV → Value → Prop} (hR : ∀ x u, R x u → ∃ v, RelV v u ∧ ∀ g H, Rp K g H x v) {xs : List PV} {a : Addr} (h : KTup K R xs a) : ∀ g H, Rp K g H (.tup xs) (.ref a) := by
  obtain ⟨oc, od, us, n, sl, rfl, hl, hs, hk⟩ := h
  have : ∃ vs, Vals vs us ∧ ∀ g H, Rps K g H xs vs := by
    clear hl hs
    induction hk with
    | nil => exact ⟨[], .nil, fun _ _ => .nil⟩
    | cons h1 _ ih =>
      obtain ⟨vs, a, b⟩ := ih
      obtain ⟨v, c, d⟩ := hR _ _ h1
      exact ⟨v :: vs, .cons c a, fun g H => .cons (d g H) (b g H)⟩
  obtain ⟨vs, hv, hr⟩ := this
  intro g H
  refine .tup (.inr ⟨_, us.toArray, n, hl, rfl, rfl, ?_, ?_⟩) (hr g H)
  · rw [List.size_toArray, sizeLine_eq]; omega
  · simpa using hv
theorem HasC.tup {K : PySem.W.Frag} {mg : Str → Option Value} {x : Str} {a : Addr} {xs : List PV} (h : mg x = some (.ref a)) (k : KTup K (KV1 K) xs a) : HasC K mg x (.tup xs) :=
  ⟨_, .ref a, h, rfl, ktup_rp (fun x u h => by
    cases h with
    | non => exact ⟨.non, rfl, fun _ _ => .non⟩
    | bl b => exact ⟨.bl b, rfl, fun _ _ => .bl b⟩
    | int i t => exact ⟨.int i, ⟨t, rfl⟩, fun _ _ => .int i⟩
    | str l t => exact ⟨.str _, ⟨t, rfl⟩, fun _ _ => .str l⟩) k⟩
/-- a tuple of tuples -/
def KT2 (K : PySem.W.Frag) : PV → Value → Prop := fun x u => KV1 K x u ∨ ∃ xs a, x = .tup xs ∧ u = .ref a ∧ KTup K (KV1 K) xs a
theorem HasC.tup2 {K : PySem.W.Frag} {mg : Str → Option Value} {x : Str} {a : Addr} {xs : List PV} (h : mg x = some (.ref a)) (k : KTup K (KT2 K) xs a) : HasC K mg x (.tup xs) :=
  ⟨_, .ref a, h, rfl, ktup_rp (fun x u h => by
    have base : ∀ (x : PV) (u : Value), KV1 K x u → ∃ v, RelV v u ∧ ∀ g H, Rp K g H x v := fun x u h => by
      cases h with
      | non => exact ⟨.non, rfl, fun _ _ => .non⟩
      | bl b => exact ⟨.bl b, rfl, fun _ _ => .bl b⟩
      | int i t => exact ⟨.int i, ⟨t, rfl⟩, fun _ _ => .int i⟩
      | str l t => exact ⟨.str _, ⟨t, rfl⟩, fun _ _ => .str l⟩
    rcases h with h | ⟨xs, a, rfl, rfl, h⟩
    · exact base x u h
    · exact ⟨.ref a, rfl, ktup_rp base h⟩) k⟩
end TT
end

section
set_option Elab.async false
set_option linter.all false
set_option autoImplicit false
set_option maxRecDepth 100000
/-! TT: unpacking of lists, texts searched, calls with keywords -/
namespace TT
open PySem PySem.Spec PyProof.Rows L2
section
variable {X : Cx} {Ξ : XC} {a b c e o : Expr} {es : List Expr} {pos : Pos} {fa fb fc : SE} {ft : ST} {K : PySem.W.Frag}
/-- a, b, .. = a list -/
theorem sg_seq {is : List Nat} {k : Nat} (n : Nat) (hc : X.calm = true) (h : PGs X es (rdGs X.K Ξ is)) (hl : is.length = n := by rfl) (hn : (assignEach es X.env).length = n := by rfl) (hst : (assignEach es X.env).findIdx? (·.1) = none := by rfl) : PG X (.Tuple es k pos) (rdG X.K Ξ (gUnp is)) :=
  PG_imp (pg_unl hc h hn hst) fun v σ H Q ⟨g, s, m, pv, em, sr, rv, q⟩ => by
    unfold gUnp at q
    split at q
    · rename_i vs hv
      obtain ⟨a, ws, rfl, ha, r1⟩ := em.look rv hv
      split at q
      · rename_i s' hs
        have hlen : vs.length = n := by rw [← hl]; exact gNames_len _ _ _ _ hs
        exact ⟨a, ws, rfl, SqL.of ha, by rw [← r1.length]; exact hlen, g, s, m, vs, em, sr, r1, s', hs, fun σ' sr' => q g H σ' (Ext.refl _ _) em sr'⟩
      · exact q.elim
    · exact q.elim
/-! ### a sign in a text of two -/
theorem occ2 (p q c : Nat) : Builtin.Str.occurrences ⟨#[p, q]⟩ ⟨#[c]⟩ 0 2 1 = if c = p then [0] else if c = q then [1] else [] := by
  have one : ∀ x y : Nat, ((#[x] : Array Nat) == #[y]) = decide (y = x) := fun x y => by
    by_cases h : y = x
    · subst h; simp
    · rw [decide_eq_false h]
      exact beq_eq_false_iff_ne.mpr fun z => h (by injection z with z; injection z with z; exact z.symm)
  have s0 : Builtin.Str.subAt ⟨#[p, q]⟩ ⟨#[c]⟩ 0 = decide (c = p) := one p c
  have s1 : Builtin.Str.subAt ⟨#[p, q]⟩ ⟨#[c]⟩ 1 = decide (c = q) := one q c
  have l1 : (⟨#[c]⟩ : Str).length = 1 := rfl
  rw [StrLaws.occ_eq]
  have lr : List.range' 0 (2 + 1 - 0) = [0, 1, 2] := rfl
  rw [lr]
  simp only [List.forIn_cons, List.forIn_nil, StrLaws.occBody, s0, s1, l1]
  by_cases h : c = p
  · simp [h]
  · by_cases h' : c = q
    · subst h'; simp [h]
    · simp [h, h']
theorem mt_tIndexS : MtR X "str.index" (rdM X.K Ξ mIndexS) := by
  refine MtR_imp mt_sindex fun x xs H Q ⟨g, m, a, as, e, ra, rs, q⟩ => ?_
  unfold mIndexS at q
  split at q
  · rename_i p r c
    cases ra.str_inv
    cases rs with
    | cons r1 r2 =>
      cases r2
      cases r1.str_inv
      have := occ2 p r c
      by_cases h : c = p
      · rw [if_pos h] at q this
        exact ⟨_, _, 0, [], rfl, rfl, this, QE.ret e (.int 0) q⟩
      · rw [if_neg h] at q this
        by_cases h' : c = r
        · rw [if_pos h'] at q this
          exact ⟨_, _, 1, [], rfl, rfl, this, QE.ret e (.int 1) q⟩
        · rw [if_neg h'] at q; exact q.elim
  · exact q.elim
theorem mt_tFindS : MtR X "str.find" (rdM X.K Ξ mFindS) := by
  refine MtR_imp mt_find fun x xs H Q ⟨g, m, a, as, e, ra, rs, q⟩ => ?_
  unfold mFindS at q
  split at q
  · rename_i p r c
    cases ra.str_inv
    cases rs with
    | cons r1 r2 =>
      cases r2
      cases r1.str_inv
      have := occ2 p r c
      refine ⟨_, _, rfl, rfl, ?_⟩
      have hf : Txt.find ⟨#[p, r]⟩ ⟨#[c]⟩ = if c = p then 0 else if c = r then 1 else -1 := by
        show (match Builtin.Str.occurrences ⟨#[p, r]⟩ ⟨#[c]⟩ 0 2 1 with | i :: _ => (i : Int) | [] => -1) = _
        rw [this]
        by_cases h : c = p
        · rw [if_pos h, if_pos h]; rfl
        · by_cases h' : c = r
          · rw [if_neg h, if_neg h, if_pos h', if_pos h']; rfl
          · rw [if_neg h, if_neg h, if_neg h', if_neg h']
      show Q (.int (Txt.find ⟨#[p, r]⟩ ⟨#[c]⟩)) H
      rw [hf]
      exact QE.ret e (.int _) q
  · exact q.elim
end
/-! ### calls with keywords -/
section
variable {P : Program} {w : World} {K : PySem.W.Frag} {mg : Str → Option Value} {base : Heap}
def HasK (P : Program) (w : World) (K : PySem.W.Frag) (mg : Str → Option Value) (base : Heap) (x : Str) (k n : Nat) (ks : List Str) (sp : Sp) : Prop :=
  ∃ f fd ps, FnOk P w K mg base CX0 k f fd ps sp ∧ mg x = some (.ref f) ∧ PySem.W.keepIn K (.ref f) = true ∧ KBn K fd ps n ks (fun us ws => us ++ ws) (fun vs zs => vs ++ zs)
def HasD (P : Program) (w : World) (K : PySem.W.Frag) (mg : Str → Option Value) (base : Heap) (x : Str) (k : Nat) (ds : List PV) (sp : Sp) : Prop :=
  ∃ f fd ps us zs, FnOk P w K mg base CX0 k f fd ps sp ∧ mg x = some (.ref f) ∧ PySem.W.keepIn K (.ref f) = true ∧ Binds K fd ps us ∧ Vals zs us ∧ ∀ g H, Rps K g H ds zs
theorem HasK.toP {x : Str} {k n N j : Nat} {ks : List Str} {b : SS} (h : HasK P w K mg base x k j ks (spI K n (bodyI N n b))) : HasK P w K mg base x k j ks (spP K n (bodyP N n b)) := let ⟨f, fd, ps, a, b, c, d⟩ := h; ⟨f, fd, ps, TT.FnOk.toP a, b, c, d⟩
theorem HasD.toP {x : Str} {k n N : Nat} {ds : List PV} {b : SS} (h : HasD P w K mg base x k ds (spI K n (bodyI N n b))) : HasD P w K mg base x k ds (spP K n (bodyP N n b)) := let ⟨f, fd, ps, us, zs, a, b, c, d, e⟩ := h; ⟨f, fd, ps, us, zs, TT.FnOk.toP a, b, c, d, e⟩
theorem hasK_fn {x : Str} {st : Stmt} {f : Addr} {fd : FuncData} {ps : List Str} {k : Nat} {sp : Sp} (n : Nat) (ks : List Str) (a : FnOk P w K mg base CX0 k f fd ps sp) (F : Fun K x x st f fd) (hm : mg x = some (.ref f))
    (hb : ∀ (kV doc pm : Value) (an : Option Addr) (cdv ct : Value) (us ws : List Value), us.length = n → ws.length = ks.length → bindArgs (PySem.W.fnOf x x (defArgs st) (defBody st) (defScope st) .none kV doc pm an cdv ct) ⟨us, ks.zip ws⟩ = pure (ps.zip (us ++ ws))) : HasK P w K mg base x k n ks sp := by
  refine ⟨f, fd, ps, a, hm, F.kp, ⟨fun s us ws _ l1 l2 => ?_, fun r1 r2 => r1.append r2⟩⟩
  obtain ⟨oc, od, kV, doc, pm, an, cdv, ct, osl, rfl, lk, hcd⟩ := F.ex
  exact .of_eq (hb kV doc pm an cdv ct us ws l1 l2)
theorem funD_mk {x qual : Str} {st : Stmt} {f D : Addr} {oc : Value} {od an : Option Addr} {osl : Array (Option Value)} {doc pm cdv ct : Value} {kws : List (Str × V)} (l : K.lookup f = some ⟨oc, od, .func (PySem.W.fnOf x qual (defArgs st) (defBody st) (defScope st) .none (.ref D) doc pm an cdv ct), osl⟩)
    (c : PySem.W.codeIn K cdv qual = true) (k : PySem.W.keepIn K (.ref f) = true) (d : ∀ q ∈ kws, ∃ u, PySem.W.nsIn K D q.1 = some (some u) ∧ RelV q.2 u) : FunD K x qual (defArgs st) (defBody st) (defScope st) [] kws f (PySem.W.fnOf x qual (defArgs st) (defBody st) (defScope st) .none (.ref D) doc pm an cdv ct) :=
  ⟨⟨oc, od, .none, .ref D, doc, pm, an, cdv, ct, osl, rfl, l, c, .inl ⟨rfl, rfl⟩, .inr ⟨D, rfl, d⟩⟩, k⟩
theorem hasD_fn {x : Str} {st : Stmt} {f : Addr} {fd : FuncData} {ps : List Str} {k : Nat} {sp : Sp} {kws : List (Str × V)} {ds : List PV} (n : Nat) (a : FnOk P w K mg base CX0 k f fd ps sp) (hm : mg x = some (.ref f)) (F : FunD K x x (defArgs st) (defBody st) (defScope st) [] kws f fd) (hk : kws ≠ []) (hn : n + kws.length = ps.length)
    (hc : ∀ (D : Addr) (doc pm : Value) (an : Option Addr) (cdv ct : Value) (us ks : List Value), us.length = n → ks.length = kws.length →
      KwChain D ((kws.map (·.1)).zip ks) (bindArgs (PySem.W.fnOf x x (defArgs st) (defBody st) (defScope st) .none (.ref D) doc pm an cdv ct) ⟨us, []⟩) (ps.zip (us ++ ks))) (hd : ∀ g H, Rps K g H ds (kws.map (·.2))) : HasD P w K mg base x k ds sp := by
  obtain ⟨us, hv, hb⟩ := F.binds0 n hk hn hc
  exact ⟨f, fd, ps, us, _, a, hm, F.kp, hb, hv, hd⟩
end
section
variable {X : Cx} {Ξ : XC} {k : Nat} {x : Str} {p pos kpos : Pos} {e : Expr} {es : List Expr} {kws : List Keyword} {fs gs : SA} {fa : SE} {nm : Option Str}
theorem PK_imp {t t' : TA} (h : PK X kws t) (f : ∀ σ H Q, t' σ H Q → t σ H Q) : PK X kws t' := ⟨fun pos pins s σ H Q I q => h.run pos pins s σ H Q I (f σ H Q q)⟩
theorem sk_nil : PK X [] (rdA X.K Ξ aNil) := PK_imp pk_nil fun σ H Q ⟨g, s, m, em, sr, q⟩ => q g H [] (Ext.refl _ _) em .nil
theorem sk_cons (ha : PE X e (rdE X.K Ξ fa)) (hr : PK X kws (rdA X.K Ξ gs)) : PK X (⟨nm, e, kpos⟩ :: kws) (rdA X.K Ξ (aCons fa gs)) :=
  PK_imp (pk_cons ha hr) fun σ H Q ⟨g, s, m, em, sr, q⟩ => by
    refine ⟨g, s, m, em, sr, QR.bind q fun p hp q1 g1 H1 V x1 e1 r1 => ?_⟩
    refine ⟨g1, s, p.2, e1, sr.ext em x1, QR.bind (QA.later x1 q1) fun p2 hp2 q2 g2 H2 W x2 e2 r2 => ?_⟩
    exact q2 g2 H2 _ x2 e2 (.cons (r1.ext e1 x2) r2)
theorem al_kcons {fa : SE} {f : SA} {n : Nat} (h : ∀ s m xs m', f s m = .ok (xs, m') → xs.length = n) : ∀ s m xs m', aCons fa f s m = .ok (xs, m') → xs.length = n + 1 := fun s m xs m' he => by
  obtain ⟨p, h1, h2⟩ := Rs.bind_eq_ok he
  obtain ⟨p2, h3, h4⟩ := Rs.bind_eq_ok h2
  cases h4
  rw [List.length_cons, h _ _ _ _ h3]
theorem al_knil : ∀ s m xs m', aNil s m = .ok (xs, m') → xs.length = 0 := fun s m xs m' h => by cases h; rfl
theorem sh_callK {n : Nat} {ks : List Str} {F : PF} (N : Nat) (h : HasK X.prog X.w X.K X.mg X.base x k n ks (spP X.K N F)) (hr : Room k X.A) (ha : PA X (e :: es) (rdA X.K Ξ fs)) (hl : ∀ s m xs m', fs s m = .ok (xs, m') → xs.length = (e :: es).length)
    (hkw : PK X kws (rdA X.K Ξ gs)) (hl2 : ∀ s m xs m', gs s m = .ok (xs, m') → xs.length = ks.length)
    (hn : (e :: es).length = n := by rfl) (hN : n + ks.length = N := by rfl) (hg : Gl X x := by rfl) (hall : (backToKw pos (keywordEach kws X.env)).all (·.1.isSome) = true := by rfl) (hks : (backToKw pos (keywordEach kws X.env)).filterMap (·.1) = ks := by rfl)
    (hdb : (x == ("__debug__" : Str)) = false := by decide) (he : starEach (e :: es) X.env = (false, eval e X.env) :: starEach es X.env := by rfl)
    (hpl : ((backTo pos (starEach (e :: es) X.env)).any (·.1) || (backToKw pos (keywordEach kws X.env)).any (·.1.isNone)) = false := by rfl) :
    PE X (.Call (.Name x p) (e :: es) kws pos) (rdE X.K Ξ (eNK (cP F) fs gs)) := by
  obtain ⟨f, fd, ps, a, b, c, d⟩ := h
  refine PE_imp (pe_callN a hr hg b c d pass0 ha hkw hall hks hdb he hpl) fun σ H Q ⟨g, s, m, em, sr, q⟩ => ?_
  refine ⟨g, s, m, em, sr, QR.bind q fun p hp q1 g1 H1 V x1 e1 r1 => ?_⟩
  refine ⟨g1, s, p.2, e1, sr.ext em x1, QR.bind (QE.later x1 q1) fun p2 hp2 q2 g2 H2 W x2 e2 r2 => ?_⟩
  have l1 := hl _ _ _ _ hp
  have l2 := hl2 _ _ _ _ hp2
  refine ⟨by rw [← r1.length, l1, hn], by rw [← r2.length, l2], g2, p2.2, p.1 ++ p2.1, by rw [List.length_append, l1, l2, hn, hN], e2, (r1.ext e1 x2).append r2, cP_X0 (QE.later x2 q2)⟩
theorem sh_callD {ds : List PV} {F : PF} (N : Nat) (h : HasD X.prog X.w X.K X.mg X.base x k ds (spP X.K N F)) (hr : Room k X.A) (ha : PA X (e :: es) (rdA X.K Ξ fs)) (hl : ∀ s m xs m', fs s m = .ok (xs, m') → xs.length = (e :: es).length)
    (hN : (e :: es).length + ds.length = N := by rfl) (hg : Gl X x := by rfl)
    (hdb : (x == ("__debug__" : Str)) = false := by decide) (he : starEach (e :: es) X.env = (false, eval e X.env) :: starEach es X.env := by rfl) (hpl : (backTo pos (starEach es X.env)).any (·.1) = false := by rfl) :
    PE X (.Call (.Name x p) (e :: es) [] pos) (rdE X.K Ξ (eND (cP F) fs ds)) := by
  obtain ⟨f, fd, ps, us, zs, a, b, c, d, hv, hz⟩ := h
  refine PE_imp (pe_call a hr hg b c d hv pass0 ha hdb he hpl) fun σ H Q ⟨g, s, m, em, sr, q⟩ => ?_
  refine ⟨g, s, m, em, sr, QR.bind q fun p hp q1 g1 H1 V x1 e1 r1 => ?_⟩
  exact ⟨g1, p.2, p.1 ++ ds, by rw [List.length_append, hl _ _ _ _ hp, hN], e1, r1.append (hz _ _), cP_X0 (QE.later x1 q1)⟩
end
end TT
end

section
set_option Elab.async false
set_option linter.all false
set_option autoImplicit false
set_option maxRecDepth 100000
/-! TT: x[lo::st] of lists -/
namespace TT
open PySem PySem.Spec PyProof.Rows L2
inductive F2 {α β : Type} (R : α → β → Prop) : List α → List β → Prop
  | nil : F2 R [] []
  | cons {x : α} {y : β} {xs : List α} {ys : List β} : R x y → F2 R xs ys → F2 R (x :: xs) (y :: ys)
theorem pick_len {α β : Type} {xs : List α} {ys : List β} (h : xs.length = ys.length) {R : α → β → Prop} (g : ∀ (i : Nat) x y, xs[i]? = some x → ys[i]? = some y → R x y) : ∀ is : List Nat, F2 R (is.filterMap fun i => xs[i]?) (is.filterMap fun i => ys[i]?)
  | [] => .nil
  | i :: is => by
    have ih := pick_len h g is
    cases hx : xs[i]? with
    | none =>
      have hy : ys[i]? = none := by rw [List.getElem?_eq_none_iff] at hx ⊢; omega
      simp only [List.filterMap_cons, hx, hy]; exact ih
    | some x =>
      have hlt : i < ys.length := by have := (List.getElem?_eq_some_iff.mp hx).1; omega
      have hy : ys[i]? = some ys[i] := List.getElem?_eq_getElem hlt
      simp only [List.filterMap_cons, hx, hy]; exact .cons (g i x _ hx hy) ih
theorem vals_of {xs : List V} {us : List Value} (h : F2 RelV xs us) : Vals xs us := by
  induction h with
  | nil => exact .nil
  | cons a _ ih => exact .cons a ih
theorem vals_step {xs : List V} {us : List Value} (r : Vals xs us) (lo st : Int) : Vals (stepL xs lo st) (stepL us lo st) := by
  unfold stepL
  rw [← r.length]
  refine vals_of (pick_len r.length (fun i x y hx hy => ?_) _)
  obtain ⟨u, h1, h2⟩ := r.get hx
  rw [hy] at h1; cases h1
  exact h2
theorem rps_of {K : PySem.W.Frag} {g : Gh} {H : Hp} {xs : List PV} {us : List V} (h : F2 (Rp K g H) xs us) : Rps K g H xs us := by
  induction h with
  | nil => exact .nil
  | cons a _ ih => exact .cons a ih
theorem rps_step {K : PySem.W.Frag} {g : Gh} {H : Hp} {xs : List PV} {us : List V} (r : Rps K g H xs us) (lo st : Int) : Rps K g H (stepL xs lo st) (stepL us lo st) := by
  unfold stepL
  rw [← r.length]
  refine rps_of (pick_len r.length (fun i x y hx hy => ?_) _)
  obtain ⟨u, h1, h2⟩ := r.get hx
  rw [hy] at h1; cases h1
  exact h2
theorem pick_step {items : Array Value} {lo st : Int} (h0 : 0 ≤ lo) (h1 : lo ≤ items.size) (hs : 0 < st) : slicePick items (some lo) none (some st) = (stepL items.toList lo st).toArray := by
  have hb : sliceBounds (some lo) none (some st) items.size = (lo, (items.size : Int), st) := by
    simp only [sliceBounds, Option.getD_some]
    rw [if_neg (by omega : ¬ lo < 0)]
    simp only [gt_iff_lt, hs, if_true]
    congr 1
    omega
  unfold slicePick
  rw [hb]
  unfold stepL stepIdx sliceRange
  simp only [gt_iff_lt, hs, if_true, Array.length_toList]
  congr 1
  congr 1
  funext i
  simp
theorem step_len {α : Type} (xs : List α) (lo st : Int) (h0 : 0 ≤ lo) (h1 : lo ≤ xs.length) (hs : 0 < st) : (stepL xs lo st).length ≤ xs.length := by
  unfold stepL
  refine Nat.le_trans (List.length_filterMap_le _ _) ?_
  unfold stepIdx
  rw [List.length_map, List.length_range]
  split
  · have := ceilDiv_le ((xs.length : Int) - lo) st (by omega) (by omega)
    omega
  · omega
section
variable {X : Cx} {Ξ : XC} {fa fb : SE}
def tStep (K : PySem.W.Frag) (st : Int) (te ti : TE) : TE := fun σ H Q => te σ H fun x H1 => ∃ a, x = .ref a ∧ ti σ H1 fun y H2 => ∃ lo, y = .int lo ∧ ∃ xs, SqL K H2 a xs ∧ 0 ≤ lo ∧ lo ≤ xs.length ∧ ∀ p, H2 p = none → Q (.ref p) (upd H2 p (.lst (stepL xs lo st)))
theorem pe_step {e i : Expr} {te ti : TE} {st : Int} {k : Nat} {p1 p3 pos : Pos} (hs : 0 < st) (he : PE X e te) (hi : PE X i ti) : PE X (.Subscript e (.Slice (some i) none (some (.Constant (.int st) k p1)) p3) pos) (tStep X.K st te ti) := by
  refine ⟨fun pins s σ H Q I h => ?_⟩
  refine Subscript_ (thn (he.run pins s σ H _ I h) fun v s1 ⟨x, H1, I1, r1, q1⟩ => ?_)
  obtain ⟨a, ex, q⟩ := q1
  subst ex
  cases r1
  have hst : PO X (some (.Constant (.int st) k p1)) (tPart (tC (.int st))) := po_some pe_int
  have hlo : PO X (some i) (tPart ti) := po_some hi
  refine wpAny_Slice (thn (hlo.run pins s1 σ H1 (fun o H2 => match o with | some lo => ∃ xs, SqL X.K H2 a xs ∧ 0 ≤ lo ∧ lo ≤ xs.length ∧ ∀ p, H2 p = none → Q (.ref p) (upd H2 p (.lst (stepL xs lo st))) | none => False) I1 q) fun vl s2 ⟨l, H2, I2, pl, hq⟩ => ?_)
  obtain _ | lo := l
  · exact hq.elim
  obtain ⟨xs, hx, l0, l1, q⟩ := hq
  refine thn (po_none.run pins s2 σ H2 (fun o H3 => o = none ∧ H3 = H2) I2 ⟨rfl, rfl⟩) fun vu s3 ⟨u, H3, I3, pu, eu, e3⟩ => ?_
  subst eu e3
  refine thn (hst.run pins s3 σ H3 (fun o H4 => o = some st ∧ H4 = H3) I3 ⟨st, rfl, rfl, rfl⟩) fun vs s4 ⟨o, H4, I4, ps, eo, e4⟩ => ?_
  subst eo e4
  have I5 : Inv X pins σ H4 { s4 with heap := s4.heap.push { cls := .type "slice", data := .fields #[vl, vu, vs] } } := I4.kept (t' := s4.toks) fun b ob q => Heap.get?_push_of_some _ q
  obtain ⟨its, r, ht, hz⟩ := I5.list hx
  have hlen := r.length
  show wpAny (model X.prog X.w) X.A (subscriptTail e (.Slice (some i) none (some (.Constant (.int st) k p1)) p3) (.ref a) (.ref s4.heap.objs.size)) (EP X pins σ Q) X.xe { s4 with heap := s4.heap.push { cls := .type "slice", data := .fields #[vl, vu, vs] } }
  refine tail_any (ops := [.ref a, .ref s4.heap.objs.size]) ht.isList.typeIs (PySem.slot_list_getitem.lookup) ?_ (by with_unfolding_all rfl)
  refine wpAny_getItem_list_slice ht.isList (Heap.IsSliceOf.new _ vl vu vs) pl pu ps (by intro z; cases z; omega) ?_ (by rw [List.size_toArray]; omega)
  rw [pick_step l0 (by rw [List.size_toArray]; omega) hs]
  refine ⟨.ref _, _, I5.laid (t' := s4.toks) (o := .lst (stepL xs lo st)) (fun b ob q => Heap.get?_push_of_some _ q) (Nat.le_refl _) ?_, rfl, q _ (I5.hok.fresh (Nat.le_refl _))⟩
  exact ⟨Nat.le_trans (step_len xs lo st l0 l1 hs) hz, _, 0, vals_step r lo st, Heap.get?_push_size _ rfl⟩
theorem se_slS {e i : Expr} {st : Int} {k : Nat} {p1 p3 pos : Pos} (he : PE X e (rdE X.K Ξ fa)) (hi : PE X i (rdE X.K Ξ fb)) (hs : 0 < st := by decide) : PE X (.Subscript e (.Slice (some i) none (some (.Constant (.int st) k p1)) p3) pos) (rdE X.K Ξ (eSlS fb st fa)) :=
  PE_imp (pe_step hs he hi) fun σ H Q ⟨g, s, m, em, sr, q⟩ => by
    refine ⟨g, s, m, em, sr, QR.bind q fun p hp q1 g1 H1 V x1 e1 r1 => ?_⟩
    obtain ⟨v, m1⟩ := p
    simp only at q1
    cases v with
    | ref n =>
      obtain ⟨a1, rfl, hn⟩ := r1.ref_inv
      refine ⟨a1, rfl, g1, s, m1, e1, sr.ext em x1, QR.bind (QE.later x1 q1) fun p2 hp2 q3 g2 H2 W x2 e2 r2 => ?_⟩
      obtain ⟨l, m2⟩ := p2
      have q4 : QE X.K Ξ g2 H2 Q (oStep st n l m2) := QE.later x2 q3
      unfold oStep at q4
      split at q4
      · rename_i i
        split at q4
        · rename_i xs hm
          split at q4
          · rename_i hc
            simp only [Bool.and_eq_true, decide_eq_true_eq] at hc
            cases r2.int_inv
            obtain ⟨a2, vs, h1, h2, h3⟩ := e2.obj _ _ hm
            rw [x2.phi _ _ hn] at h1; cases h1
            exact ⟨_, rfl, vs, SqL.of h2, hc.1, by rw [← h3.length]; exact hc.2, fun p hp => QE.newL e2 (rps_step h3 _ _) q4 hp⟩
          · exact q4.elim
        · exact q4.elim
      · exact q4.elim
    | _ => exact q1.elim
end
end TT
end

section
set_option linter.all false
set_option autoImplicit false
/-! TT: equations for simp -/
namespace TT
section
variable {s : Sl} {m : Mm} {a b c : SE} {v w : PV} {i : Nat} {t u : ST} {f h : SS} {r : SA}
@[simp] theorem eVar_ap : eVar i s m = (match s[i]? with | some (some v) => .ok (v, m) | _ => .no) := rfl
@[simp] theorem eC_ap : eC v s m = .ok (v, m) := rfl
@[simp] theorem e1_ap {f : O1} : e1 f a s m = (a s m).bind fun p => f p.1 p.2 := rfl
@[simp] theorem e2_ap {f : O2} : e2 f a b s m = (a s m).bind fun p => (b s p.2).bind fun q => f p.1 q.1 q.2 := rfl
@[simp] theorem aNil_ap : aNil s m = .ok ([], m) := rfl
@[simp] theorem aCons_ap : aCons a r s m = (a s m).bind fun p => (r s p.2).bind fun q => .ok (p.1 :: q.1, q.2) := rfl
@[simp] theorem eN_ap {f : ON} : eN f r s m = (r s m).bind fun p => f p.1 p.2 := rfl
@[simp] theorem eTup_ap : eTup r s m = (r s m).bind fun p => .ok (.tup p.1, p.2) := rfl
@[simp] theorem eLst_ap : eLst r s m = (r s m).bind fun p => .ok (.vl p.1, p.2) := rfl
@[simp] theorem eLstM_ap : eLstM r s m = (r s m).bind fun p => .ok (.ref p.2.length, p.2 ++ [.lst p.1]) := rfl
@[simp] theorem eIf_ap : eIf t a b s m = (t s m).bind fun p => if p.1 = true then a s p.2 else b s p.2 := rfl
@[simp] theorem eM_ap {g : Tag} {f : PV → List PV → Mm → Rs (PV × Mm)} : eM g f a r s m = (a s m).bind fun p => if tyOk p.2 g p.1 = true then (r s p.2).bind fun q => f p.1 q.1 q.2 else .no := rfl
@[simp] theorem eSlL_ap : eSlL a b s m = (b s m).bind fun p => (a s p.2).bind fun q => match q.1 with
  | .int i => oSlice (some i) none p.1 q.2
  | _ => .no := rfl
@[simp] theorem eSlH_ap : eSlH a b s m = (b s m).bind fun p => (a s p.2).bind fun q => match q.1 with
  | .int i => oSlice none (some i) p.1 q.2
  | _ => .no := rfl
@[simp] theorem eSlLH_ap : eSlLH a b c s m = (c s m).bind fun p => (a s p.2).bind fun q => match q.1 with
  | .int i => (b s q.2).bind fun z => match z.1 with
    | .int j => oSlice (some i) (some j) p.1 z.2
    | _ => .no
  | _ => .no := rfl
@[simp] theorem asB_bl {k : Bool} : asB (.bl k) m = .ok (k, m) := rfl
@[simp] theorem eAnd_ap : eAnd a b s m = (a s m).bind fun p => match p.1 with
  | .bl true => b s p.2
  | .bl false => .ok (.bl false, p.2)
  | _ => .no := rfl
@[simp] theorem eOr_ap : eOr a b s m = (a s m).bind fun p => match p.1 with
  | .bl false => b s p.2
  | .bl true => .ok (.bl true, p.2)
  | _ => .no := rfl
@[simp] theorem eNot_ap : eNot a s m = (a s m).bind fun p => match p.1 with
  | .bl b => .ok (.bl (!b), p.2)
  | _ => .no := rfl
@[simp] theorem tV_ap : tV a s m = (a s m).bind fun p => asB p.1 p.2 := rfl
@[simp] theorem tAnd_ap : tAnd t u s m = (t s m).bind fun p => if p.1 = true then u s p.2 else .ok (false, p.2) := rfl
@[simp] theorem tOr_ap : tOr t u s m = (t s m).bind fun p => if p.1 = true then .ok (true, p.2) else u s p.2 := rfl
@[simp] theorem tNot_ap : tNot t s m = (t s m).bind fun p => .ok (!p.1, p.2) := rfl
@[simp] theorem tT_ap : tT a s m = (a s m).bind fun p => match tru p.2 p.1 with
  | some b => .ok (b, p.2)
  | none => .no := rfl
@[simp] theorem tYes_ap : tYes s m = .ok (true, m) := rfl
@[simp] theorem tru_bl {k : Bool} : tru m (.bl k) = some k := rfl
@[simp] theorem tru_non : tru m .non = some false := rfl
@[simp] theorem tru_int {i : Int} : tru m (.int i) = some (i != 0) := rfl
@[simp] theorem gName_ap : gName i v s m = .ok (s.set i (some v), m) := rfl
@[simp] theorem gNames_nil : gNames [] [] s = some s := rfl
@[simp] theorem gNames_cons {is : List Nat} {vs : List PV} : gNames (i :: is) (v :: vs) s = gNames is vs (s.set i (some v)) := rfl
@[simp] theorem gTup_ap {is : List Nat} {vs : List PV} : gTup is (.tup vs) s m = (match gNames is vs s with | some s' => .ok (s', m) | none => .no) := rfl
@[simp] theorem gSub_ap : gSub a b v s m = (a s m).bind fun p => (b s p.2).bind fun q => (oSet p.1 q.1 v q.2).bind fun m3 => .ok (s, m3) := rfl
@[simp] theorem sSkip_ap : sSkip s m = .ok (.nx, s, m) := rfl
@[simp] theorem sSeq_ap : sSeq f h s m = (f s m).bind fun p => match p.1 with
  | .nx => h p.2.1 p.2.2
  | g => .ok (g, p.2.1, p.2.2) := rfl
@[simp] theorem sExpr_ap : sExpr a s m = (a s m).bind fun p => .ok (.nx, s, p.2) := rfl
@[simp] theorem sAsg_ap {g : SG} : sAsg a g s m = (a s m).bind fun p => (g p.1 s p.2).bind fun q => .ok (.nx, q.1, q.2) := rfl
@[simp] theorem sRet_ap : sRet a s m = (a s m).bind fun p => .ok (.rt p.1, s, p.2) := rfl
@[simp] theorem sRetN_ap : sRetN s m = .ok (.rt .non, s, m) := rfl
@[simp] theorem sIf_ap : sIf t f h s m = (t s m).bind fun p => if p.1 = true then f s p.2 else h s p.2 := rfl
@[simp] theorem sBreak_ap : sBreak s m = .ok (.bk, s, m) := rfl
@[simp] theorem sCont_ap : sCont s m = .ok (.ct, s, m) := rfl
@[simp] theorem sPar2_ap {i j : Nat} : sPar2 i j r s m = (r s m).bind fun p => match p.1 with
  | [x, y] => .ok (.nx, (s.set i (some x)).set j (some y), p.2)
  | _ => .no := rfl
@[simp] theorem sPar3_ap {i j l : Nat} : sPar3 i j l r s m = (r s m).bind fun p => match p.1 with
  | [x, y, z] => .ok (.nx, ((s.set i (some x)).set j (some y)).set l (some z), p.2)
  | _ => .no := rfl
theorem sFor_ap {it : SI} {g : SG} : sFor it g f s m = (it s m).bind fun p => forL g f p.1 s p.2 := rfl
@[simp] theorem forL_nil {g : SG} : forL g f [] s m = .ok (.nx, s, m) := rfl
theorem forL_cons {g : SG} {xs : List PV} : forL g f (v :: xs) s m = (g v s m).bind fun p => (f p.1 p.2).bind fun q => match q.1 with
  | .nx => forL g f xs q.2.1 q.2.2
  | .ct => forL g f xs q.2.1 q.2.2
  | .bk => .ok (.nx, q.2.1, q.2.2)
  | .rt v => .ok (.rt v, q.2.1, q.2.2) := rfl
@[simp] theorem iL_ap : iL a s m = (a s m).bind fun p => match p.1 with
  | .vl xs => .ok (xs, p.2)
  | _ => .no := rfl
@[simp] theorem iT_ap : iT a s m = (a s m).bind fun p => match p.1 with
  | .tup xs => .ok (xs, p.2)
  | _ => .no := rfl
@[simp] theorem iZip_ap : iZip a b s m = (a s m).bind fun p => (b s p.2).bind fun q => match p.1, q.1 with
  | .tup xs, .tup ys => .ok (zipP xs ys, q.2)
  | .vl xs, .vl ys => .ok (zipP xs ys, q.2)
  | _, _ => .no := rfl
@[simp] theorem iRng1_ap : iRng1 a s m = (a s m).bind fun p => match p.1 with
  | .int j => if (decide (-P62 ≤ j) && decide (j < P62)) = true then .ok (rngL 0 j.toNat, p.2) else .no
  | _ => .no := rfl
theorem eLc_ap {own : List Nat} {it : SI} {g : SG} : eLc own it g t a s m = (it s m).bind fun p => (lcL g t a (wipe s own) p.1 p.2 []).bind fun q => .ok (.vl q.1, q.2) := rfl
@[simp] theorem look_non : look1 m .non = .non := rfl
@[simp] theorem look_bl {k : Bool} : look1 m (.bl k) = .bl k := rfl
@[simp] theorem look_int {k : Int} : look1 m (.int k) = .int k := rfl
@[simp] theorem look_str {k : List Nat} : look1 m (.str k) = .str k := rfl
@[simp] theorem look_tup {k : List PV} : look1 m (.tup k) = .tup k := rfl
@[simp] theorem look_vl {k : List PV} : look1 m (.vl k) = .vl k := rfl
@[simp] theorem look_fz {k : List PV} : look1 m (.fz k) = .fz k := rfl
theorem look_ref {n : Nat} {k : List PV} (h : m[n]? = some (.lst k)) : look1 m (.ref n) = .vl k := by simp [look1, h]
/-! operators -/
@[simp] theorem oAdd_int {i j : Int} : oAdd (.int i) (.int j) m = .ok (.int (i + j), m) := rfl
@[simp] theorem oSub_int {i j : Int} : oSub (.int i) (.int j) m = .ok (.int (i - j), m) := rfl
theorem oAdd_tup {x y : List PV} : oAdd (.tup x) (.tup y) m = if x.length + y.length ≤ LINE then .ok (.tup (x ++ y), m) else .no := rfl
theorem oAdd_vl {x y : List PV} : oAdd (.vl x) (.vl y) m = if x.length + y.length ≤ LINE then .ok (.vl (x ++ y), m) else .no := rfl
theorem oAdd_str {x y : List Nat} : oAdd (.str x) (.str y) m = if x.length + y.length ≤ LINE then .ok (.str (x ++ y), m) else .no := rfl
theorem oMul_int {i j : Int} : oMul (.int i) (.int j) m = if (within64 i || within64 j) = true then .ok (.int (i * j), m) else .no := rfl
theorem oFDiv_int {i j : Int} : oFDiv (.int i) (.int j) m = if (decide (0 < j) && decide (j < 1073741824)) = true then .ok (.int (i / j), m) else .no := rfl
theorem oMod_int {i j : Int} : oMod (.int i) (.int j) m = if decide (0 < j) = true then .ok (.int (i % j), m) else .no := rfl
@[simp] theorem oNeg_int {i : Int} : oNeg (.int i) m = .ok (.int (-i), m) := rfl
@[simp] theorem oLt_int {i j : Int} : oLt (.int i) (.int j) m = .ok (.bl (decide (i < j)), m) := rfl
@[simp] theorem oLe_int {i j : Int} : oLe (.int i) (.int j) m = .ok (.bl (decide (i ≤ j)), m) := rfl
@[simp] theorem oGt_int {i j : Int} : oGt (.int i) (.int j) m = .ok (.bl (decide (j < i)), m) := rfl
@[simp] theorem oGe_int {i j : Int} : oGe (.int i) (.int j) m = .ok (.bl (decide (j ≤ i)), m) := rfl
@[simp] theorem oIs_non {neg : Bool} : oIs neg .non .non m = .ok (.bl (!neg), m) := rfl
@[simp] theorem oIs_bl {neg : Bool} {k : Bool} : oIs neg .non (.bl k) m = .ok (.bl neg, m) := rfl
@[simp] theorem oIs_int {neg : Bool} {k : Int} : oIs neg .non (.int k) m = .ok (.bl neg, m) := rfl
@[simp] theorem oIs_str {neg : Bool} {k : List Nat} : oIs neg .non (.str k) m = .ok (.bl neg, m) := rfl
@[simp] theorem oIs_tup {neg : Bool} {k : List PV} : oIs neg .non (.tup k) m = .ok (.bl neg, m) := rfl
@[simp] theorem oIs_vl {neg : Bool} {k : List PV} : oIs neg .non (.vl k) m = .ok (.bl neg, m) := rfl
@[simp] theorem fInt_int {i : Int} : fInt [.int i] m = .ok (.int i, m) := rfl
@[simp] theorem fInt_bl {k : Bool} : fInt [.bl k] m = .ok (.int (b2i k), m) := rfl
@[simp] theorem fLen_vl {xs : List PV} : fLen [.vl xs] m = .ok (.int xs.length, m) := rfl
@[simp] theorem fLen_fz {xs : List PV} : fLen [.fz xs] m = .ok (.int xs.length, m) := rfl
@[simp] theorem fLen_tup {xs : List PV} : fLen [.tup xs] m = .ok (.int xs.length, m) := rfl
@[simp] theorem fMin_int {i j : Int} : fMin [.int i, .int j] m = .ok (.int (if j < i then j else i), m) := rfl
@[simp] theorem fMax_int {i j : Int} : fMax [.int i, .int j] m = .ok (.int (if j > i then j else i), m) := rfl
@[simp] theorem fList_tup {xs : List PV} : fList [.tup xs] m = .ok (.vl xs, m) := rfl
@[simp] theorem fList_vl {xs : List PV} : fList [.vl xs] m = .ok (.vl xs, m) := rfl
@[simp] theorem fTuple_tup {xs : List PV} : fTuple [.tup xs] m = .ok (.tup xs, m) := rfl
@[simp] theorem fTuple_vl {xs : List PV} : fTuple [.vl xs] m = .ok (.tup xs, m) := rfl
/-! eq -/
@[simp] theorem sh_non {n : Nat} : PV.sh n .non = true := by cases n <;> rfl
@[simp] theorem sh_bl {n : Nat} {k : Bool} : PV.sh n (.bl k) = true := by cases n <;> rfl
@[simp] theorem sh_int {n : Nat} {k : Int} : PV.sh n (.int k) = true := by cases n <;> rfl
@[simp] theorem sh_str {n : Nat} {k : List Nat} : PV.sh n (.str k) = true := by cases n <;> rfl
@[simp] theorem sh_tup {n : Nat} {k : List PV} : PV.sh (n + 1) (.tup k) = k.all (PV.sh n) := rfl
@[simp] theorem sh_vl {n : Nat} {k : List PV} : PV.sh (n + 1) (.vl k) = k.all (PV.sh n) := rfl
theorem oEq_of (h1 : (look1 m v).sh DEP = true) (h2 : (look1 m w).sh DEP = true) : oEq v w m = .ok (.bl (PV.eqv (look1 m v) (look1 m w)), m) := by simp [oEq, h1, h2]
theorem oNe_of (h1 : (look1 m v).sh DEP = true) (h2 : (look1 m w).sh DEP = true) : oNe v w m = .ok (.bl (!PV.eqv (look1 m v) (look1 m w)), m) := by simp [oNe, h1, h2]
end
end TT
namespace TT
section
variable {m : Mm} {a b : PV} {i j : Int} {p q : Bool} {x y : List Nat} {xs ys : List PV}
@[simp] theorem eqv_int : PV.eqv (.int i) (.int j) = (i == j) := rfl
@[simp] theorem eqv_bl : PV.eqv (.bl p) (.bl q) = (p == q) := rfl
@[simp] theorem eqv_str : PV.eqv (.str x) (.str y) = (x == y) := rfl
@[simp] theorem eqv_blint : PV.eqv (.bl p) (.int j) = (b2i p == j) := rfl
@[simp] theorem eqv_intbl : PV.eqv (.int i) (.bl q) = (i == b2i q) := rfl
@[simp] theorem eqv_tup : PV.eqv (.tup xs) (.tup ys) = PV.eqvs xs ys := rfl
@[simp] theorem eqv_vl : PV.eqv (.vl xs) (.vl ys) = PV.eqvs xs ys := rfl
@[simp] theorem eqvs_nil : PV.eqvs [] [] = true := rfl
@[simp] theorem eqvs_cons : PV.eqvs (a :: xs) (b :: ys) = (PV.eqv a b && PV.eqvs xs ys) := rfl
@[simp] theorem eqvs_nc : PV.eqvs [] (b :: ys) = false := rfl
@[simp] theorem eqvs_cn : PV.eqvs (a :: xs) [] = false := rfl
@[simp] theorem eqv_nn : PV.eqv .non .non = true := rfl
@[simp] theorem eqv_ni : PV.eqv .non (.int j) = false := rfl
@[simp] theorem eqv_in : PV.eqv (.int j) .non = false := rfl
@[simp] theorem eqv_ns : PV.eqv .non (.str x) = false := rfl
@[simp] theorem eqv_sn : PV.eqv (.str x) .non = false := rfl
@[simp] theorem eqv_nb : PV.eqv .non (.bl q) = false := rfl
@[simp] theorem eqv_bn : PV.eqv (.bl q) .non = false := rfl
@[simp] theorem eqv_nt : PV.eqv .non (.tup xs) = false := rfl
@[simp] theorem eqv_tn : PV.eqv (.tup xs) .non = false := rfl
@[simp] theorem eqv_nv : PV.eqv .non (.vl xs) = false := rfl
@[simp] theorem eqv_vn : PV.eqv (.vl xs) .non = false := rfl
@[simp] theorem eqv_is : PV.eqv (.int i) (.str x) = false := rfl
@[simp] theorem eqv_si : PV.eqv (.str x) (.int i) = false := rfl
@[simp] theorem eqv_it : PV.eqv (.int i) (.tup xs) = false := rfl
@[simp] theorem eqv_ti : PV.eqv (.tup xs) (.int i) = false := rfl
@[simp] theorem eqv_iv : PV.eqv (.int i) (.vl xs) = false := rfl
@[simp] theorem eqv_vi : PV.eqv (.vl xs) (.int i) = false := rfl
@[simp] theorem eqv_bs : PV.eqv (.bl p) (.str x) = false := rfl
@[simp] theorem eqv_sb : PV.eqv (.str x) (.bl p) = false := rfl
@[simp] theorem eqv_bt : PV.eqv (.bl p) (.tup xs) = false := rfl
@[simp] theorem eqv_tb : PV.eqv (.tup xs) (.bl p) = false := rfl
@[simp] theorem eqv_bv : PV.eqv (.bl p) (.vl xs) = false := rfl
@[simp] theorem eqv_vb : PV.eqv (.vl xs) (.bl p) = false := rfl
@[simp] theorem eqv_st : PV.eqv (.str x) (.tup xs) = false := rfl
@[simp] theorem eqv_ts : PV.eqv (.tup xs) (.str x) = false := rfl
@[simp] theorem eqv_sv : PV.eqv (.str x) (.vl xs) = false := rfl
@[simp] theorem eqv_vs : PV.eqv (.vl xs) (.str x) = false := rfl
@[simp] theorem eqv_tv : PV.eqv (.tup xs) (.vl ys) = false := rfl
@[simp] theorem eqv_vt : PV.eqv (.vl xs) (.tup ys) = false := rfl
theorem oEq_pl (h1 : a.sh DEP = true) (h2 : b.sh DEP = true) : oEq a b m = .ok (.bl (PV.eqv a b), m) := by
  have l1 : look1 m a = a := by cases a with
    | ref n => cases h1
    | _ => rfl
  have l2 : look1 m b = b := by cases b with
    | ref n => cases h2
    | _ => rfl
  have := oEq_of (m := m) (v := a) (w := b) (by rw [l1]; exact h1) (by rw [l2]; exact h2)
  rw [l1, l2] at this
  exact this
theorem oNe_pl (h1 : a.sh DEP = true) (h2 : b.sh DEP = true) : oNe a b m = .ok (.bl (!PV.eqv a b), m) := by
  have l1 : look1 m a = a := by cases a with
    | ref n => cases h1
    | _ => rfl
  have l2 : look1 m b = b := by cases b with
    | ref n => cases h2
    | _ => rfl
  have := oNe_of (m := m) (v := a) (w := b) (by rw [l1]; exact h1) (by rw [l2]; exact h2)
  rw [l1, l2] at this
  exact this
@[simp] theorem oEq_int : oEq (.int i) (.int j) m = .ok (.bl (i == j), m) := oEq_pl (by simp) (by simp)
@[simp] theorem oNe_int : oNe (.int i) (.int j) m = .ok (.bl (!(i == j)), m) := oNe_pl (by simp) (by simp)
@[simp] theorem oEq_bl : oEq (.bl p) (.bl q) m = .ok (.bl (p == q), m) := oEq_pl (by simp) (by simp)
@[simp] theorem oEq_str : oEq (.str x) (.str y) m = .ok (.bl (x == y), m) := oEq_pl (by simp) (by simp)
@[simp] theorem oNe_str : oNe (.str x) (.str y) m = .ok (.bl (!(x == y)), m) := oNe_pl (by simp) (by simp)
end
end TT
namespace TT
section
variable {m : Mm} {b n : Nat} {xs : List PV} {k : Int} {v : PV} {o o' : Ob}
theorem getset1 (h : m[b]? = some o) : (m.set b o')[b]? = some o' := List.getElem?_set_self (List.getElem?_eq_some_iff.mp h).1
theorem oIx_ref (h : m[b]? = some (.lst xs)) (hk : atI xs k = some v) : oIx (.ref b) (.int k) m = .ok (v, m) := by
  unfold oIx; rw [look_ref h]; simp only [hk]
theorem oIx_vl (hk : atI xs k = some v) : oIx (.vl xs) (.int k) m = .ok (v, m) := by
  unfold oIx; simp only [look_vl, hk]
theorem oIx_fz (hk : atI xs k = some v) : oIx (.fz xs) (.int k) m = .ok (v, m) := by
  unfold oIx; simp only [look_fz, hk]
theorem oIx_tup (hk : atI xs k = some v) : oIx (.tup xs) (.int k) m = .ok (v, m) := by
  unfold oIx; simp only [look_tup, hk]
theorem oSet_ref {j : Nat} (h : m[b]? = some (.lst xs)) (hk : ixN xs.length k = some j) : oSet (.ref b) (.int k) v m = .ok (m.set b (.lst (xs.set j v))) := by
  unfold oSet; simp only [h, hk]
theorem atI_nat {α : Type} {xs : List α} {j : Nat} {x : α} (h : xs[j]? = some x) : atI xs (j : Int) = some x := by
  have hl : j < xs.length := (List.getElem?_eq_some_iff.mp h).1
  unfold atI ixN
  rw [if_pos (by omega), if_pos (by omega)]
  simpa using h
theorem atI_lt {α : Type} {xs : List α} {k : Int} (h0 : 0 ≤ k) (h1 : k < xs.length) : ∃ x ∈ xs, atI xs k = some x := by
  have hlt : k.toNat < xs.length := by omega
  refine ⟨xs[k.toNat], List.getElem_mem _, ?_⟩
  have e := atI_nat (List.getElem?_eq_getElem hlt)
  have : ((k.toNat : Nat) : Int) = k := by omega
  rw [this] at e
  exact e
theorem mAppend_ref (h : m[b]? = some (.lst xs)) (hl : xs.length < LINE) : mAppend (.ref b) [v] m = .ok (.non, m.set b (.lst (xs ++ [v]))) := by
  unfold mAppend; simp only [h]; rw [if_pos hl]
theorem tyOk_ref (h : m[b]? = some (.lst xs)) : tyOk m .list (.ref b) = true := by simp [tyOk, h]
/-- a comprehension that only picks: [x for x in xs if p] -/
theorem lc_pick {i : Nat} {t : ST} {s : Sl} (p : PV → Bool) (hi : i < s.length) : ∀ (ys acc : List PV), (∀ x ∈ ys, t (s.set i (some x)) m = .ok (p x, m)) → acc.length + ys.length ≤ LINE → lcL (gName i) t (eVar i) s ys m acc = .ok (acc ++ ys.filter p, m)
  | [], acc, _, _ => by simp [lcL]
  | x :: ys, acc, h, hl => by
    have hx := h x List.mem_cons_self
    have hr := fun acc' hl' => lc_pick p hi ys acc' (fun y hy => h y (List.mem_cons_of_mem _ hy)) hl'
    simp only [List.length_cons] at hl
    simp only [lcL, gName, Rs.nx_ok, Rs.bind_ok, hx]
    cases hp : p x with
    | true =>
      have e : eVar i (s.set i (some x)) m = .ok (x, m) := by simp [eVar, List.getElem?_set_self hi]
      simp only [if_true, e, Rs.nx_ok, Rs.bind_ok]
      rw [if_pos (by omega), hr _ (by rw [List.length_append, List.length_singleton]; omega)]
      simp [hp]
    | false =>
      simp only [Bool.false_eq_true, if_false]
      rw [hr _ (by omega)]
      simp [hp]
/-- [f x for x in xs] where all stays as it is -/
theorem lc_map {g : SG} {e : SE} {s : Sl} (f : PV → PV) : ∀ (ys acc : List PV), (∀ x ∈ ys, ∃ s1, g x s m = .ok (s1, m) ∧ e s1 m = .ok (f x, m)) → acc.length + ys.length ≤ LINE → lcL g tYes e s ys m acc = .ok (acc ++ ys.map f, m)
  | [], acc, _, _ => by simp [lcL]
  | x :: ys, acc, h, hl => by
    obtain ⟨s1, h1, h2⟩ := h x List.mem_cons_self
    have hr := fun acc' hl' => lc_map f ys acc' (fun y hy => h y (List.mem_cons_of_mem _ hy)) hl'
    simp only [List.length_cons] at hl
    simp only [lcL, tYes, Rs.nx_ok, Rs.bind_ok, h1, h2, if_true]
    rw [if_pos (by omega), hr _ (by rw [List.length_append, List.length_singleton]; omega)]
    simp
end
end TT
namespace TT
section
variable {m : Mm} {k : Nat} {v : PV} {b : Bool} {i : Int} {l : List Nat} {xs : List PV}
@[simp] theorem pu_non : PV.pu .non = true := rfl
@[simp] theorem pu_bl : PV.pu (.bl b) = true := rfl
@[simp] theorem pu_int : PV.pu (.int i) = true := rfl
@[simp] theorem pu_str : PV.pu (.str l) = true := rfl
@[simp] theorem pu_tup : PV.pu (.tup xs) = pus xs := rfl
@[simp] theorem pu_vl : PV.pu (.vl xs) = pus xs := rfl
@[simp] theorem pus_nil : pus [] = true := rfl
@[simp] theorem pus_cons : pus (v :: xs) = (PV.pu v && pus xs) := rfl
theorem frz_pu (h : v.pu = true) : frz k m v = some v := by cases k <;> simp [frz, h]
@[simp] theorem frz_non : frz k m .non = some .non := frz_pu rfl
@[simp] theorem frz_bl : frz k m (.bl b) = some (.bl b) := frz_pu rfl
@[simp] theorem frz_int : frz k m (.int i) = some (.int i) := frz_pu rfl
@[simp] theorem frz_str : frz k m (.str l) = some (.str l) := frz_pu rfl
end
end TT
namespace TT
section
variable {m : Mm} {k : Int} {xs : List PV}
theorem oIx_vl_e : oIx (.vl xs) (.int k) m = (atI xs k).elim .no fun v => .ok (v, m) := by
  unfold oIx; simp only [look_vl]; cases atI xs k <;> rfl
theorem oIx_tup_e : oIx (.tup xs) (.int k) m = (atI xs k).elim .no fun v => .ok (v, m) := by
  unfold oIx; simp only [look_tup]; cases atI xs k <;> rfl
end
end TT
end

section
set_option Elab.async false
set_option linter.all false
set_option autoImplicit false
set_option maxRecDepth 100000
namespace TT
def c_PARTS : PV := .tup [.str [107, 101, 101, 112], .str [114, 101, 112, 108, 121], .str [115, 116, 114, 105, 99, 116], .str [108, 101, 101, 119, 97, 121], .str [115, 112, 97, 114, 101], .str [101, 118, 101, 114, 121], .str [111, 108, 100]]
def c_CHOICES : PV := .tup [.tup [.int 0, .int 1, .int 2], .tup [.str [110, 101, 119], .str [115, 97, 109, 101]], .tup [.bl false, .bl true], .tup [.non, .int 0, .int 1, .int 2], .tup [.non, .int 0, .int 1, .int 2], .tup [.int 1, .int 2, .int 3], .tup [.str [101, 110, 100], .str [114, 101, 102, 117, 115, 101]]]
def c_TICK : PV := .str [46, 46]
def c_HOLDERS : PV := .str [97, 98]
def c_MOST_EVENTS : PV := .int 40
def s_is_choice : SS :=
  (sSeq (sIf (tV (e1 (oIs false .non) (eVar 0))) (sRet (e2 (oIn false) (eC .non) (eVar 1))) sSkip)
  (sSeq (sIf (tT (e1 (oIsA .tStr) (eVar 0))) (sRet (e2 (oIn false) (eVar 0) (eLc [2] (iT (eVar 1)) (TT.gName 2) (tT (e1 (oIsA .tStr) (eVar 2))) (eVar 2)))) sSkip)
  (sSeq (sIf (tT (e1 (oIsA .tBool) (eVar 0))) (sRet (e2 (oIn false) (eVar 0) (eLc [2] (iT (eVar 1)) (TT.gName 2) (tT (e1 (oIsA .tBool) (eVar 2))) (eVar 2)))) sSkip)
  (sSeq (sIf (tNot (tT (e1 (oIsA .tInt) (eVar 0)))) (sRet (eC (.bl false))) sSkip)
  (sRet (e2 (oIn false) (eVar 0) (eLc [2] (iT (eVar 1)) (TT.gName 2) (tAnd (tT (e1 (oIsA .tInt) (eVar 2))) (tNot (tT (e1 (oIsA .tBool) (eVar 2))))) (eVar 2))))))))
def f_is_choice : PF := bodyP 3 2 s_is_choice
def s_first_stand : SS :=
  (sSeq (sAsg (eSlH (eC (.int 5)) (eVar 0)) (TT.gTup [1, 2, 3, 4, 5]))
  (sSeq (sAsg (eIf (tV (e1 (oIs false .non) (eVar 4))) (eTup aNil) (e2 oMul (eTup (aCons (e2 oAdd (eVar 4) (eC (.int 1))) aNil)) (eVar 1))) (TT.gName 6))
  (sRet (eTup (aCons (eC (.bl false)) (aCons (eIf (tT (eVar 3)) (eC (.int 1)) (eC (.int 0))) (aCons (eVar 6) (aCons (eIf (tV (e1 (oIs false .non) (eVar 5))) (eC (.int 0)) (eVar 5)) (aCons (eC (.int 0)) aNil)))))))))
def f_first_stand : PF := bodyP 7 1 s_first_stand
def s_is_good : SS :=
  (sSeq (sAsg (eSlH (eC (.int 5)) (eVar 0)) (TT.gTup [3, 4, 5, 6, 7]))
  (sSeq (sIf (tT (e2 oIx (eVar 1) (eC (.int 0)))) (sRet (eC (.bl false))) sSkip)
  (sSeq (sIf (tV (e2 oEq (eVar 2) (eC (.int 0)))) (sRet (eC (.bl true))) sSkip)
  (sSeq (sIf (tOr (tV (e2 oGt (eVar 2) (eVar 3))) (tAnd (tT (eVar 5)) (tV (e2 oGt (eVar 2) (e2 oIx (eVar 1) (eC (.int 1))))))) (sRet (eC (.bl false))) sSkip)
  (sSeq (sIf (tAnd (tV (e1 (oIs true .non) (eVar 6))) (tV (e2 oGt (e2 oIx (e2 oIx (eVar 1) (eC (.int 2))) (e2 oSub (eVar 2) (eC (.int 1)))) (eVar 6)))) (sRet (eC (.bl false))) sSkip)
  (sRet (eOr (e1 (oIs false .non) (eVar 7)) (e2 oGt (e2 oIx (eVar 1) (eC (.int 3))) (eC (.int 0))))))))))
def f_is_good : PF := bodyP 8 3 s_is_good
def s_with_token : SS :=
  (sRet (eTup (aCons (eC (.bl false)) (aCons (eIf (tT (e2 oIx (eVar 0) (eC (.int 2)))) (eN fMin (aCons (eN fInt (aCons (e2 oAdd (eVar 1) (eC (.int 1))) aNil)) (aCons (eN fInt (aCons (e2 oAdd (e2 oIx (eVar 0) (eC (.int 0))) (eC (.int 1))) aNil)) aNil))) (eC (.int 0))) (aCons (eSlH (eN fLen (aCons (eVar 2) aNil)) (e2 oAdd (eTup (aCons (eC (.int 0)) aNil)) (eVar 2))) (aCons (eVar 3) (aCons (eVar 4) aNil)))))))
def f_with_token : PF := bodyP 5 5 s_with_token
def s_ticked : SS :=
  (sSeq (sAsg (e2 oIx (eVar 0) (eC (.int 3))) (TT.gName 2))
  (sSeq (sIf (tOr (tV (e1 (oIs false .non) (eVar 2))) (tT (e2 oIx (eVar 1) (eC (.int 0))))) (sRet (eVar 1)) sSkip)
  (sRet (eTup (aCons (eC (.bl false)) (aCons (e2 oIx (eVar 1) (eC (.int 1))) (aCons (eN fTuple (aCons (eLc [3] (iT (e2 oIx (eVar 1) (eC (.int 2)))) (TT.gName 3) tYes (eN fMin (aCons (eN fInt (aCons (e2 oAdd (eVar 3) (eC (.int 1))) aNil)) (aCons (eN fInt (aCons (e2 oAdd (eVar 2) (eC (.int 1))) aNil)) aNil)))) aNil)) (aCons (e2 oIx (eVar 1) (eC (.int 3))) (aCons (e2 oIx (eVar 1) (eC (.int 4))) aNil)))))))))
def f_ticked : PF := bodyP 4 2 s_ticked
def s_is_event : SS :=
  (sSeq (sIf (tNot (tT (e1 (oIsA .tStr) (eVar 0)))) (sRet (eC (.bl false))) sSkip)
  (sSeq (sIf (tV (e2 (oIn false) (eVar 0) (eTup (aCons (eC c_TICK) (aCons (eC (.str [97, 98])) (aCons (eC (.str [98, 97])) aNil)))))) (sRet (eC (.bl true))) sSkip)
  (sRet (eAnd (e2 oEq (eN fLen (aCons (eVar 0) aNil)) (eC (.int 2))) (eAnd (e2 (oIn false) (e2 oIx (eVar 0) (eC (.int 0))) (eC c_HOLDERS)) (e2 (oIn false) (e2 oIx (eVar 0) (eC (.int 1))) (eC (.str [33, 45, 126, 43]))))))))
def f_is_event : PF := bodyP 1 1 s_is_event
def s_law_bag : SS :=
  (sSeq (sAsg (eC (.int 0)) (TT.gName 2))
  (sSeq (sIf (tV (e2 oLt (eVar 1) (eN fLen (aCons (eVar 0) aNil)))) (sAsg (e2 oMod (eN fInt (aCons (e2 oIx (eVar 0) (eVar 1)) aNil)) (e2 oPow (eC (.int 10)) (eC (.int 60)))) (TT.gName 2)) sSkip)
  (sSeq (sAsg (e2 oAdd (e2 oMul (e2 oMod (eN fInt (aCons (eVar 2) aNil)) (eC (.int 2147483629))) (eC (.int 16807))) (e2 oMul (e2 oMul (eC (.int 40009)) (eVar 1)) (eVar 1))) (TT.gName 3))
  (sSeq (sAsg (e2 oAdd (eC (.int 1)) (e2 oMod (eN fInt (aCons (e2 oAdd (e2 oAdd (eVar 3) (e2 oMul (eC (.int 7919)) (eVar 1))) (eC (.int 1009))) aNil)) (eC (.int 2147483645)))) (TT.gName 4))
  (sSeq (sIf (tV (e2 oLt (eVar 2) (e2 oPow (eC (.int 10)) (eC (.int 18))))) (sRet (eLstM (aCons (eC (.int 0)) (aCons (eVar 4) aNil)))) sSkip)
  (sRet (eLstM (aCons (eVar 2) (aCons (eVar 4) aNil)))))))))
def i_law_bag : IF := bodyI 5 2 s_law_bag
def s_law_take : SS :=
  (sSeq (sIf (tV (e2 oGt (e2 oIx (eVar 0) (eC (.int 0))) (eC (.int 0)))) (sSeq (sAsg (e2 oMod (eN fInt (aCons (e2 oIx (eVar 0) (eC (.int 0))) aNil)) (eVar 1)) (TT.gName 2))
  (sSeq (sAsg (e2 oFDiv (eN fInt (aCons (e2 oIx (eVar 0) (eC (.int 0))) aNil)) (eVar 1)) (TT.gSub (eVar 0) (eC (.int 0))))
  (sRet (eVar 2)))) sSkip)
  (sSeq (sAsg (e2 oMod (eN fInt (aCons (e2 oMul (e2 oIx (eVar 0) (eC (.int 1))) (eC (.int 48271))) aNil)) (eC (.int 2147483647))) (TT.gSub (eVar 0) (eC (.int 1))))
  (sSeq (sAsg (e2 oMul (e2 oFDiv (eN fInt (aCons (e2 oIx (eVar 0) (eC (.int 1))) aNil)) (eC (.int 13))) (e2 oAdd (e2 oMod (eN fInt (aCons (e2 oIx (eVar 0) (eC (.int 1))) aNil)) (eC (.int 32749))) (eC (.int 17)))) (TT.gName 3))
  (sRet (e2 oMod (eN fInt (aCons (e2 oFDiv (e2 oMod (eN fInt (aCons (eVar 3) aNil)) (eC (.int 2147483629))) (eC (.int 32))) aNil)) (eVar 1))))))
def i_law_take : IF := bodyI 4 2 s_law_take
def s_law_server : SS :=
  (sRet (eLstM (aCons (eC (.int 0)) (aCons (e1 oNeg (eC (.int 1))) (aCons (eLst (aCons (eC (.int 0)) aNil)) (aCons (eC (.int 0)) (aCons (e2 oIx (eVar 0) (eC (.int 4))) (aCons (eC (.int 0)) (aCons (eC (.bl false)) aNil)))))))))
def i_law_server : IF := bodyI 1 1 s_law_server
def s_law_accepts : SS :=
  (sSeq (sIf (tT (e2 oIx (eVar 1) (eC (.int 6)))) (sRet (eC (.bl false))) sSkip)
  (sSeq (sIf (tV (e2 oEq (eVar 2) (e2 oIx (eVar 1) (eC (.int 0))))) (sRet (eC (.bl true))) sSkip)
  (sSeq (sIf (tOr (tV (e2 oGt (e2 oSub (e2 oIx (eVar 1) (eC (.int 0))) (eVar 2)) (e2 oIx (eVar 0) (eC (.int 0))))) (tAnd (tT (e2 oIx (eVar 0) (eC (.int 2)))) (tV (e2 oLt (eVar 2) (e2 oIx (eVar 1) (eC (.int 1))))))) (sRet (eC (.bl false))) sSkip)
  (sSeq (sIf (tAnd (tV (e1 (oIs true .non) (e2 oIx (eVar 0) (eC (.int 3))))) (tV (e2 oGt (e2 oSub (e2 oIx (eVar 1) (eC (.int 3))) (e2 oIx (e2 oIx (eVar 1) (eC (.int 2))) (e2 oAdd (eVar 2) (eC (.int 1))))) (e2 oIx (eVar 0) (eC (.int 3)))))) (sRet (eC (.bl false))) sSkip)
  (sRet (eOr (e1 (oIs false .non) (e2 oIx (eVar 0) (eC (.int 4)))) (e2 oGt (e2 oIx (eVar 1) (eC (.int 4))) (eC (.int 0)))))))))
def i_law_accepts : IF := bodyI 3 3 s_law_accepts
def s_law_next_events : SS :=
  (sSeq (sAsg (eLst (aCons (eC (.str [46, 46])) aNil)) (TT.gName 3))
  (sSeq (sFor (TT.iRng1 (eC (.int 2))) (TT.gName 4) (sSeq (sAsg (e2 oIx (eC (.str [97, 98])) (eVar 4)) (TT.gName 5))
  (sIf (tAnd (tT (e2 oIx (eVar 0) (eVar 4))) (tOr (tV (e2 oEq (eVar 4) (eC (.int 0)))) (tV (e2 oNe (eVar 2) (eC (.str [97, 108, 111, 110, 101])))))) (sSeq (sAsg (e2 oAdd (eVar 3) (eLst (aCons (e2 oAdd (eVar 5) (eC (.str [33]))) (aCons (e2 oAdd (eVar 5) (eC (.str [33]))) (aCons (e2 oAdd (eVar 5) (eC (.str [45]))) aNil))))) (TT.gName 3))
  (sSeq (sIf (tV (e2 oNe (eVar 2) (eC (.str [112, 108, 97, 105, 110])))) (sAsg (e2 oAdd (e2 oAdd (eVar 3) (eLst (aCons (e2 oAdd (eVar 5) (eC (.str [126]))) aNil))) (e2 oMul (eLst (aCons (e2 oAdd (eVar 5) (eC (.str [43]))) aNil)) (eN fInt (aCons (e2 oIx (eVar 1) (eVar 4)) aNil)))) (TT.gName 3)) sSkip)
  (sIf (tV (e2 oNe (eVar 2) (eC (.str [97, 108, 111, 110, 101])))) (sAsg (e2 oAdd (eVar 3) (eSlLH (eVar 4) (e2 oAdd (eVar 4) (eC (.int 1))) (eLst (aCons (eC (.str [97, 98])) (aCons (eC (.str [98, 97])) aNil))))) (TT.gName 3)) sSkip))) sSkip)))
  (sRet (eVar 3))))
def i_law_next_events : IF := bodyI 6 3 s_law_next_events
def s_law_rules : SS :=
  (sSeq (sAsg (eLstM aNil) (TT.gName 1))
  (sSeq (sFor (iL (eLst (aCons (eC (.int 0)) (aCons (eC (.int 1)) (aCons (eC (.int 2)) aNil))))) (TT.gName 2) (sFor (iL (eLst (aCons (eC (.str [115, 97, 109, 101])) (aCons (eC (.str [110, 101, 119])) aNil)))) (TT.gName 3) (sFor (iL (eLst (aCons (eC (.bl false)) (aCons (eC (.bl true)) aNil)))) (TT.gName 4) (sFor (iL (eLst (aCons (eC .non) (aCons (eC (.int 0)) (aCons (eC (.int 1)) (aCons (eC (.int 2)) aNil)))))) (TT.gName 5) (sFor (iL (eLst (aCons (eC .non) (aCons (eC (.int 0)) (aCons (eC (.int 1)) (aCons (eC (.int 2)) aNil)))))) (TT.gName 6) (sFor (iL (eLst (aCons (eC (.str [114, 101, 102, 117, 115, 101])) (aCons (eC (.str [101, 110, 100])) aNil)))) (TT.gName 7) (sSeq (sAsg (e2 oAdd (eC (.int 1)) (e2 oMod (eN fInt (aCons (e2 oAdd (eN fLen (aCons (eVar 1) aNil)) (eVar 2)) aNil)) (eC (.int 3)))) (TT.gName 8))
  (sExpr (eM .list mAppend (eVar 1) (aCons (eTup (aCons (eVar 2) (aCons (eVar 3) (aCons (eVar 4) (aCons (eVar 5) (aCons (eVar 6) (aCons (eVar 8) (aCons (eVar 7) aNil)))))))) aNil))))))))))
  (sRet (eSlS (eVar 0) 4 (eVar 1)))))
def f_law_rules : PF := bodyP 9 1 s_law_rules
def s_is_rule : SS :=
  (sSeq (sIf (tOr (tNot (tT (e1 (oIsA .tTup) (eVar 0)))) (tV (e2 oNe (eN fLen (aCons (eVar 0) aNil)) (eN fLen (aCons (eC c_PARTS) aNil))))) (sRet (eC (.bl false))) sSkip)
  (sRet (eN fAll (aCons (eLc [1, 2] (iZip (eVar 0) (eC c_CHOICES)) (TT.gTup [1, 2]) tYes (eN (cP f_is_choice) (aCons (eVar 1) (aCons (eVar 2) aNil)))) aNil))))
def f_is_rule : PF := bodyP 3 1 s_is_rule
def s_requested : SS :=
  (sSeq (sIf (tNot (tT (eN (cP f_is_good) (aCons (eVar 0) (aCons (eVar 1) (aCons (eVar 2) aNil)))))) (sRet (eTup (aCons (e2 oAdd (eTup (aCons (eOr (e2 oIx (eVar 1) (eC (.int 0))) (e2 oEq (e2 oIx (eVar 0) (eC (.int 6))) (eC (.str [101, 110, 100])))) aNil)) (eSlL (eC (.int 1)) (eVar 1))) (aCons (eC (.str [114, 101, 102, 117, 115, 101, 100])) aNil)))) sSkip)
  (sSeq (sAsg (eVar 1) (TT.gTup [3, 4, 5, 6, 7]))
  (sSeq (sPar2 8 9 (aCons (e2 oIx (eVar 0) (eC (.int 4))) (aCons (e2 oIx (eVar 0) (eC (.int 5))) aNil)))
  (sSeq (sIf (tV (e2 oEq (eVar 2) (eC (.int 0)))) (sSeq (sIf (tV (e1 (oIs true .non) (eVar 8))) (sSeq (sAsg (e2 oMod (e2 oAdd (eVar 7) (eC (.int 1))) (eVar 9)) (TT.gName 7))
  (sAsg (eN fMin (aCons (eN fInt (aCons (eVar 8) aNil)) (aCons (eN fInt (aCons (e2 oAdd (eVar 6) (eN fInt (aCons (e2 oEq (eVar 7) (eC (.int 0))) aNil))) aNil)) aNil))) (TT.gName 6))) sSkip)
  (sRet (eTup (aCons (eN (cP f_with_token) (aCons (eVar 0) (aCons (eC (.int 0)) (aCons (eVar 5) (aCons (eVar 6) (aCons (eVar 7) aNil)))))) (aCons (eC (.str [109, 97, 100, 101])) aNil))))) sSkip)
  (sSeq (sAsg (eN fMin (aCons (eN fInt (aCons (eVar 4) aNil)) (aCons (eN fInt (aCons (eVar 2) aNil)) aNil))) (TT.gName 4))
  (sSeq (sAsg (eIf (tV (e1 (oIs false .non) (eVar 8))) (eC (.int 0)) (e2 oSub (eVar 6) (eC (.int 1)))) (TT.gName 6))
  (sSeq (sIf (tV (e2 oEq (e2 oIx (eVar 0) (eC (.int 1))) (eC (.str [115, 97, 109, 101])))) (sRet (eTup (aCons (eTup (aCons (eC (.bl false)) (aCons (eVar 4) (aCons (eVar 5) (aCons (eVar 6) (aCons (eVar 7) aNil)))))) (aCons (eC (.str [110, 101, 119, 101, 115, 116])) aNil)))) sSkip)
  (sRet (eTup (aCons (eN (cP f_with_token) (aCons (eVar 0) (aCons (eVar 4) (aCons (eVar 5) (aCons (eVar 6) (aCons (eVar 7) aNil)))))) (aCons (eC (.str [109, 97, 100, 101])) aNil)))))))))))
def f_requested : PF := bodyP 10 3 s_requested
def s_is_history : SS :=
  (sSeq (sIf (tOr (tNot (tT (e1 (oIsA .tTup) (eVar 0)))) (tV (e2 oGt (eN fLen (aCons (eVar 0) aNil)) (eC c_MOST_EVENTS)))) (sRet (eC (.bl false))) sSkip)
  (sSeq (sAsg (eLstM (aCons (eC (.bl true)) (aCons (eC (.bl false)) aNil))) (TT.gName 1))
  (sSeq (sAsg (eLstM (aCons (eC (.bl false)) (aCons (eC (.bl false)) aNil))) (TT.gName 2))
  (sSeq (sFor (iT (eVar 0)) (TT.gName 3) (sSeq (sIf (tNot (tT (eN (cP f_is_event) (aCons (eVar 3) aNil)))) (sRet (eC (.bl false))) sSkip)
  (sSeq (sIf (tV (e2 oEq (eVar 3) (eC c_TICK))) sCont sSkip)
  (sSeq (sAsg (eM .str mIndexS (eC c_HOLDERS) (aCons (e2 oIx (eVar 3) (eC (.int 0))) aNil)) (TT.gName 4))
  (sSeq (sIf (tOr (tNot (tT (e2 oIx (eVar 1) (eVar 4)))) (tAnd (tV (e2 oEq (e2 oIx (eVar 3) (eC (.int 1))) (eC (.str [43])))) (tNot (tT (e2 oIx (eVar 2) (eVar 4)))))) (sRet (eC (.bl false))) sSkip)
  (sIf (tV (e2 (oIn false) (e2 oIx (eVar 3) (eC (.int 1))) (eC c_HOLDERS))) (sSeq (sAsg (eC (.bl true)) (TT.gSub (eVar 1) (e2 oSub (eC (.int 1)) (eVar 4))))
  (sAsg (eC (.bl false)) (TT.gSub (eVar 2) (e2 oSub (eC (.int 1)) (eVar 4))))) (sIf (tV (e2 (oIn false) (e2 oIx (eVar 3) (eC (.int 1))) (eC (.str [126, 43])))) (sAsg (e2 oEq (e2 oIx (eVar 3) (eC (.int 1))) (eC (.str [126]))) (TT.gSub (eVar 2) (eVar 4))) sSkip)))))))
  (sRet (eC (.bl true)))))))
def f_is_history : PF := bodyP 5 1 s_is_history
def s_law_of : SS :=
  (sRet (e2 oIx (eVar 1) (eN (cI i_law_take) (aCons (eVar 0) (aCons (eN fLen (aCons (eVar 1) aNil)) aNil)))))
def i_law_of : IF := bodyI 2 2 s_law_of
def s_law_asked : SS :=
  (sSeq (sIf (tNot (tT (eN (cI i_law_accepts) (aCons (eVar 0) (aCons (eVar 1) (aCons (eVar 2) aNil)))))) (sSeq (sAsg (eOr (e2 oIx (eVar 1) (eC (.int 6))) (e2 oEq (e2 oIx (eVar 0) (eC (.int 6))) (eC (.str [101, 110, 100])))) (TT.gSub (eVar 1) (eC (.int 6))))
  (sRet (eC .non))) sSkip)
  (sSeq (sAsg (e2 oEq (eVar 2) (e2 oIx (eVar 1) (eC (.int 0)))) (TT.gName 3))
  (sSeq (sIf (tOr (tT (eVar 3)) (tV (e2 oEq (e2 oIx (eVar 0) (eC (.int 1))) (eC (.str [110, 101, 119]))))) (sSeq (sAsg (e2 oAdd (e2 oIx (eVar 1) (eC (.int 0))) (eC (.int 1))) (TT.gSub (eVar 1) (eC (.int 0))))
  (sAsg (e2 oAdd (e2 oIx (eVar 1) (eC (.int 2))) (eLst (aCons (e2 oIx (eVar 1) (eC (.int 3))) aNil))) (TT.gSub (eVar 1) (eC (.int 2))))) sSkip)
  (sSeq (sAsg (eN fMax (aCons (eN fInt (aCons (e2 oIx (eVar 1) (eC (.int 1))) aNil)) (aCons (eN fInt (aCons (eVar 2) aNil)) aNil))) (TT.gSub (eVar 1) (eC (.int 1))))
  (sSeq (sIf (tNot (tT (eVar 3))) (sSeq (sAsg (eIf (tV (e1 (oIs false .non) (e2 oIx (eVar 0) (eC (.int 4))))) (eC .non) (e2 oSub (e2 oIx (eVar 1) (eC (.int 4))) (eC (.int 1)))) (TT.gSub (eVar 1) (eC (.int 4))))
  (sRet (e2 oIx (eVar 1) (eC (.int 0))))) sSkip)
  (sSeq (sAsg (e2 oAdd (e2 oIx (eVar 1) (eC (.int 5))) (eC (.int 1))) (TT.gSub (eVar 1) (eC (.int 5))))
  (sSeq (sIf (tV (e2 oEq (e2 oIx (eVar 1) (eC (.int 5))) (e2 oIx (eVar 0) (eC (.int 5))))) (sSeq (sAsg (eC (.int 0)) (TT.gSub (eVar 1) (eC (.int 5))))
  (sAsg (eIf (tV (e1 (oIs false .non) (e2 oIx (eVar 0) (eC (.int 4))))) (eC .non) (eN fMin (aCons (eN fInt (aCons (e2 oIx (eVar 0) (eC (.int 4))) aNil)) (aCons (eN fInt (aCons (e2 oAdd (e2 oIx (eVar 1) (eC (.int 4))) (eC (.int 1))) aNil)) aNil)))) (TT.gSub (eVar 1) (eC (.int 4))))) sSkip)
  (sRet (e2 oIx (eVar 1) (eC (.int 0)))))))))))
def i_law_asked : IF := bodyI 4 3 s_law_asked
def s_law_world : SS :=
  (sRet (eLstM (aCons (eN (cI i_law_server) (aCons (eVar 0) aNil)) (aCons (eLstM (aCons (eC (.int 0)) (aCons (eC .non) aNil))) (aCons (eLstM (aCons (eC .non) (aCons (eC .non) aNil))) aNil)))))
def i_law_world : IF := bodyI 1 1 s_law_world
def s_need_rule : SS :=
  (sIf (tNot (tT (eN (cP f_is_rule) (aCons (eVar 0) aNil)))) sNever sSkip)
def f_need_rule : PF := bodyP 1 1 s_need_rule
def s_need_history : SS :=
  (sIf (tNot (tT (eN (cP f_is_history) (aCons (eVar 0) aNil)))) sNever sSkip)
def f_need_history : PF := bodyP 1 1 s_need_history
def s_answered : SS :=
  (sSeq (sAsg (eN (cP f_requested) (aCons (eVar 0) (aCons (eVar 1) (aCons (eN fMin (aCons (eN fInt (aCons (e2 oSub (eVar 2) (eVar 3)) aNil)) (aCons (eN fInt (aCons (e2 oAdd (e2 oIx (eVar 0) (eC (.int 0))) (eC (.int 1))) aNil)) aNil))) aNil)))) (TT.gTup [4, 5]))
  (sSeq (sIf (tV (e2 oEq (eVar 5) (eC (.str [114, 101, 102, 117, 115, 101, 100])))) (sRet (eTup (aCons (eVar 4) (aCons (eVar 2) (aCons (eC .non) aNil))))) sSkip)
  (sSeq (sAsg (e2 oAdd (eVar 2) (eN fInt (aCons (e2 oEq (eVar 5) (eC (.str [109, 97, 100, 101]))) aNil))) (TT.gName 6))
  (sRet (eTup (aCons (eVar 4) (aCons (eVar 6) (aCons (eVar 6) aNil))))))))
def f_answered : PF := bodyP 7 4 s_answered
def s_law_event : SS :=
  (sSeq (sAsg (eVar 1) (TT.gUnp [4, 5, 6]))
  (sSeq (sIf (tV (e2 oEq (eVar 2) (eC (.str [46, 46])))) (sSeq (sAsg (e2 oAdd (e2 oIx (eVar 4) (eC (.int 3))) (eC (.int 1))) (TT.gSub (eVar 4) (eC (.int 3))))
  (sRet (eC .non))) sSkip)
  (sSeq (sAsg (eM .str mIndexS (eC (.str [97, 98])) (aCons (e2 oIx (eVar 2) (eC (.int 0))) aNil)) (TT.gName 7))
  (sSeq (sIf (tV (e2 (oIn false) (eVar 2) (eLst (aCons (eC (.str [97, 98])) (aCons (eC (.str [98, 97])) aNil))))) (sSeq (sAsg (e2 oIx (eVar 5) (eVar 7)) (TT.gSub (eVar 5) (e2 oSub (eC (.int 1)) (eVar 7))))
  (sSeq (sAsg (eC .non) (TT.gSub (eVar 6) (e2 oSub (eC (.int 1)) (eVar 7))))
  (sRet (eC .non)))) sSkip)
  (sSeq (sAsg (e2 oIx (eVar 5) (eVar 7)) (TT.gName 8))
  (sSeq (sIf (tV (e2 oEq (e2 oIx (eVar 2) (eC (.int 1))) (eC (.str [43])))) (sSeq (sAsg (e2 oIx (eVar 6) (eVar 7)) (TT.gTup [9, 10]))
  (sSeq (sAsg (eC .non) (TT.gSub (eVar 6) (eVar 7)))
  (sSeq (sIf (tAnd (tV (e1 (oIs true .non) (eVar 10))) (tOr (tNot (tT (eVar 3))) (tV (e2 oEq (eVar 9) (eVar 8))))) (sAsg (eVar 10) (TT.gSub (eVar 5) (eVar 7))) sSkip)
  (sRet (eC .non))))) sSkip)
  (sSeq (sAsg (eN (cI i_law_asked) (aCons (eVar 0) (aCons (eVar 4) (aCons (eVar 8) aNil)))) (TT.gName 10))
  (sSeq (sIf (tAnd (tV (e2 oEq (e2 oIx (eVar 2) (eC (.int 1))) (eC (.str [33])))) (tV (e1 (oIs true .non) (eVar 10)))) (sAsg (eVar 10) (TT.gSub (eVar 5) (eVar 7))) sSkip)
  (sSeq (sIf (tV (e2 oEq (e2 oIx (eVar 2) (eC (.int 1))) (eC (.str [126])))) (sAsg (eTup (aCons (eVar 8) (aCons (eVar 10) aNil))) (TT.gSub (eVar 6) (eVar 7))) sSkip)
  (sRet (eTup (aCons (eVar 8) (aCons (eVar 10) aNil)))))))))))))
def i_law_event : IF := bodyI 11 4 s_law_event
def s_law_history : SS :=
  (sSeq (sPar3 3 4 5 (aCons (eLstM aNil) (aCons (eLstM (aCons (eC (.bl true)) (aCons (eC (.bl false)) aNil))) (aCons (eLstM (aCons (eC (.bl false)) (aCons (eC (.bl false)) aNil))) aNil))))
  (sSeq (sFor (TT.iRng1 (eN (cI i_law_take) (aCons (eVar 0) (aCons (e2 oAdd (eVar 1) (eC (.int 1))) aNil)))) (TT.gName 6) (sSeq (sAsg (eN (cI i_law_of) (aCons (eVar 0) (aCons (eN (cI i_law_next_events) (aCons (eVar 4) (aCons (eVar 5) (aCons (eVar 2) aNil)))) aNil))) (TT.gName 7))
  (sSeq (sExpr (eM .list mAppend (eVar 3) (aCons (eVar 7) aNil)))
  (sIf (tV (e2 (oIn false) (eVar 7) (eLst (aCons (eC (.str [97, 98])) (aCons (eC (.str [98, 97])) aNil))))) (sSeq (sAsg (eC (.bl true)) (TT.gSub (eVar 4) (eM .str mIndexS (eC (.str [98, 97])) (aCons (e2 oIx (eVar 7) (eC (.int 0))) aNil))))
  (sAsg (eC (.bl false)) (TT.gSub (eVar 5) (eM .str mIndexS (eC (.str [98, 97])) (aCons (e2 oIx (eVar 7) (eC (.int 0))) aNil))))) (sIf (tAnd (tV (e2 (oIn false) (e2 oIx (eVar 7) (eC (.int 1))) (eC (.str [126, 43])))) (tV (e2 oNe (eVar 7) (eC (.str [46, 46]))))) (sAsg (e2 oEq (e2 oIx (eVar 7) (eC (.int 1))) (eC (.str [126]))) (TT.gSub (eVar 5) (eM .str mIndexS (eC (.str [97, 98])) (aCons (e2 oIx (eVar 7) (eC (.int 0))) aNil)))) sSkip)))))
  (sRet (eN fTuple (aCons (eVar 3) aNil)))))
def i_law_history : IF := bodyI 8 3 s_law_history
def s_course : SS :=
  (sSeq (sPar2 3 4 (aCons (eN (cP f_first_stand) (aCons (eVar 0) aNil)) (aCons (eC (.int 0)) aNil)))
  (sSeq (sAsg (eLstM (aCons (eC (.int 0)) (aCons (eC .non) aNil))) (TT.gName 5))
  (sSeq (sAsg (eLstM (aCons (eC .non) (aCons (eC .non) aNil))) (TT.gName 6))
  (sSeq (sAsg (eLstM aNil) (TT.gName 7))
  (sSeq (sFor (iT (eVar 1)) (TT.gName 8) (sSeq (sPar2 9 10 (aCons (eC .non) (aCons (eM .str mFindS (eC c_HOLDERS) (aCons (e2 oIx (eVar 8) (eC (.int 0))) aNil)) aNil)))
  (sSeq (sIf (tV (e2 oEq (eVar 8) (eC c_TICK))) (sAsg (eN (cP f_ticked) (aCons (eVar 0) (aCons (eVar 3) aNil))) (TT.gName 3)) (sIf (tV (e2 (oIn false) (e2 oIx (eVar 8) (eC (.int 1))) (eC c_HOLDERS))) (sSeq (sAsg (e2 oIx (eVar 5) (eVar 10)) (TT.gSub (eVar 5) (e2 oSub (eC (.int 1)) (eVar 10))))
  (sAsg (eC .non) (TT.gSub (eVar 6) (e2 oSub (eC (.int 1)) (eVar 10))))) (sIf (tV (e2 oEq (e2 oIx (eVar 8) (eC (.int 1))) (eC (.str [43])))) (sSeq (sAsg (e2 oIx (eVar 6) (eVar 10)) (TT.gTup [11, 12]))
  (sSeq (sAsg (eC .non) (TT.gSub (eVar 6) (eVar 10)))
  (sIf (tAnd (tV (e1 (oIs true .non) (eVar 12))) (tOr (tNot (tT (eVar 2))) (tV (e2 oEq (e2 oIx (eVar 5) (eVar 10)) (eVar 11))))) (sAsg (eVar 12) (TT.gSub (eVar 5) (eVar 10))) sSkip))) (sSeq (sAsg (e2 oIx (eVar 5) (eVar 10)) (TT.gName 11))
  (sSeq (sAsg (eN (cP f_answered) (aCons (eVar 0) (aCons (eVar 3) (aCons (eVar 4) (aCons (eVar 11) aNil))))) (TT.gTup [3, 4, 12]))
  (sSeq (sAsg (eTup (aCons (eVar 11) (aCons (eVar 12) aNil))) (TT.gName 9))
  (sSeq (sIf (tV (e2 oEq (e2 oIx (eVar 8) (eC (.int 1))) (eC (.str [126])))) (sAsg (eVar 9) (TT.gSub (eVar 6) (eVar 10))) sSkip)
  (sIf (tAnd (tV (e2 oEq (e2 oIx (eVar 8) (eC (.int 1))) (eC (.str [33])))) (tV (e1 (oIs true .non) (eVar 12)))) (sAsg (eVar 12) (TT.gSub (eVar 5) (eVar 10))) sSkip))))))))
  (sExpr (eM .list mAppend (eVar 7) (aCons (eVar 9) aNil))))))
  (sRet (eTup (aCons (eVar 7) (aCons (eVar 5) aNil)))))))))
def f_course : PF := bodyP 13 3 s_course
def s_law_course : SS :=
  (sSeq (sPar2 3 4 (aCons (eN (cI i_law_world) (aCons (eVar 0) aNil)) (aCons (eLstM aNil) aNil)))
  (sSeq (sFor (iT (eVar 1)) (TT.gName 5) (sExpr (eM .list mAppend (eVar 4) (aCons (eN (cI i_law_event) (aCons (eVar 0) (aCons (eVar 3) (aCons (eVar 5) (aCons (eVar 2) aNil))))) aNil))))
  (sRet (eTup (aCons (eVar 4) (aCons (eVar 3) aNil))))))
def f_law_course : PF := bodyP 6 3 s_law_course
def s_run : SS :=
  (sSeq (sExpr (eN (cP f_need_rule) (aCons (eVar 0) aNil)))
  (sSeq (sExpr (eN (cP f_need_history) (aCons (eVar 1) aNil)))
  (sRet (e2 oIx (eN (cP f_course) (aCons (eVar 0) (aCons (eVar 1) (aCons (eVar 2) aNil)))) (eC (.int 0))))))
def f_run : PF := bodyP 3 3 s_run
def s_held : SS :=
  (sSeq (sExpr (eN (cP f_need_rule) (aCons (eVar 0) aNil)))
  (sSeq (sExpr (eN (cP f_need_history) (aCons (eVar 1) aNil)))
  (sRet (eN fTuple (aCons (e2 oIx (eN (cP f_course) (aCons (eVar 0) (aCons (eVar 1) (aCons (eVar 2) aNil)))) (eC (.int 1))) aNil)))))
def f_held : PF := bodyP 3 3 s_held
def s_law : SS :=
  (sSeq (sFor (TT.iRng1 (e2 oAdd (eN fMin (aCons (eN fLen (aCons (eVar 0) aNil)) (aCons (eC (.int 2)) aNil))) (eC (.int 1)))) (TT.gName 1) (sSeq (sAsg (eN (cI i_law_bag) (aCons (eVar 0) (aCons (eVar 1) aNil))) (TT.gName 2))
  (sSeq (sAsg (eN (cI i_law_history) (aCons (eVar 2) (aCons (eC (.int 40)) (aCons (eN (cI i_law_of) (aCons (eVar 2) (aCons (eLst (aCons (eC (.str [97, 108, 111, 110, 101])) (aCons (eC (.str [112, 108, 97, 105, 110])) (aCons (eC (.str [97, 108, 108])) (aCons (eC (.str [97, 108, 108])) aNil))))) aNil))) aNil)))) (TT.gName 3))
  (sSeq (sAsg (e2 oEq (eN (cI i_law_take) (aCons (eVar 2) (aCons (eC (.int 2)) aNil))) (eC (.int 1))) (TT.gName 4))
  (sFor (iL (eN (cP f_law_rules) (aCons (eN (cI i_law_take) (aCons (eVar 2) (aCons (eC (.int 4)) aNil))) aNil))) (TT.gName 5) (sSeq (sAsg (eN (cP f_law_course) (aCons (eVar 5) (aCons (eVar 3) (aCons (eVar 4) aNil)))) (TT.gTup [6, 7]))
  (sSeq (sIf (tV (e2 oNe (eNK (cP f_run) (aCons (eVar 5) (aCons (eVar 3) aNil)) (aCons (eVar 4) aNil)) (eVar 6))) (sRet (eC (.bl false))) sSkip)
  (sIf (tV (e2 oNe (eNK (cP f_held) (aCons (eVar 5) (aCons (eVar 3) aNil)) (aCons (eVar 4) aNil)) (eN fTuple (aCons (e2 oIx (eVar 7) (eC (.int 1))) aNil)))) (sRet (eC (.bl false))) sSkip))))))))
  (sRet (eC (.bl true))))
end TT
end

section
set_option linter.all false
set_option autoImplicit false
namespace TT
/-! the law's own helpers: a bag of draws -/
theorem take_ok {m : Mm} {b : Nat} {a s c : Int} (h : m[b]? = some (.lst [.int a, .int s])) (h0 : 0 < c) (h1 : c < 1073741824) :
    ∃ r a' s' : Int, 0 ≤ r ∧ r < c ∧ i_law_take [.ref b, .int c] m = .ok (.int r, m.set b (.lst [.int a', .int s'])) := by
  by_cases ha : 0 < a
  · refine ⟨a % c, a / c, s, Int.emod_nonneg _ (by omega), Int.emod_lt_of_pos _ h0, ?_⟩
    simp [i_law_take, bodyI, s_law_take, startS, oIx_ref h, oSet_ref h, atI, ixN, ha, oMod_int, oFDiv_int, h0, h1, endF]
  · have hm := getset1 (o' := .lst [.int a, .int (s * 48271 % 2147483647)]) h
    have w1 : ∀ i : Int, within64 (i % 32749 + 17) = true := fun i => by
      have := Int.emod_nonneg i (show (32749 : Int) ≠ 0 by decide)
      have := Int.emod_lt_of_pos i (show (0 : Int) < 32749 by decide)
      simp only [within64, Bool.and_eq_true, decide_eq_true_eq]
      omega
    have w2 : within64 48271 = true := by decide
    refine ⟨_, a, s * 48271 % 2147483647, Int.emod_nonneg _ (by omega), Int.emod_lt_of_pos (?_ : Int) h0, ?_⟩
    rotate_left
    · simp [i_law_take, bodyI, s_law_take, startS, oIx_ref h, oSet_ref h, atI, ixN, ha, oMod_int, oFDiv_int, h0, h1, endF, oMul_int, w2, oIx_ref hm, w1]
      rfl
theorem of_ok {m : Mm} {b : Nat} {a s : Int} {xs : List PV} (h : m[b]? = some (.lst [.int a, .int s])) (h0 : 0 < xs.length) (h1 : xs.length < 1073741824) :
    ∃ x ∈ xs, ∃ a' s' : Int, i_law_of [.ref b, .vl xs] m = .ok (x, m.set b (.lst [.int a', .int s'])) := by
  obtain ⟨r, a', s', r0, r1, e⟩ := take_ok (c := xs.length) h (by omega) (by omega)
  obtain ⟨x, hx, hat⟩ := atI_lt r0 r1
  refine ⟨x, hx, a', s', ?_⟩
  simp [i_law_of, bodyI, s_law_of, startS, cI, e, oIx_vl hat, endF]
theorem bag_ok {m : Mm} {xs : List PV} {k : Int} (hk : 0 ≤ k) (hk2 : k < 1000) (hx : ∀ x ∈ xs, ∃ i, x = .int i) :
    ∃ a s : Int, i_law_bag [.fz xs, .int k] m = .ok (.ref m.length, m ++ [.lst [.int a, .int s]]) := by
  have w1 : within64 16807 = true := by decide
  have w2 : within64 40009 = true := by decide
  have w3 : within64 k = true := by simp only [within64, Bool.and_eq_true, decide_eq_true_eq]; omega
  have w4 : within64 7919 = true := by decide
  obtain ⟨M, p3, p1⟩ : ∃ M : Int, 0 < M ∧ oPow (.int 10) (.int 60) m = .ok (.int M, m) := ⟨10 ^ 60, by decide, rfl⟩
  obtain ⟨L, p4, p2⟩ : ∃ M : Int, 0 < M ∧ oPow (.int 10) (.int 18) m = .ok (.int M, m) := ⟨10 ^ 18, by decide, rfl⟩
  by_cases h : k < xs.length
  · obtain ⟨x, hm, hat⟩ := atI_lt hk h
    obtain ⟨i, rfl⟩ := hx x hm
    by_cases hc : i % M < L
    · simp only [i_law_bag, bodyI, s_law_bag]
      simp [startS, h, oIx_fz hat, p1, p2, p3, oMod_int, oMul_int, w1, w2, w3, w4, hc, endF]
    · simp only [i_law_bag, bodyI, s_law_bag]
      simp [startS, h, oIx_fz hat, p1, p2, p3, oMod_int, oMul_int, w1, w2, w3, w4, hc, endF]
  · simp only [i_law_bag, bodyI, s_law_bag]
    simp [startS, h, p1, p2, p3, oMod_int, oMul_int, w1, w2, w3, w4, p4, endF]

/-- a rule, as the law draws it -/
structure Rule where
  keep : Int
  new : Bool
  strict : Bool
  leeway : Option Int
  spare : Option Int
  every : Int
  fin : Bool
def encO : Option Int → PV
  | none => .non
  | some i => .int i
def sSame : List Nat := [115, 97, 109, 101]
def sNew : List Nat := [110, 101, 119]
def sRefuse : List Nat := [114, 101, 102, 117, 115, 101]
def sEnd : List Nat := [101, 110, 100]
def Rule.parts (R : Rule) : List PV := [.int R.keep, .str (if R.new then sNew else sSame), .bl R.strict, encO R.leeway, encO R.spare, .int R.every, .str (if R.fin then sEnd else sRefuse)]
def Rule.enc (R : Rule) : PV := .tup R.parts
structure Rule.Ok (R : Rule) : Prop where
  keep : 0 ≤ R.keep ∧ R.keep ≤ 2
  leeway : R.leeway = none ∨ ∃ i, R.leeway = some i ∧ 0 ≤ i ∧ i ≤ 2
  spare : R.spare = none ∨ ∃ i, R.spare = some i ∧ 0 ≤ i ∧ i ≤ 2
  every : 1 ≤ R.every ∧ R.every ≤ 3
theorem menu2 {x : PV} {u v : List Nat} (h : x ∈ [PV.str u, PV.str v]) : ∃ k : Bool, x = .str (if k then v else u) := by
  simp only [List.mem_cons, List.mem_nil_iff, or_false] at h
  rcases h with h | h
  · exact ⟨false, by simp [h]⟩
  · exact ⟨true, by simp [h]⟩
theorem menuO {x : PV} (h : x ∈ [PV.non, PV.non, PV.int 0, PV.int 1, PV.int 2]) : ∃ o : Option Int, x = encO o ∧ (o = none ∨ ∃ i, o = some i ∧ 0 ≤ i ∧ i ≤ 2) := by
  simp only [List.mem_cons, List.mem_nil_iff, or_false] at h
  rcases h with h | h | h | h | h
  · exact ⟨none, h, .inl rfl⟩
  · exact ⟨none, h, .inl rfl⟩
  · exact ⟨some 0, h, .inr ⟨0, rfl, by decide, by decide⟩⟩
  · exact ⟨some 1, h, .inr ⟨1, rfl, by decide, by decide⟩⟩
  · exact ⟨some 2, h, .inr ⟨2, rfl, by decide, by decide⟩⟩
end TT
end

section
set_option linter.all false
set_option autoImplicit false
namespace TT
/-! ### the program's stands, typed -/
structure Stand where
  over : Bool
  lead : Int
  ages : List Int
  spared : Int
  counted : Int
def Stand.items (st : Stand) : List PV := [.bl st.over, .int st.lead, .tup (st.ages.map .int), .int st.spared, .int st.counted]
def Stand.enc (st : Stand) : PV := .tup st.items
def lwOk (o : Option Int) (x : Int) : Bool := match o with
  | none => true
  | some l => decide (x ≤ l)
namespace Rule
def first (R : Rule) : Stand := ⟨false, if R.strict then 1 else 0, match R.leeway with | none => [] | some l => List.replicate R.keep.toNat (l + 1), R.spare.getD 0, 0⟩
def good (R : Rule) (st : Stand) (o : Int) : Bool :=
  !st.over && (o == 0 || (decide (o ≤ R.keep) && (!R.strict || decide (o ≤ st.lead)) && lwOk R.leeway ((st.ages[(o - 1).toNat]?).getD 0) && (R.spare.isNone || decide (0 < st.spared))))
def withTok (R : Rule) (lead : Int) (ages : List Int) (spared counted : Int) : Stand :=
  ⟨false, if R.strict then (if R.keep + 1 < lead + 1 then R.keep + 1 else lead + 1) else 0, (0 :: ages).take ages.length, spared, counted⟩
inductive Kind where
  | refused | made | newest
def Kind.code : Kind → List Nat
  | .refused => [114, 101, 102, 117, 115, 101, 100]
  | .made => [109, 97, 100, 101]
  | .newest => [110, 101, 119, 101, 115, 116]
def req (R : Rule) (st : Stand) (o : Int) : Stand × Kind :=
  if R.good st o then
    if o = 0 then
      match R.spare with
      | none => (R.withTok 0 st.ages st.spared st.counted, .made)
      | some s => let c := (st.counted + 1) % R.every
        let k := st.spared + b2i (c == 0)
        (R.withTok 0 st.ages (if k < s then k else s) c, .made)
    else
      let lead := if o < st.lead then o else st.lead
      let spared := match R.spare with | none => 0 | some _ => st.spared - 1
      if R.new then (R.withTok lead st.ages spared st.counted, .made) else (⟨false, lead, st.ages, spared, st.counted⟩, .newest)
  else ({ st with over := st.over || R.fin }, .refused)
def tick (R : Rule) (st : Stand) : Stand := match R.leeway with
  | none => st
  | some l => if st.over then st else ⟨false, st.lead, st.ages.map fun a => if l + 1 < a + 1 then l + 1 else a + 1, st.spared, st.counted⟩
def answer (R : Rule) (st : Stand) (newest tok : Int) : Stand × Int × Option Int :=
  let o := if R.keep + 1 < newest - tok then R.keep + 1 else newest - tok
  match R.req st o with
  | (a, .refused) => (a, newest, none)
  | (a, .made) => (a, newest + 1, some (newest + 1))
  | (a, .newest) => (a, newest, some newest)
end Rule
theorem pus_ints : ∀ xs : List Int, pus (xs.map .int) = true
  | [] => rfl
  | x :: xs => by simp [pus_ints xs]
theorem pus_comp {f : Int → Int} (xs : List Int) : pus (xs.map (PV.int ∘ f)) = true := by rw [← List.map_map]; exact pus_ints _
theorem pus_rep (i : Int) : ∀ n : Nat, pus (List.replicate n (PV.int i)) = true
  | 0 => rfl
  | n + 1 => by rw [List.replicate_succ]; simp [pus_rep i n]
theorem enc_pu (R : Rule) : R.enc.pu = true := by
  have eo : ∀ o : Option Int, (encO o).pu = true := fun o => by cases o <;> rfl
  simp [Rule.enc, Rule.parts, eo]
theorem stand_pu (st : Stand) : st.enc.pu = true := by simp [Stand.enc, Stand.items, pus_ints]
theorem encO_non (o : Option Int) (m : Mm) : oIs false .non (encO o) m = .ok (.bl o.isNone, m) := by cases o <;> rfl
theorem encO_nnon (o : Option Int) (m : Mm) : oIs true .non (encO o) m = .ok (.bl o.isSome, m) := by cases o <;> rfl
theorem first_ok {R : Rule} (ok : R.Ok) : f_first_stand [R.enc] = .ok (R.first).enc := by
  obtain ⟨keep, new, strict, leeway, spare, every, fin⟩ := R
  have k0 := ok.keep.1
  have k2 := ok.keep.2
  simp only at k0 k2
  have sl : ∀ m, oSlice none (some 5) (Rule.enc ⟨keep, new, strict, leeway, spare, every, fin⟩) m = .ok (.tup [.int keep, .str (if new then sNew else sSame), .bl strict, encO leeway, encO spare], m) := fun m => rfl
  have mul : ∀ (i : Int) m, oMul (.tup [.int i]) (.int keep) m = .ok (.tup ((List.replicate keep.toNat i).map .int), m) := fun i m => by
    unfold oMul
    simp only [look_tup]
    rw [if_pos (by simp; omega)]
    congr 2
    simp [rep]
  simp only [f_first_stand, bodyP, bodyI, s_first_stand, startS]
  have pr : ∀ v : PV, v.pu = true → ∀ m, Rs.ofO (frz 4 m v) = .ok v := fun v h m => by rw [frz_pu h]; rfl
  cases leeway <;> cases spare <;> cases strict <;> simp [sl, encO, mul, endF, Rule.first, Stand.enc, Stand.items, pus_ints, pus_rep, frz_pu]
theorem good_ok {R : Rule} {st : Stand} {o : Int} (h : st.over = false → o ≠ 0 → o ≤ R.keep → ∀ l, R.leeway = some l → 1 ≤ o ∧ o ≤ st.ages.length) : f_is_good [R.enc, st.enc, .int o] = .ok (.bl (R.good st o)) := by
  obtain ⟨keep, new, strict, leeway, spare, every, fin⟩ := R
  obtain ⟨over, lead, ages, spared, counted⟩ := st
  have sl : ∀ m, oSlice none (some 5) (Rule.enc ⟨keep, new, strict, leeway, spare, every, fin⟩) m = .ok (.tup [.int keep, .str (if new then sNew else sSame), .bl strict, encO leeway, encO spare], m) := fun m => rfl
  have i0 : ∀ m, oIx (Stand.enc ⟨over, lead, ages, spared, counted⟩) (.int 0) m = .ok (.bl over, m) := fun m => rfl
  have i1 : ∀ m, oIx (Stand.enc ⟨over, lead, ages, spared, counted⟩) (.int 1) m = .ok (.int lead, m) := fun m => rfl
  have i2 : ∀ m, oIx (Stand.enc ⟨over, lead, ages, spared, counted⟩) (.int 2) m = .ok (.tup (ages.map .int), m) := fun m => rfl
  have i3 : ∀ m, oIx (Stand.enc ⟨over, lead, ages, spared, counted⟩) (.int 3) m = .ok (.int spared, m) := fun m => rfl
  simp only [f_is_good, bodyP, bodyI, s_is_good, startS]
  cases over with
  | true => simp [sl, i0, endF, Rule.good, lwOk]
  | false =>
    by_cases h0 : o = 0
    · subst h0; simp [sl, i0, endF, Rule.good, lwOk]
    · by_cases hk : o ≤ keep
      · have hk' : ¬ keep < o := by omega
        by_cases hs : strict = true ∧ lead < o
        · obtain ⟨rfl, hl⟩ := hs
          have : ¬ o ≤ lead := by omega
          simp [sl, i0, i1, endF, Rule.good, lwOk, h0, hk, hk', hl, this]
        · have hs2 : (!strict || decide (o ≤ lead)) = true := by
            cases strict with
            | false => rfl
            | true => simp at hs ⊢; omega
          have hs3 : strict = false ∨ ¬ lead < o := by
            cases strict with
            | false => exact .inl rfl
            | true => right; simp at hs; omega
          cases leeway with
          | none =>
            cases spare <;> rcases hs3 with rfl | hs3 <;> simp [sl, i0, i1, i3, endF, Rule.good, lwOk, h0, hk, hk', *, encO] <;> simp_all
          | some l =>
            obtain ⟨o1, o2⟩ := h rfl h0 hk l rfl
            have hlt : (o - 1).toNat < ages.length := by simp only at o2; omega
            have ix : ∀ m, oIx (.tup (ages.map .int)) (.int (o - 1)) m = .ok (.int ((ages[(o - 1).toNat]?).getD 0), m) := fun m => by
              refine oIx_tup ?_
              have e := atI_nat (xs := ages.map PV.int) (j := (o - 1).toNat) (x := .int ((ages[(o - 1).toNat]?).getD 0)) (by
                rw [List.getElem?_map, List.getElem?_eq_getElem hlt]; rfl)
              have : (((o - 1).toNat : Nat) : Int) = o - 1 := by omega
              rw [this] at e
              exact e
            generalize hg : (ages[(o - 1).toNat]?).getD 0 = g at ix
            by_cases hgl : g ≤ l
            · have : ¬ l < g := by omega
              cases spare <;> rcases hs3 with rfl | hs3 <;> simp [sl, i0, i1, i2, i3, endF, Rule.good, lwOk, h0, hk, hk', *, encO] <;> simp_all
            · have : l < g := by omega
              cases spare <;> rcases hs3 with rfl | hs3 <;> simp [sl, i0, i1, i2, i3, endF, Rule.good, lwOk, h0, hk, hk', *, encO] <;> simp_all <;> omega
      · have : keep < o := by omega
        simp [sl, i0, i1, endF, Rule.good, lwOk, h0, hk, this]
theorem withTok_ok {R : Rule} {lead spared counted : Int} {ages : List Int} (hl : ages.length ≤ 10) : f_with_token [R.enc, .int lead, .tup (ages.map .int), .int spared, .int counted] = .ok (R.withTok lead ages spared counted).enc := by
  obtain ⟨keep, new, strict, leeway, spare, every, fin⟩ := R
  have i0 : ∀ m, oIx (Rule.enc ⟨keep, new, strict, leeway, spare, every, fin⟩) (.int 0) m = .ok (.int keep, m) := fun m => rfl
  have i2 : ∀ m, oIx (Rule.enc ⟨keep, new, strict, leeway, spare, every, fin⟩) (.int 2) m = .ok (.bl strict, m) := fun m => rfl
  have ad : ∀ m, oAdd (.tup [.int 0]) (.tup (ages.map .int)) m = .ok (.tup (.int 0 :: ages.map .int), m) := fun m => by
    rw [oAdd_tup, if_pos]
    · rfl
    · simp only [List.length_cons, List.length_nil, List.length_map]; exact Nat.le_trans (by omega : 0 + 1 + ages.length ≤ 11) (by decide)
  obtain ⟨A, hA⟩ : ∃ A, A = (0 :: ages).take ages.length := ⟨_, rfl⟩
  have sl : ∀ m, oSlice none (some (ages.length : Int)) (.tup (.int 0 :: ages.map .int)) m = .ok (.tup (A.map .int), m) := fun m => by
    show oSlice none (some (ages.length : Int)) (.tup ((0 :: ages).map .int)) m = _
    unfold oSlice
    simp only [look_tup]
    congr 3
    unfold cutL sIx
    simp only [List.length_map, List.length_cons]
    rw [if_neg (by omega), hA, List.map_take]
    simp
  have hw : Rule.withTok ⟨keep, new, strict, leeway, spare, every, fin⟩ lead ages spared counted = ⟨false, if strict then (if keep + 1 < lead + 1 then keep + 1 else lead + 1) else 0, A, spared, counted⟩ := by rw [hA]; rfl
  rw [hw]
  simp only [f_with_token, bodyP, bodyI, s_with_token, startS]
  cases strict <;> simp [i0, i2, ad, sl, endF, Stand.enc, Stand.items, pus_ints, frz_pu]
theorem pack3 (st : Stand) (k : Rule.Kind) (m : Mm) : Rs.ofO (frz 4 m (.tup [st.enc, .str k.code])) = .ok (.tup [st.enc, .str k.code]) := by
  rw [frz_pu (by simp [stand_pu])]; rfl
theorem req_ok {R : Rule} {st : Stand} {o : Int} (ok : R.Ok) (hl : st.ages.length ≤ 10) (h : st.over = false → o ≠ 0 → o ≤ R.keep → ∀ l, R.leeway = some l → 1 ≤ o ∧ o ≤ st.ages.length) :
    f_requested [R.enc, st.enc, .int o] = .ok (.tup [(R.req st o).1.enc, .str (R.req st o).2.code]) := by
  have hg := good_ok h
  have hw := fun lead spared counted => withTok_ok (R := R) (lead := lead) (spared := spared) (counted := counted) hl
  have pR := enc_pu R
  have pS := stand_pu st
  have cg : ∀ m, cP f_is_good [R.enc, st.enc, .int o] m = .ok (.bl (R.good st o), m) := fun m => by simp [cP, pR, pS, hg]
  have cw : ∀ lead spared counted m, cP f_with_token [R.enc, .int lead, .tup (st.ages.map .int), .int spared, .int counted] m = .ok ((R.withTok lead st.ages spared counted).enc, m) := fun a b c m => by simp [cP, pR, pus_ints, hw]
  have i1 : ∀ m, oIx R.enc (.int 1) m = .ok (.str (if R.new then sNew else sSame), m) := fun m => rfl
  have i4 : ∀ m, oIx R.enc (.int 4) m = .ok (encO R.spare, m) := fun m => rfl
  have i5 : ∀ m, oIx R.enc (.int 5) m = .ok (.int R.every, m) := fun m => rfl
  have i6 : ∀ m, oIx R.enc (.int 6) m = .ok (.str (if R.fin then sEnd else sRefuse), m) := fun m => rfl
  have j0 : ∀ m, oIx st.enc (.int 0) m = .ok (.bl st.over, m) := fun m => rfl
  have j1 : ∀ m, oSlice (some 1) none st.enc m = .ok (.tup [.int st.lead, .tup (st.ages.map .int), .int st.spared, .int st.counted], m) := fun m => rfl
  have ev : ∀ i m, oMod (.int i) (.int R.every) m = .ok (.int (i % R.every), m) := fun i m => by rw [oMod_int, if_pos]; have := ok.every.1; simp; omega
  have gt : ∀ s m, gTup [3, 4, 5, 6, 7] st.enc s m = .ok (((((s.set 3 (some (.bl st.over))).set 4 (some (.int st.lead))).set 5 (some (.tup (st.ages.map .int)))).set 6 (some (.int st.spared))).set 7 (some (.int st.counted)), m) := fun s m => rfl
  have fin : ∀ (S : Stand) (k : List Nat) m, Rs.ofO (frz 4 m (.tup [S.enc, .str k])) = .ok (.tup [S.enc, .str k]) := fun S k m => by rw [frz_pu (by simp [stand_pu])]; rfl
  simp only [f_requested, bodyP, bodyI, s_requested, startS]
  by_cases g : R.good st o = true
  · by_cases h0 : o = 0
    · subst h0
      cases hs : R.spare with
      | none => simp [cg, g, endF, i4, i5, hs, encO, cw, Rule.req, gt, fin, Rule.Kind.code]
      | some s => simp [cg, g, endF, i4, i5, hs, encO, cw, Rule.req, gt, ev, fin, Rule.Kind.code]
    · cases hs : R.spare <;> cases hn : R.new <;> simp [cg, g, endF, i1, i4, i5, hs, hn, encO, cw, Rule.req, gt, fin, Rule.Kind.code, h0, sNew, sSame] <;> simp [Stand.enc, Stand.items, frz_pu, pus_ints]
  · cases hf : R.fin <;> cases ho : st.over <;> simp [cg, g, endF, j0, j1, i6, hf, ho, oAdd_tup, LINE, sEnd, sRefuse] <;> simp [Rule.req, g, Stand.enc, Stand.items, hf, ho, frz_pu, pus_ints, Rule.Kind.code]
theorem tick_ok {R : Rule} {st : Stand} (hl : st.ages.length ≤ 10) : f_ticked [R.enc, st.enc] = .ok (R.tick st).enc := by
  have i3 : ∀ m, oIx R.enc (.int 3) m = .ok (encO R.leeway, m) := fun m => rfl
  have j0 : ∀ m, oIx st.enc (.int 0) m = .ok (.bl st.over, m) := fun m => rfl
  have j1 : ∀ m, oIx st.enc (.int 1) m = .ok (.int st.lead, m) := fun m => rfl
  have j2 : ∀ m, oIx st.enc (.int 2) m = .ok (.tup (st.ages.map .int), m) := fun m => rfl
  have j3 : ∀ m, oIx st.enc (.int 3) m = .ok (.int st.spared, m) := fun m => rfl
  have j4 : ∀ m, oIx st.enc (.int 4) m = .ok (.int st.counted, m) := fun m => rfl
  have fin : ∀ (S : Stand) m, Rs.ofO (frz 4 m S.enc) = .ok S.enc := fun S m => by rw [frz_pu (stand_pu S)]; rfl
  simp only [f_ticked, bodyP, bodyI, s_ticked, startS]
  cases hw : R.leeway with
  | none => simp [i3, hw, encO, endF, fin, Rule.tick]
  | some l =>
    cases ho : st.over with
    | true => simp [i3, hw, encO, endF, fin, Rule.tick, j0, ho]
    | false =>
      have lc : ∀ (sl : Sl) (m : Mm), sl[2]? = some (some (.int l)) → 3 < sl.length → lcL (gName 3) tYes (eN fMin (aCons (eN fInt (aCons (e2 oAdd (eVar 3) (eC (.int 1))) aNil)) (aCons (eN fInt (aCons (e2 oAdd (eVar 2) (eC (.int 1))) aNil)) aNil))) sl (st.ages.map .int) m [] = .ok ((st.ages.map fun a => if l + 1 < a + 1 then l + 1 else a + 1).map .int, m) := fun sl m h2 h3 => by
        have := lc_map (m := m) (g := gName 3) (e := eN fMin (aCons (eN fInt (aCons (e2 oAdd (eVar 3) (eC (.int 1))) aNil)) (aCons (eN fInt (aCons (e2 oAdd (eVar 2) (eC (.int 1))) aNil)) aNil))) (s := sl) (fun v => match v with | .int a => .int (if l + 1 < a + 1 then l + 1 else a + 1) | v => v) (st.ages.map .int) [] (fun x hx => by
          obtain ⟨a, _, rfl⟩ := List.mem_map.mp hx
          refine ⟨sl.set 3 (some (.int a)), rfl, ?_⟩
          have e3 : (sl.set 3 (some (PV.int a)))[3]? = some (some (.int a)) := List.getElem?_set_self h3
          have e2 : (sl.set 3 (some (PV.int a)))[2]? = some (some (.int l)) := by rw [List.getElem?_set_ne (by decide)]; exact h2
          simp [e3, e2]) (by simp only [List.length_nil, List.length_map]; exact Nat.le_trans (by omega : 0 + st.ages.length ≤ 10) (by decide))
        rw [this]
        simp
      simp [i3, hw, encO, endF, Rule.tick, j0, j1, j2, j3, j4, ho, eLc_ap, wipe, lc]
      simp [Stand.enc, Stand.items, frz_pu, pus_comp]
theorem answer_ok {R : Rule} {st : Stand} {n t : Int} (ok : R.Ok) (hl : st.ages.length ≤ 10) (h : st.over = false → n - t ≠ 0 → n - t ≤ R.keep → ∀ l, R.leeway = some l → 1 ≤ n - t ∧ n - t ≤ st.ages.length) :
    f_answered [R.enc, st.enc, .int n, .int t] = .ok (.tup [(R.answer st n t).1.enc, .int (R.answer st n t).2.1, encO (R.answer st n t).2.2]) := by
  have i0 : ∀ m, oIx R.enc (.int 0) m = .ok (.int R.keep, m) := fun m => rfl
  obtain ⟨o, ho⟩ : ∃ o, o = if R.keep + 1 < n - t then R.keep + 1 else n - t := ⟨_, rfl⟩
  have hr := req_ok (o := o) ok hl (fun a b c l d => by
    have := ok.keep.1
    have hn : ¬ R.keep + 1 < n - t := fun z => by rw [if_pos z] at ho; omega
    rw [if_neg hn] at ho
    subst ho
    exact h a b c l d)
  have cr : ∀ m, cP f_requested [R.enc, st.enc, .int o] m = .ok (.tup [(R.req st o).1.enc, .str (R.req st o).2.code], m) := fun m => by simp [cP, enc_pu, stand_pu, hr]
  have fin : ∀ (S : Stand) (i : Int) (v : Option Int) m, Rs.ofO (frz 4 m (.tup [S.enc, .int i, encO v])) = .ok (.tup [S.enc, .int i, encO v]) := fun S k v m => by rw [frz_pu (by cases v <;> simp [stand_pu, encO])]; rfl
  simp only [f_answered, bodyP, bodyI, s_answered, startS]
  have ha : R.answer st n t = (match R.req st o with
    | (a, .refused) => (a, n, none)
    | (a, .made) => (a, n + 1, some (n + 1))
    | (a, .newest) => (a, n, some n)) := by rw [ho]; rfl
  rw [ha]
  have hmin : (if R.keep + 1 < n - t then R.keep + 1 else n - t) = o := ho.symm
  generalize R.req st o = q at cr ⊢
  obtain ⟨S, k⟩ := q
  cases k <;> simp [i0, hmin, cr, endF, Rule.Kind.code, b2i] <;> first | exact fin S _ none [] | exact fin S _ (some _) []
end TT
end

section
set_option linter.all false
set_option autoImplicit false
namespace TT
/-! ### events -/
inductive Ev where
  | tick
  | copy (h : Bool)
  | ask (h : Bool)
  | drop (h : Bool)
  | late (h : Bool)
  | got (h : Bool)
def hc (h : Bool) : Nat := if h then 98 else 97
def Ev.code : Ev → List Nat
  | .tick => [46, 46]
  | .copy h => [hc h, hc (!h)]
  | .ask h => [hc h, 33]
  | .drop h => [hc h, 45]
  | .late h => [hc h, 126]
  | .got h => [hc h, 43]
def Ev.enc (e : Ev) : PV := .str e.code
/-- who holds, who waits -/
structure Hs where
  a : Bool
  b : Bool
  wa : Bool
  wb : Bool
def Hs.has (s : Hs) (h : Bool) : Bool := if h then s.b else s.a
def Hs.waits (s : Hs) (h : Bool) : Bool := if h then s.wb else s.wa
def Hs.setW (s : Hs) (h w : Bool) : Hs := if h then { s with wb := w } else { s with wa := w }
def Hs.setH (s : Hs) (h w : Bool) : Hs := if h then { s with b := w } else { s with a := w }
def Hs.ok (s : Hs) : Ev → Bool
  | .tick => true
  | .copy h => s.has h
  | .ask h => s.has h
  | .drop h => s.has h
  | .late h => s.has h
  | .got h => s.has h && s.waits h
def Hs.step (s : Hs) : Ev → Hs
  | .tick => s
  | .copy h => (s.setH (!h) true).setW (!h) false
  | .ask _ => s
  | .drop _ => s
  | .late h => s.setW h true
  | .got h => s.setW h false
def Hs.all (s : Hs) : List Ev → Bool
  | [] => true
  | e :: es => s.ok e && (s.step e).all es
def hs0 : Hs := ⟨true, false, false, false⟩
theorem idxS (h : Bool) (m : Mm) : mIndexS (.str [97, 98]) [.str [hc h]] m = .ok (.int (b2i h), m) := by cases h <;> rfl
theorem idxR (h : Bool) (m : Mm) : mIndexS (.str [98, 97]) [.str [hc h]] m = .ok (.int (b2i (!h)), m) := by cases h <;> rfl
theorem findS (h : Bool) (m : Mm) : mFindS (.str [97, 98]) [.str [hc h]] m = .ok (.int (b2i h), m) := by cases h <;> rfl
theorem is_event_ok (e : Ev) : f_is_event [e.enc] = .ok (.bl true) := by
  cases e with
  | tick => rfl
  | copy h => cases h <;> rfl
  | ask h => cases h <;> rfl
  | drop h => cases h <;> rfl
  | late h => cases h <;> rfl
  | got h => cases h <;> rfl
theorem evs_pu : ∀ es : List Ev, pus (es.map Ev.enc) = true
  | [] => rfl
  | e :: es => by simp [Ev.enc, evs_pu es]
def histB : SS := (sSeq (sIf (tNot (tT (eN (cP f_is_event) (aCons (eVar 3) aNil)))) (sRet (eC (.bl false))) sSkip)
  (sSeq (sIf (tV (e2 oEq (eVar 3) (eC c_TICK))) sCont sSkip)
  (sSeq (sAsg (eM .str mIndexS (eC c_HOLDERS) (aCons (e2 oIx (eVar 3) (eC (.int 0))) aNil)) (TT.gName 4))
  (sSeq (sIf (tOr (tNot (tT (e2 oIx (eVar 1) (eVar 4)))) (tAnd (tV (e2 oEq (e2 oIx (eVar 3) (eC (.int 1))) (eC (.str [43])))) (tNot (tT (e2 oIx (eVar 2) (eVar 4)))))) (sRet (eC (.bl false))) sSkip)
  (sIf (tV (e2 (oIn false) (e2 oIx (eVar 3) (eC (.int 1))) (eC c_HOLDERS))) (sSeq (sAsg (eC (.bl true)) (TT.gSub (eVar 1) (e2 oSub (eC (.int 1)) (eVar 4))))
  (sAsg (eC (.bl false)) (TT.gSub (eVar 2) (e2 oSub (eC (.int 1)) (eVar 4))))) (sIf (tV (e2 (oIn false) (e2 oIx (eVar 3) (eC (.int 1))) (eC (.str [126, 43])))) (sAsg (e2 oEq (e2 oIx (eVar 3) (eC (.int 1))) (eC (.str [126]))) (TT.gSub (eVar 2) (eVar 4))) sSkip))))))
def hmem (s : Hs) : Mm := [.lst [.bl s.a, .bl s.b], .lst [.bl s.wa, .bl s.wb]]
theorem hist_turn (s : Hs) (e : Ev) (hk : s.ok e = true) (x0 x4 : Option PV) : ∃ f x4', (f = .nx ∨ f = .ct) ∧ histB [x0, some (.ref 0), some (.ref 1), some e.enc, x4] (hmem s) = .ok (f, [x0, some (.ref 0), some (.ref 1), some e.enc, x4'], hmem (s.step e)) := by
  obtain ⟨a, b, wa, wb⟩ := s
  cases e with
  | tick => exact ⟨.ct, x4, .inr rfl, rfl⟩
  | copy h => cases h <;> cases a <;> cases b <;> first | exact ⟨.nx, some (.int 0), .inl rfl, rfl⟩ | exact ⟨.nx, some (.int 1), .inl rfl, rfl⟩ | exact nomatch hk
  | ask h => cases h <;> cases a <;> cases b <;> first | exact ⟨.nx, some (.int 0), .inl rfl, rfl⟩ | exact ⟨.nx, some (.int 1), .inl rfl, rfl⟩ | exact nomatch hk
  | drop h => cases h <;> cases a <;> cases b <;> first | exact ⟨.nx, some (.int 0), .inl rfl, rfl⟩ | exact ⟨.nx, some (.int 1), .inl rfl, rfl⟩ | exact nomatch hk
  | late h => cases h <;> cases a <;> cases b <;> first | exact ⟨.nx, some (.int 0), .inl rfl, rfl⟩ | exact ⟨.nx, some (.int 1), .inl rfl, rfl⟩ | exact nomatch hk
  | got h => cases h <;> cases a <;> cases b <;> cases wa <;> cases wb <;> first | exact ⟨.nx, some (.int 0), .inl rfl, rfl⟩ | exact ⟨.nx, some (.int 1), .inl rfl, rfl⟩ | exact nomatch hk
theorem hist_loop : ∀ (es : List Ev) (s : Hs) (x0 x3 x4 : Option PV), s.all es = true → ∃ x3' x4' s', forL (gName 3) histB (es.map Ev.enc) [x0, some (.ref 0), some (.ref 1), x3, x4] (hmem s) = .ok (.nx, [x0, some (.ref 0), some (.ref 1), x3', x4'], hmem s')
  | [], s, x0, x3, x4, _ => ⟨x3, x4, s, rfl⟩
  | e :: es, s, x0, x3, x4, h => by
    simp only [Hs.all, Bool.and_eq_true] at h
    obtain ⟨f, y4, hf, e1⟩ := hist_turn s e h.1 x0 x4
    obtain ⟨z3, z4, s', e2⟩ := hist_loop es (s.step e) x0 (some e.enc) y4 h.2
    refine ⟨z3, z4, s', ?_⟩
    rw [List.map_cons, forL_cons]
    rcases hf with rfl | rfl <;> simp [e1, e2]
theorem is_history_ok {es : List Ev} (h : hs0.all es = true) (hl : es.length ≤ 40) : f_is_history [.tup (es.map Ev.enc)] = .ok (.bl true) := by
  obtain ⟨x3, x4, s', e⟩ := hist_loop es hs0 (some (.tup (es.map Ev.enc))) none none h
  have ha : ∀ m, oIsA .tTup (.tup (es.map Ev.enc)) m = .ok (.bl true, m) := fun m => rfl
  have hn : ¬ (40 : Int) < es.length := by omega
  have hs : s_is_history = (sSeq (sIf (tOr (tNot (tT (e1 (oIsA .tTup) (eVar 0)))) (tV (e2 oGt (eN fLen (aCons (eVar 0) aNil)) (eC c_MOST_EVENTS)))) (sRet (eC (.bl false))) sSkip)
    (sSeq (sAsg (eLstM (aCons (eC (.bl true)) (aCons (eC (.bl false)) aNil))) (TT.gName 1))
    (sSeq (sAsg (eLstM (aCons (eC (.bl false)) (aCons (eC (.bl false)) aNil))) (TT.gName 2))
    (sSeq (sFor (iT (eVar 0)) (TT.gName 3) histB)
    (sRet (eC (.bl true))))))) := rfl
  simp only [f_is_history, bodyP, bodyI, hs, startS]
  simp only [hmem, hs0] at e
  simp [ha, c_MOST_EVENTS, hn, sFor_ap, e, endF]
theorem need_history_ok {es : List Ev} (h : hs0.all es = true) (hl : es.length ≤ 40) (m : Mm) : cP f_need_history [.tup (es.map Ev.enc)] m = .ok (.non, m) := by
  have hp : pus [PV.tup (es.map Ev.enc)] = true := by simp [evs_pu]
  have hi : ∀ m, cP f_is_history [.tup (es.map Ev.enc)] m = .ok (.bl true, m) := fun m => by simp [cP, evs_pu, is_history_ok h hl]
  have : f_need_history [.tup (es.map Ev.enc)] = .ok .non := by
    simp [f_need_history, bodyP, bodyI, s_need_history, startS, hi, endF]
  unfold cP
  rw [if_pos hp, this]
end TT
end

section
set_option linter.all false
set_option autoImplicit false
namespace TT
abbrev Pair := Option (Int × Option Int)
def encW : Pair → PV
  | none => .non
  | some (s, a) => .tup [.int s, encO a]
/-- the tokens of both, and what still waits -/
structure Tk where
  ta : Option Int
  tb : Option Int
  wa : Pair
  wb : Pair
namespace Tk
def get (k : Tk) (h : Bool) : Option Int := if h then k.tb else k.ta
def getW (k : Tk) (h : Bool) : Pair := if h then k.wb else k.wa
def setT (k : Tk) (h : Bool) (v : Option Int) : Tk := if h then { k with tb := v } else { k with ta := v }
def setW (k : Tk) (h : Bool) (v : Pair) : Tk := if h then { k with wb := v } else { k with wa := v }
def toks (k : Tk) : List PV := [encO k.ta, encO k.tb]
def wts (k : Tk) : List PV := [encW k.wa, encW k.wb]
/-- who asks -/
def who : Ev → Option Bool
  | .ask h => some h
  | .drop h => some h
  | .late h => some h
  | _ => none
/-- an event that asks nothing -/
def calm (k : Tk) (careful : Bool) : Ev → Tk
  | .copy h => (k.setT (!h) (k.get h)).setW (!h) none
  | .got h => match k.getW h with
    | some (s, some a) => if !careful || (k.get h == some s) then (k.setW h none).setT h (some a) else k.setW h none
    | _ => k.setW h none
  | _ => k
/-- an event that asked with t and got ans -/
def asked (k : Tk) (t : Int) (ans : Option Int) : Ev → Tk
  | .ask h => match ans with
    | some a => k.setT h (some a)
    | none => k
  | .late h => k.setW h (some (t, ans))
  | _ => k
/-- it goes with who holds and who waits -/
def fits (k : Tk) (s : Hs) : Prop := ∀ h, (k.get h).isSome = s.has h ∧ (s.waits h = true → (k.getW h).isSome = true)
end Tk
namespace Rule
def stepP (R : Rule) (careful : Bool) (st : Stand) (n : Int) (k : Tk) (e : Ev) : Stand × Int × Tk × Pair := match Tk.who e with
  | some h => match k.get h with
    | some t => let (st', n', ans) := R.answer st n t
      (st', n', k.asked t ans e, some (t, ans))
    | none => (st, n, k, none)
  | none => match e with
    | .tick => (R.tick st, n, k, none)
    | e => (st, n, k.calm careful e, none)
def runP (R : Rule) (careful : Bool) : Stand → Int → Tk → List Ev → List Pair × Tk
  | _, _, k, [] => ([], k)
  | st, n, k, e :: es => let (st', n', k', p) := R.stepP careful st n k e
    let (ps, k2) := R.runP careful st' n' k' es
    (p :: ps, k2)
end Rule
def courseB : SS := (sSeq (sPar2 9 10 (aCons (eC .non) (aCons (eM .str mFindS (eC c_HOLDERS) (aCons (e2 oIx (eVar 8) (eC (.int 0))) aNil)) aNil)))
  (sSeq (sIf (tV (e2 oEq (eVar 8) (eC c_TICK))) (sAsg (eN (cP f_ticked) (aCons (eVar 0) (aCons (eVar 3) aNil))) (TT.gName 3)) (sIf (tV (e2 (oIn false) (e2 oIx (eVar 8) (eC (.int 1))) (eC c_HOLDERS))) (sSeq (sAsg (e2 oIx (eVar 5) (eVar 10)) (TT.gSub (eVar 5) (e2 oSub (eC (.int 1)) (eVar 10))))
  (sAsg (eC .non) (TT.gSub (eVar 6) (e2 oSub (eC (.int 1)) (eVar 10))))) (sIf (tV (e2 oEq (e2 oIx (eVar 8) (eC (.int 1))) (eC (.str [43])))) (sSeq (sAsg (e2 oIx (eVar 6) (eVar 10)) (TT.gTup [11, 12]))
  (sSeq (sAsg (eC .non) (TT.gSub (eVar 6) (eVar 10)))
  (sIf (tAnd (tV (e1 (oIs true .non) (eVar 12))) (tOr (tNot (tT (eVar 2))) (tV (e2 oEq (e2 oIx (eVar 5) (eVar 10)) (eVar 11))))) (sAsg (eVar 12) (TT.gSub (eVar 5) (eVar 10))) sSkip))) (sSeq (sAsg (e2 oIx (eVar 5) (eVar 10)) (TT.gName 11))
  (sSeq (sAsg (eN (cP f_answered) (aCons (eVar 0) (aCons (eVar 3) (aCons (eVar 4) (aCons (eVar 11) aNil))))) (TT.gTup [3, 4, 12]))
  (sSeq (sAsg (eTup (aCons (eVar 11) (aCons (eVar 12) aNil))) (TT.gName 9))
  (sSeq (sIf (tV (e2 oEq (e2 oIx (eVar 8) (eC (.int 1))) (eC (.str [126])))) (sAsg (eVar 9) (TT.gSub (eVar 6) (eVar 10))) sSkip)
  (sIf (tAnd (tV (e2 oEq (e2 oIx (eVar 8) (eC (.int 1))) (eC (.str [33])))) (tV (e1 (oIs true .non) (eVar 12)))) (sAsg (eVar 12) (TT.gSub (eVar 5) (eVar 10))) sSkip))))))))
  (sExpr (eM .list mAppend (eVar 7) (aCons (eVar 9) aNil)))))
def courseS (R : Rule) (careful : Bool) (ev : PV) (st : Stand) (n : Int) (x8 x9 x10 x11 x12 : Option PV) : Sl := [some R.enc, some ev, some (.bl careful), some st.enc, some (.int n), some (.ref 0), some (.ref 1), some (.ref 2), x8, x9, x10, x11, x12]
def courseM (k : Tk) (out : List PV) : Mm := [.lst k.toks, .lst k.wts, .lst out]
theorem cs_eq : s_course = (sSeq (sPar2 3 4 (aCons (eN (cP f_first_stand) (aCons (eVar 0) aNil)) (aCons (eC (.int 0)) aNil)))
  (sSeq (sAsg (eLstM (aCons (eC (.int 0)) (aCons (eC .non) aNil))) (TT.gName 5))
  (sSeq (sAsg (eLstM (aCons (eC .non) (aCons (eC .non) aNil))) (TT.gName 6))
  (sSeq (sAsg (eLstM aNil) (TT.gName 7))
  (sSeq (sFor (iT (eVar 1)) (TT.gName 8) courseB)
  (sRet (eTup (aCons (eVar 7) (aCons (eVar 5) aNil))))))))) := rfl
/-- what the ages must have for f_answered -/
def AgesOk (R : Rule) (st : Stand) (n t : Int) : Prop := st.over = false → n - t ≠ 0 → n - t ≤ R.keep → ∀ l, R.leeway = some l → 1 ≤ n - t ∧ n - t ≤ st.ages.length
section
variable {k : Tk} {out : List PV} {h : Bool} {m : Mm} {v : Option Int} {w : Pair}
theorem cm_get : oIx (.ref 0) (.int (b2i h)) (courseM k out) = .ok (encO (k.get h), courseM k out) := by cases h <;> rfl
theorem cm_getW : oIx (.ref 1) (.int (b2i h)) (courseM k out) = .ok (encW (k.getW h), courseM k out) := by cases h <;> rfl
theorem cm_set : oSet (.ref 0) (.int (b2i h)) (encO v) (courseM k out) = .ok (courseM (k.setT h v) out) := by cases h <;> rfl
theorem cm_setN : oSet (.ref 0) (.int (1 - b2i h)) (encO v) (courseM k out) = .ok (courseM (k.setT (!h) v) out) := by cases h <;> rfl
theorem cm_setW : oSet (.ref 1) (.int (b2i h)) (encW w) (courseM k out) = .ok (courseM (k.setW h w) out) := by cases h <;> rfl
theorem cm_setWN : oSet (.ref 1) (.int (1 - b2i h)) (encW w) (courseM k out) = .ok (courseM (k.setW (!h) w) out) := by cases h <;> rfl
theorem cm_app {x : PV} (ho : out.length < LINE) : mAppend (.ref 2) [x] (courseM k out) = .ok (.non, courseM k (out ++ [x])) := by
  have : (courseM k out)[2]? = some (.lst out) := rfl
  rw [mAppend_ref this ho]; rfl
theorem cm_ty : tyOk (courseM k out) .list (.ref 2) = true := rfl
theorem tyS {z : List Nat} : tyOk m .str (.str z) = true := rfl
theorem hc46 : (hc h = 46) = False := by cases h <;> simp [hc]
theorem ev0 {x : Nat} : oIx (.str [hc h, x]) (.int 0) m = .ok (.str [hc h], m) := rfl
theorem ev1 {x y : Nat} : oIx (.str [x, y]) (.int 1) m = .ok (.str [y], m) := rfl
theorem evT {x : Nat} : oEq (.str [hc h, x]) (.str [46, 46]) m = .ok (.bl false, m) := by cases h <;> simp [hc]
theorem inH : oIn false (.str [hc h]) (.str [97, 98]) m = .ok (.bl true, m) := by cases h <;> rfl
theorem in33 : oIn false (.str [33]) (.str [97, 98]) m = .ok (.bl false, m) := rfl
theorem in45 : oIn false (.str [45]) (.str [97, 98]) m = .ok (.bl false, m) := rfl
theorem in126 : oIn false (.str [126]) (.str [97, 98]) m = .ok (.bl false, m) := rfl
theorem in43 : oIn false (.str [43]) (.str [97, 98]) m = .ok (.bl false, m) := rfl
end
theorem course_turn {R : Rule} (ok : R.Ok) (c : Bool) (ev : PV) (st : Stand) (n : Int) (k : Tk) (s : Hs) (e : Ev) (out : List PV) (hl : st.ages.length ≤ 10) (hf : k.fits s) (hk : s.ok e = true) (ha : ∀ h t, Tk.who e = some h → k.get h = some t → AgesOk R st n t) (ho : out.length < 1000) (x9 x10 x11 x12 : Option PV) :
    ∃ y9 y10 y11 y12, courseB (courseS R c ev st n (some e.enc) x9 x10 x11 x12) (courseM k out) = .ok (.nx, courseS R c ev (R.stepP c st n k e).1 (R.stepP c st n k e).2.1 (some e.enc) y9 y10 y11 y12, courseM (R.stepP c st n k e).2.2.1 (out ++ [encW (R.stepP c st n k e).2.2.2])) := by
  have ho' : out.length < LINE := Nat.lt_trans ho (by decide)
  have ct : ∀ m, cP f_ticked [R.enc, st.enc] m = .ok ((R.tick st).enc, m) := fun m => by simp [cP, enc_pu, stand_pu, tick_ok hl]
  have ca : ∀ t, AgesOk R st n t → ∀ m, cP f_answered [R.enc, st.enc, .int n, .int t] m = .ok (.tup [(R.answer st n t).1.enc, .int (R.answer st n t).2.1, encO (R.answer st n t).2.2], m) := fun t h m => by simp [cP, enc_pu, stand_pu, answer_ok ok hl h]
  have en : PV.non = encO none := rfl
  cases e with
  | tick =>
    refine ⟨some .non, some (.int (-1)), x11, x12, ?_⟩
    have f0 : ∀ m, mFindS (.str [97, 98]) [.str [46]] m = .ok (.int (-1), m) := fun _ => rfl
    have i0 : ∀ m, oIx (.str [46, 46]) (.int 0) m = .ok (.str [46], m) := fun _ => rfl
    simp [courseB, courseS, Ev.enc, Ev.code, c_HOLDERS, c_TICK, tyS, hc46, f0, i0, ct, cm_app ho', cm_ty, Rule.stepP, Tk.who, encW]
  | copy h =>
    refine ⟨some .non, some (.int (b2i h)), x11, x12, ?_⟩
    have q1 := fun v => cm_setN (k := k) (out := out) (h := h) (v := v)
    have q2 := fun k => cm_setWN (k := k) (out := out) (h := h) (w := none)
    simp only [encW] at q2
    simp [courseB, courseS, Ev.enc, Ev.code, c_HOLDERS, c_TICK, tyS, hc46, ev0, ev1, evT, findS, inH, cm_get, q1, q2, cm_app ho', cm_ty, Rule.stepP, Tk.who, encW, Tk.calm]
  | got h =>
    simp only [Hs.ok, Bool.and_eq_true] at hk
    obtain ⟨f1, f2⟩ := hf h
    rw [hk.1] at f1
    have f2 := f2 hk.2
    obtain ⟨t, ht⟩ := Option.isSome_iff_exists.mp f1
    obtain ⟨⟨s0, a0⟩, hw⟩ := Option.isSome_iff_exists.mp f2
    have q2 := fun k => cm_setW (k := k) (out := out) (h := h) (w := none)
    have q3 := fun k v => cm_set (k := k) (out := out) (h := h) (v := some v)
    have g2 : (k.setW h none).get h = some t := by rw [← ht]; cases h <;> rfl
    have g1 := cm_get (k := k.setW h none) (out := out) (h := h)
    rw [g2] at g1
    have g3 := cm_getW (k := k) (out := out) (h := h)
    rw [hw] at g3
    simp only [encW, encO] at q2 q3 g1 g3
    cases a0 with
    | none =>
      refine ⟨some .non, some (.int (b2i h)), some (.int s0), some .non, ?_⟩
      simp [courseB, courseS, Ev.enc, Ev.code, c_HOLDERS, c_TICK, tyS, hc46, ev0, ev1, evT, findS, in43, g3, q2, cm_app ho', cm_ty, Rule.stepP, Tk.who, encW, Tk.calm, hw, encO]
    | some a =>
      refine ⟨some .non, some (.int (b2i h)), some (.int s0), some (.int a), ?_⟩
      cases c with
      | false => simp [courseB, courseS, Ev.enc, Ev.code, c_HOLDERS, c_TICK, tyS, hc46, ev0, ev1, evT, findS, in43, g3, q2, q3, cm_app ho', cm_ty, Rule.stepP, Tk.who, encW, Tk.calm, hw, encO]
      | true =>
        by_cases hts : t = s0
        · simp [courseB, courseS, Ev.enc, Ev.code, c_HOLDERS, c_TICK, tyS, hc46, ev0, ev1, evT, findS, in43, g1, g3, q2, q3, cm_app ho', cm_ty, Rule.stepP, Tk.who, encW, Tk.calm, hw, encO, ht, hts]
        · simp [courseB, courseS, Ev.enc, Ev.code, c_HOLDERS, c_TICK, tyS, hc46, ev0, ev1, evT, findS, in43, g1, g3, q2, q3, cm_app ho', cm_ty, Rule.stepP, Tk.who, encW, Tk.calm, hw, encO, ht, hts]
  | ask h =>
    have f1 := (hf h).1.trans hk
    obtain ⟨t, ht⟩ := Option.isSome_iff_exists.mp f1
    have ca := ca t (ha h t rfl ht)
    have g1 := cm_get (k := k) (out := out) (h := h)
    rw [ht] at g1
    have q3 := fun k v => cm_set (k := k) (out := out) (h := h) (v := some v)
    simp only [encO] at g1 q3
    rcases hq : R.answer st n t with ⟨S, i, a⟩
    rw [hq] at ca
    refine ⟨some (.tup [.int t, encO a]), some (.int (b2i h)), some (.int t), some (encO a), ?_⟩
    cases a <;> simp [courseB, courseS, Ev.enc, Ev.code, c_HOLDERS, c_TICK, tyS, hc46, ev0, ev1, evT, findS, in33, g1, ca, q3, cm_app ho', cm_ty, Rule.stepP, Tk.who, encW, Tk.asked, encO, ht, hq]
  | drop h =>
    have f1 := (hf h).1.trans hk
    obtain ⟨t, ht⟩ := Option.isSome_iff_exists.mp f1
    have ca := ca t (ha h t rfl ht)
    have g1 := cm_get (k := k) (out := out) (h := h)
    rw [ht] at g1
    simp only [encO] at g1
    rcases hq : R.answer st n t with ⟨S, i, a⟩
    rw [hq] at ca
    refine ⟨some (.tup [.int t, encO a]), some (.int (b2i h)), some (.int t), some (encO a), ?_⟩
    simp [courseB, courseS, Ev.enc, Ev.code, c_HOLDERS, c_TICK, tyS, hc46, ev0, ev1, evT, findS, in45, g1, ca, cm_app ho', cm_ty, Rule.stepP, Tk.who, encW, Tk.asked, ht, hq]
  | late h =>
    have f1 := (hf h).1.trans hk
    obtain ⟨t, ht⟩ := Option.isSome_iff_exists.mp f1
    have ca := ca t (ha h t rfl ht)
    have g1 := cm_get (k := k) (out := out) (h := h)
    rw [ht] at g1
    have q2 := fun w => cm_setW (k := k) (out := out) (h := h) (w := some (t, w))
    simp only [encO] at g1
    simp only [encW] at q2
    rcases hq : R.answer st n t with ⟨S, i, a⟩
    rw [hq] at ca
    refine ⟨some (.tup [.int t, encO a]), some (.int (b2i h)), some (.int t), some (encO a), ?_⟩
    simp [courseB, courseS, Ev.enc, Ev.code, c_HOLDERS, c_TICK, tyS, hc46, ev0, ev1, evT, findS, in126, g1, ca, q2, cm_app ho', cm_ty, Rule.stepP, Tk.who, encW, Tk.asked, ht, hq]
/-- what runs on: the ages fit all tokens that may be shown -/
def Rule.Good (R : Rule) (I : Stand → Int → Tk → Prop) (c : Bool) : Prop := ∀ st n k s e, I st n k → k.fits s → s.ok e = true → st.ages.length ≤ 10 ∧ (∀ h t, Tk.who e = some h → k.get h = some t → AgesOk R st n t) ∧ I (R.stepP c st n k e).1 (R.stepP c st n k e).2.1 (R.stepP c st n k e).2.2.1 ∧ (R.stepP c st n k e).2.2.1.fits (s.step e)
theorem course_loop {R : Rule} (ok : R.Ok) (c : Bool) (ev : PV) {I : Stand → Int → Tk → Prop} (G : R.Good I c) : ∀ (es : List Ev) (st : Stand) (n : Int) (k : Tk) (s : Hs) (out : List PV) (x8 x9 x10 x11 x12 : Option PV), I st n k → k.fits s → s.all es = true → out.length + es.length ≤ 100 →
    ∃ st' n' y8 y9 y10 y11 y12, forL (gName 8) courseB (es.map Ev.enc) (courseS R c ev st n x8 x9 x10 x11 x12) (courseM k out) = .ok (.nx, courseS R c ev st' n' y8 y9 y10 y11 y12, courseM (R.runP c st n k es).2 (out ++ (R.runP c st n k es).1.map encW))
  | [], st, n, k, s, out, x8, x9, x10, x11, x12, _, _, _, _ => ⟨st, n, x8, x9, x10, x11, x12, by simp [Rule.runP]⟩
  | e :: es, st, n, k, s, out, x8, x9, x10, x11, x12, hI, hf, ha, hl => by
    simp only [Hs.all, Bool.and_eq_true] at ha
    simp only [List.length_cons] at hl
    obtain ⟨g1, g2, g3, g4⟩ := G st n k s e hI hf ha.1
    obtain ⟨z9, z10, z11, z12, e1⟩ := course_turn ok c ev st n k s e out g1 hf ha.1 g2 (by omega) x9 x10 x11 x12
    rcases hs : R.stepP c st n k e with ⟨st', n', k', p⟩
    rw [hs] at e1 g3 g4
    obtain ⟨st2, n2, y8, y9, y10, y11, y12, e2⟩ := course_loop ok c ev G es st' n' k' (s.step e) (out ++ [encW p]) (some e.enc) z9 z10 z11 z12 g3 g4 ha.2 (by rw [List.length_append, List.length_singleton]; omega)
    refine ⟨st2, n2, y8, y9, y10, y11, y12, ?_⟩
    rw [List.map_cons, forL_cons]
    have hset : gName 8 e.enc (courseS R c ev st n x8 x9 x10 x11 x12) (courseM k out) = .ok (courseS R c ev st n (some e.enc) x9 x10 x11 x12, courseM k out) := rfl
    rw [hset, Rs.bind_ok]
    simp only [e1, Rs.bind_ok, e2]
    have hr : R.runP c st n k (e :: es) = (p :: (R.runP c st' n' k' es).1, (R.runP c st' n' k' es).2) := by
      rw [Rule.runP, hs]
    rw [hr]
    simp
def tk0 : Tk := ⟨some 0, none, none, none⟩
theorem tk0_fits : tk0.fits hs0 := fun h => by cases h <;> exact ⟨rfl, fun z => nomatch z⟩
theorem encWs_pu : ∀ ps : List Pair, pus (ps.map encW) = true
  | [] => rfl
  | none :: ps => by simp [encW, encWs_pu ps]
  | some (s, none) :: ps => by simp [encW, encO, encWs_pu ps]
  | some (s, some a) :: ps => by simp [encW, encO, encWs_pu ps]
theorem frzs_pu {f : PV → Option PV} (hf : ∀ v, v.pu = true → f v = some v) : ∀ xs : List PV, pus xs = true → frz.frzs f xs = some xs
  | [], _ => rfl
  | x :: xs, h => by
    simp only [pus_cons, Bool.and_eq_true] at h
    simp [frz.frzs, hf x h.1, frzs_pu hf xs h.2]
theorem frz_ref {m : Mm} {n k : Nat} {xs : List PV} (h : m[n]? = some (.lst xs)) (hp : pus xs = true) : frz (k + 1) m (.ref n) = some (.vl xs) := by
  simp [frz, h, frzs_pu (fun v hv => frz_pu hv) xs hp, PV.pu]
theorem frz_tup {m : Mm} {k : Nat} {xs ys : List PV} (h : frz.frzs (frz k m) xs = some ys) (hp : pus xs = true → ys = xs) : frz (k + 1) m (.tup xs) = some (.tup ys) := by
  unfold frz
  by_cases c : pus xs = true
  · rw [if_pos (show PV.pu (.tup xs) = true from c), hp c]
  · rw [if_neg (show ¬ PV.pu (.tup xs) = true from c)]
    simp only [h, Option.map_some]
theorem encO_pu (o : Option Int) : (encO o).pu = true := by cases o <;> rfl
theorem toks_pu (k : Tk) : pus k.toks = true := by simp [Tk.toks, encO_pu]
theorem course_ok {R : Rule} (ok : R.Ok) (c : Bool) {I : Stand → Int → Tk → Prop} (G : R.Good I c) (h0 : I R.first 0 tk0) {es : List Ev} (ha : hs0.all es = true) (hl : es.length ≤ 40) :
    f_course [R.enc, .tup (es.map Ev.enc), .bl c] = .ok (.tup [.vl ((R.runP c R.first 0 tk0 es).1.map encW), .vl (R.runP c R.first 0 tk0 es).2.toks]) := by
  obtain ⟨st', n', y8, y9, y10, y11, y12, e⟩ := course_loop ok c (.tup (es.map Ev.enc)) G es R.first 0 tk0 hs0 [] none none none none none h0 tk0_fits ha (by simp; omega)
  have cf : ∀ m, cP f_first_stand [R.enc] m = .ok (R.first.enc, m) := fun m => by simp [cP, enc_pu, first_ok ok]
  simp only [f_course, bodyP, bodyI, cs_eq, startS]
  have e' : forL (gName 8) courseB (es.map Ev.enc) [some R.enc, some (.tup (es.map Ev.enc)), some (.bl c), some R.first.enc, some (.int 0), some (.ref 0), some (.ref 1), some (.ref 2), none, none, none, none, none] [.lst [.int 0, .non], .lst [.non, .non], .lst []] = .ok (.nx, courseS R c (.tup (es.map Ev.enc)) st' n' y8 y9 y10 y11 y12, courseM (R.runP c R.first 0 tk0 es).2 ([] ++ (R.runP c R.first 0 tk0 es).1.map encW)) := e
  have hz : ∀ (k : Tk) (out : List PV), pus out = true → Rs.ofO (frz 4 (courseM k out) (.tup [.ref 2, .ref 0])) = .ok (.tup [.vl out, .vl k.toks]) := fun k out ho => by
    have h2 : frz 3 (courseM k out) (.ref 2) = some (.vl out) := frz_ref rfl ho
    have h0 : frz 3 (courseM k out) (.ref 0) = some (.vl k.toks) := frz_ref rfl (toks_pu k)
    rw [frz_tup (ys := [.vl out, .vl k.toks]) (by simp only [frz.frzs, h2, h0]) (fun h => by simp [PV.pu] at h)]
    rfl
  simp [cf, sFor_ap, e', endF, courseS, hz, encWs_pu]
end TT
end

section
set_option linter.all false
set_option autoImplicit false
namespace TT
theorem rule_is {R : Rule} (ok : R.Ok) : f_is_rule [R.enc] = .ok (.bl true) := by
  obtain ⟨keep, new, strict, leeway, spare, every, fin⟩ := R
  obtain ⟨⟨a0, a1⟩, b, c, ⟨d0, d1⟩⟩ := ok
  simp only at a0 a1 b c d0 d1
  have c0 : ∀ m, cP f_is_choice [.int keep, .tup [.int 0, .int 1, .int 2]] m = .ok (.bl true, m) := fun m => by
    have : keep = 0 ∨ keep = 1 ∨ keep = 2 := by omega
    rcases this with rfl | rfl | rfl <;> rfl
  have c1 : ∀ m, cP f_is_choice [.str (if new then sNew else sSame), .tup [.str [110, 101, 119], .str [115, 97, 109, 101]]] m = .ok (.bl true, m) := fun m => by
    cases new <;> rfl
  have c2 : ∀ m, cP f_is_choice [.bl strict, .tup [.bl false, .bl true]] m = .ok (.bl true, m) := fun m => by
    cases strict <;> rfl
  have cO : ∀ (o : Option Int), (o = none ∨ ∃ i, o = some i ∧ 0 ≤ i ∧ i ≤ 2) → ∀ m, cP f_is_choice [encO o, .tup [.non, .int 0, .int 1, .int 2]] m = .ok (.bl true, m) := fun o h m => by
    rcases h with rfl | ⟨i, rfl, h0, h1⟩
    · rfl
    · have : i = 0 ∨ i = 1 ∨ i = 2 := by omega
      rcases this with rfl | rfl | rfl <;> rfl
  have c3 := cO leeway b
  have c4 := cO spare c
  have c5 : ∀ m, cP f_is_choice [.int every, .tup [.int 1, .int 2, .int 3]] m = .ok (.bl true, m) := fun m => by
    have : every = 1 ∨ every = 2 ∨ every = 3 := by omega
    rcases this with rfl | rfl | rfl <;> rfl
  have c6 : ∀ m, cP f_is_choice [.str (if fin then sEnd else sRefuse), .tup [.str [101, 110, 100], .str [114, 101, 102, 117, 115, 101]]] m = .ok (.bl true, m) := fun m => by
    cases fin <;> rfl
  generalize encO leeway = ol at c3
  simp only [f_is_rule, bodyP, bodyI, s_is_rule, startS, Rule.enc, Rule.parts]
  simp [oIsA, isA, c_PARTS, c_CHOICES, eLc_ap, zipP, lcL, wipe, LINE, c0, c1, c2, cO leeway b, c4, c5, c6, fAll, bools, endF]
theorem need_rule_ok {R : Rule} (ok : R.Ok) (m : Mm) : cP f_need_rule [R.enc] m = .ok (.non, m) := by
  have hi : ∀ m, cP f_is_rule [R.enc] m = .ok (.bl true, m) := fun m => by simp [cP, enc_pu, rule_is ok]
  have : f_need_rule [R.enc] = .ok .non := by
    simp [f_need_rule, bodyP, bodyI, s_need_rule, startS, hi, endF]
  unfold cP
  rw [if_pos (by simp [enc_pu]), this]
theorem run_ok {R : Rule} (ok : R.Ok) (c : Bool) {I : Stand → Int → Tk → Prop} (G : R.Good I c) (h0 : I R.first 0 tk0) {es : List Ev} (ha : hs0.all es = true) (hl : es.length ≤ 40) :
    f_run [R.enc, .tup (es.map Ev.enc), .bl c] = .ok (.vl ((R.runP c R.first 0 tk0 es).1.map encW)) := by
  have cc : ∀ m, cP f_course [R.enc, .tup (es.map Ev.enc), .bl c] m = .ok (.tup [.vl ((R.runP c R.first 0 tk0 es).1.map encW), .vl (R.runP c R.first 0 tk0 es).2.toks], m) := fun m => by
    simp [cP, enc_pu, evs_pu, course_ok ok c G h0 ha hl]
  have ix : ∀ x y m, oIx (.tup [x, y]) (.int 0) m = .ok (x, m) := fun _ _ _ => rfl
  simp [f_run, bodyP, bodyI, s_run, startS, need_rule_ok ok, need_history_ok ha hl, cc, ix, endF]
  rw [frz_pu (show PV.pu (.vl _) = true from encWs_pu _)]
  rfl
theorem held_ok {R : Rule} (ok : R.Ok) (c : Bool) {I : Stand → Int → Tk → Prop} (G : R.Good I c) (h0 : I R.first 0 tk0) {es : List Ev} (ha : hs0.all es = true) (hl : es.length ≤ 40) :
    f_held [R.enc, .tup (es.map Ev.enc), .bl c] = .ok (.tup (R.runP c R.first 0 tk0 es).2.toks) := by
  have cc : ∀ m, cP f_course [R.enc, .tup (es.map Ev.enc), .bl c] m = .ok (.tup [.vl ((R.runP c R.first 0 tk0 es).1.map encW), .vl (R.runP c R.first 0 tk0 es).2.toks], m) := fun m => by
    simp [cP, enc_pu, evs_pu, course_ok ok c G h0 ha hl]
  have ix : ∀ x y m, oIx (.tup [x, y]) (.int 1) m = .ok (y, m) := fun _ _ _ => rfl
  simp [f_held, bodyP, bodyI, s_held, startS, need_rule_ok ok, need_history_ok ha hl, cc, ix, endF]
  rw [frz_pu (show PV.pu (.tup (R.runP c R.first 0 tk0 es).2.toks) = true from by rw [pu_tup]; exact toks_pu _)]
  rfl
end TT
end

section
set_option linter.all false
set_option autoImplicit false
namespace TT
/-! ### the law's server, by numbers -/
structure Srv where
  newest : Int
  top : Int
  times : List Int
  now : Int
  cred : Option Int
  seen : Int
  over : Bool
def Srv.items (s : Srv) : List PV := [.int s.newest, .int s.top, .vl (s.times.map .int), .int s.now, encO s.cred, .int s.seen, .bl s.over]
def Srv.ob (s : Srv) : Ob := .lst s.items
namespace Rule
def accepts (R : Rule) (s : Srv) (t : Int) : Bool :=
  !s.over && (t == s.newest || (decide (s.newest - t ≤ R.keep) && (!R.strict || decide (s.top ≤ t)) && lwOk R.leeway (s.now - (s.times[(t + 1).toNat]?).getD 0) && (R.spare.isNone || decide (0 < s.cred.getD 0))))
def made (R : Rule) (s : Srv) (t : Int) : Srv :=
  if (t == s.newest || R.new) = true then { s with newest := s.newest + 1, times := s.times ++ [s.now], top := if t > s.top then t else s.top } else { s with top := if t > s.top then t else s.top }
def askL (R : Rule) (s : Srv) (t : Int) : Option Int × Srv :=
  if R.accepts s t then
    let s1 := R.made s t
    if t = s.newest then
      if s.seen + 1 = R.every then (some s1.newest, { s1 with seen := 0, cred := match R.spare with | none => none | some p => some (if s.cred.getD 0 + 1 < p then s.cred.getD 0 + 1 else p) })
      else (some s1.newest, { s1 with seen := s.seen + 1 })
    else (some s1.newest, { s1 with cred := match R.spare with | none => none | some _ => some (s.cred.getD 0 - 1) })
  else (none, { s with over := s.over || R.fin })
def server (R : Rule) : Srv := ⟨0, -1, [0], 0, R.spare, 0, false⟩
end Rule
section
variable {s : Srv} {m : Mm} {b : Nat}
theorem sv0 (h : m[b]? = some s.ob) : oIx (.ref b) (.int 0) m = .ok (.int s.newest, m) := oIx_ref h rfl
theorem sv1 (h : m[b]? = some s.ob) : oIx (.ref b) (.int 1) m = .ok (.int s.top, m) := oIx_ref h rfl
theorem sv2 (h : m[b]? = some s.ob) : oIx (.ref b) (.int 2) m = .ok (.vl (s.times.map .int), m) := oIx_ref h rfl
theorem sv3 (h : m[b]? = some s.ob) : oIx (.ref b) (.int 3) m = .ok (.int s.now, m) := oIx_ref h rfl
theorem sv4 (h : m[b]? = some s.ob) : oIx (.ref b) (.int 4) m = .ok (encO s.cred, m) := oIx_ref h rfl
theorem sv5 (h : m[b]? = some s.ob) : oIx (.ref b) (.int 5) m = .ok (.int s.seen, m) := oIx_ref h rfl
theorem sv6 (h : m[b]? = some s.ob) : oIx (.ref b) (.int 6) m = .ok (.bl s.over, m) := oIx_ref h rfl
theorem st0 (h : m[b]? = some s.ob) {i : Int} : oSet (.ref b) (.int 0) (.int i) m = .ok (m.set b { s with newest := i }.ob) := oSet_ref h (j := 0) rfl
theorem st1 (h : m[b]? = some s.ob) {i : Int} : oSet (.ref b) (.int 1) (.int i) m = .ok (m.set b { s with top := i }.ob) := oSet_ref h (j := 1) rfl
theorem st2 (h : m[b]? = some s.ob) {i : List Int} : oSet (.ref b) (.int 2) (.vl (i.map .int)) m = .ok (m.set b { s with times := i }.ob) := oSet_ref h (j := 2) rfl
theorem st3 (h : m[b]? = some s.ob) {i : Int} : oSet (.ref b) (.int 3) (.int i) m = .ok (m.set b { s with now := i }.ob) := oSet_ref h (j := 3) rfl
theorem st4 (h : m[b]? = some s.ob) {i : Option Int} : oSet (.ref b) (.int 4) (encO i) m = .ok (m.set b { s with cred := i }.ob) := oSet_ref h (j := 4) rfl
theorem st5 (h : m[b]? = some s.ob) {i : Int} : oSet (.ref b) (.int 5) (.int i) m = .ok (m.set b { s with seen := i }.ob) := oSet_ref h (j := 5) rfl
theorem st6 (h : m[b]? = some s.ob) {i : Bool} : oSet (.ref b) (.int 6) (.bl i) m = .ok (m.set b { s with over := i }.ob) := oSet_ref h (j := 6) rfl
end
theorem accepts_ok {R : Rule} {s : Srv} {t : Int} {m : Mm} {b : Nat} (h : m[b]? = some s.ob) (ht : s.over = false → t ≠ s.newest → s.newest - t ≤ R.keep → ∀ l, R.leeway = some l → 0 ≤ t + 1 ∧ t + 1 < s.times.length) (hc : R.spare.isSome = s.cred.isSome) :
    i_law_accepts [R.enc, .ref b, .int t] m = .ok (.bl (R.accepts s t), m) := by
  obtain ⟨keep, new, strict, leeway, spare, every, fin⟩ := R
  have i0 : ∀ m, oIx (Rule.enc ⟨keep, new, strict, leeway, spare, every, fin⟩) (.int 0) m = .ok (.int keep, m) := fun m => rfl
  have i2 : ∀ m, oIx (Rule.enc ⟨keep, new, strict, leeway, spare, every, fin⟩) (.int 2) m = .ok (.bl strict, m) := fun m => rfl
  have i3 : ∀ m, oIx (Rule.enc ⟨keep, new, strict, leeway, spare, every, fin⟩) (.int 3) m = .ok (encO leeway, m) := fun m => rfl
  have i4 : ∀ m, oIx (Rule.enc ⟨keep, new, strict, leeway, spare, every, fin⟩) (.int 4) m = .ok (encO spare, m) := fun m => rfl
  simp only [i_law_accepts, bodyI, s_law_accepts, startS]
  by_cases ho : s.over = true
  · simp [sv6 h, ho, endF, Rule.accepts]
  · have ho : s.over = false := by simpa using ho
    by_cases hn : t = s.newest
    · simp [sv6 h, sv0 h, ho, hn, endF, Rule.accepts]
    · by_cases hk : s.newest - t ≤ keep
      · have hk' : ¬ keep < s.newest - t := by omega
        by_cases hs : strict = true ∧ t < s.top
        · obtain ⟨rfl, hl⟩ := hs
          have : ¬ s.top ≤ t := by omega
          simp [sv6 h, sv0 h, sv1 h, i0, i2, ho, hn, hk, hk', hl, this, endF, Rule.accepts]
        · have hs3 : strict = false ∨ ¬ t < s.top := by
            cases strict with
            | false => exact .inl rfl
            | true => right; simp at hs; omega
          have lw : ∀ (A : Bool), A = lwOk leeway (s.now - (s.times[(t + 1).toNat]?).getD 0) → (tAnd (tV (e1 (oIs true .non) (e2 oIx (eVar 0) (eC (.int 3))))) (tV (e2 oGt (e2 oSub (e2 oIx (eVar 1) (eC (.int 3))) (e2 oIx (e2 oIx (eVar 1) (eC (.int 2))) (e2 oAdd (eVar 2) (eC (.int 1))))) (e2 oIx (eVar 0) (eC (.int 3)))))) [some (Rule.enc ⟨keep, new, strict, leeway, spare, every, fin⟩), some (.ref b), some (.int t)] m = .ok (!A, m) := by
            intro A hA
            cases leeway with
            | none => simp only [lwOk] at hA; subst hA; simp [i3, encO]
            | some l =>
              obtain ⟨o1, o2⟩ := ht ho hn hk l rfl
              have hlt : (t + 1).toNat < s.times.length := by omega
              have ix : ∀ m, oIx (.vl (s.times.map .int)) (.int (t + 1)) m = .ok (.int ((s.times[(t + 1).toNat]?).getD 0), m) := fun m => by
                refine oIx_vl ?_
                have e := atI_nat (xs := s.times.map PV.int) (j := (t + 1).toNat) (x := .int ((s.times[(t + 1).toNat]?).getD 0)) (by
                  rw [List.getElem?_map, List.getElem?_eq_getElem hlt]; rfl)
                have : (((t + 1).toNat : Nat) : Int) = t + 1 := by omega
                rw [this] at e
                exact e
              simp only [lwOk] at hA
              generalize (s.times[(t + 1).toNat]?).getD 0 = g at ix hA
              subst hA
              simp [i3, encO, sv3 h, sv2 h, ix]
              by_cases hgl : s.now - g ≤ l
              · have : ¬ l < s.now - g := by omega
                simp [hgl, this]
              · have : l < s.now - g := by omega
                simp [hgl, this]
          obtain ⟨A, hA⟩ : ∃ A : Bool, A = lwOk leeway (s.now - (s.times[(t + 1).toNat]?).getD 0) := ⟨_, rfl⟩
          have lw := lw A hA
          have hacc : Rule.accepts ⟨keep, new, strict, leeway, spare, every, fin⟩ s t = (A && (spare.isNone || decide (0 < s.cred.getD 0))) := by
            rw [hA]
            unfold Rule.accepts
            rcases hs3 with rfl | hs3
            · simp [ho, beq_eq_false_iff_ne.mpr hn, hk]
            · have : s.top ≤ t := by omega
              simp [ho, beq_eq_false_iff_ne.mpr hn, hk, this]
          rw [hacc]
          generalize hX : (tAnd (tV (e1 (oIs true .non) (e2 oIx (eVar 0) (eC (.int 3))))) (tV (e2 oGt (e2 oSub (e2 oIx (eVar 1) (eC (.int 3))) (e2 oIx (e2 oIx (eVar 1) (eC (.int 2))) (e2 oAdd (eVar 2) (eC (.int 1))))) (e2 oIx (eVar 0) (eC (.int 3)))))) = X at lw
          have hcr : ∀ m, oGt (encO s.cred) (.int 0) m = if s.cred.isSome then .ok (.bl (decide (0 < s.cred.getD 0)), m) else .no := fun m => by
            cases s.cred <;> rfl
          have hn2 : (t == s.newest) = false := beq_eq_false_iff_ne.mpr hn
          have hstr : (tOr (tV (e2 oGt (e2 oSub (e2 oIx (eVar 1) (eC (.int 0))) (eVar 2)) (e2 oIx (eVar 0) (eC (.int 0))))) (tAnd (tT (e2 oIx (eVar 0) (eC (.int 2)))) (tV (e2 oLt (eVar 2) (e2 oIx (eVar 1) (eC (.int 1))))))) [some (Rule.enc ⟨keep, new, strict, leeway, spare, every, fin⟩), some (.ref b), some (.int t)] m = .ok (false, m) := by
            rcases hs3 with rfl | hs3
            · simp [sv0 h, i0, i2, hk']
            · cases strict <;> simp [sv0 h, sv1 h, i0, i2, hk', hs3]
          generalize (tOr (tV (e2 oGt (e2 oSub (e2 oIx (eVar 1) (eC (.int 0))) (eVar 2)) (e2 oIx (eVar 0) (eC (.int 0))))) (tAnd (tT (e2 oIx (eVar 0) (eC (.int 2)))) (tV (e2 oLt (eVar 2) (e2 oIx (eVar 1) (eC (.int 1))))))) = Y at hstr
          clear hs3 hX hacc hA
          cases spare with
          | none => cases A <;> simp [sv6 h, sv0 h, i4, ho, hn, hn2, hstr, lw, endF, encO]
          | some p =>
            simp only [Option.isSome_some] at hc
            cases A <;> simp [sv6 h, sv0 h, sv4 h, i4, ho, hn, hn2, hstr, lw, endF, encO_non, hcr, ← hc]
      · have : keep < s.newest - t := by omega
        simp [sv6 h, sv0 h, i0, ho, hn, hk, this, endF, Rule.accepts]
def srvM (m : Mm) (b : Nat) (s : Srv) : Mm := m.set b s.ob
theorem srvM_self {m : Mm} {b : Nat} {s : Srv} (h : m[b]? = some s.ob) : srvM m b s = m := by
  apply List.ext_getElem?
  intro j
  unfold srvM
  by_cases hj : b = j
  · subst hj; rw [List.getElem?_set_self (List.getElem?_eq_some_iff.mp h).1, h]
  · rw [List.getElem?_set_ne hj]
theorem srvM_get {m : Mm} {b : Nat} {s : Srv} (h : b < m.length) : (srvM m b s)[b]? = some s.ob := List.getElem?_set_self h
theorem srvM_set {m : Mm} {b : Nat} {s s' : Srv} : (srvM m b s).set b s'.ob = srvM m b s' := by unfold srvM; rw [List.set_set]
theorem asked_ok' {R : Rule} {s : Srv} {t : Int} {m : Mm} {b : Nat} (hb : b < m.length) (ht : s.over = false → t ≠ s.newest → s.newest - t ≤ R.keep → ∀ l, R.leeway = some l → 0 ≤ t + 1 ∧ t + 1 < s.times.length) (hc : R.spare.isSome = s.cred.isSome) (hl : s.times.length ≤ 1000) :
    i_law_asked [R.enc, .ref b, .int t] (srvM m b s) = .ok (encO (R.askL s t).1, srvM m b (R.askL s t).2) := by
  have g := fun (s : Srv) => srvM_get (s := s) hb
  have acc := accepts_ok (g s) ht hc
  have s0 := fun (s : Srv) => sv0 (g s)
  have s1 := fun (s : Srv) => sv1 (g s)
  have s2 := fun (s : Srv) => sv2 (g s)
  have s3 := fun (s : Srv) => sv3 (g s)
  have s4 := fun (s : Srv) => sv4 (g s)
  have s5 := fun (s : Srv) => sv5 (g s)
  have s6 := fun (s : Srv) => sv6 (g s)
  have u0 := fun (s : Srv) (i : Int) => st0 (g s) (i := i)
  have u1 := fun (s : Srv) (i : Int) => st1 (g s) (i := i)
  have u2 := fun (s : Srv) (i : List Int) => st2 (g s) (i := i)
  have u4 := fun (s : Srv) (i : Option Int) => st4 (g s) (i := i)
  have u5 := fun (s : Srv) (i : Int) => st5 (g s) (i := i)
  have u6 := fun (s : Srv) (i : Bool) => st6 (g s) (i := i)
  simp only [srvM_set] at u0 u1 u2 u4 u5 u6
  have u4n := fun (s : Srv) => u4 s none
  have u4s := fun (s : Srv) (i : Int) => u4 s (some i)
  simp only [encO] at u4n u4s
  have ad : ∀ m, oAdd (.vl (s.times.map .int)) (.vl [.int s.now]) m = .ok (.vl ((s.times ++ [s.now]).map .int), m) := fun m => by
    rw [oAdd_vl, if_pos]
    · rw [List.map_append]; rfl
    · rw [List.length_map]; exact Nat.le_trans (by simp; omega : s.times.length + [PV.int s.now].length ≤ 1001) (by decide)
  obtain ⟨T, hT⟩ : ∃ T, T = s.times ++ [s.now] := ⟨_, rfl⟩
  rw [← hT] at ad
  have i1 : ∀ m, oIx R.enc (.int 1) m = .ok (.str (if R.new then sNew else sSame), m) := fun m => rfl
  have i4 : ∀ m, oIx R.enc (.int 4) m = .ok (encO R.spare, m) := fun m => rfl
  have i5 : ∀ m, oIx R.enc (.int 5) m = .ok (.int R.every, m) := fun m => rfl
  have i6 : ∀ m, oIx R.enc (.int 6) m = .ok (.str (if R.fin then sEnd else sRefuse), m) := fun m => rfl
  simp only [i_law_asked, bodyI, s_law_asked, startS]
  by_cases ha : R.accepts s t = true
  · by_cases hp : t = s.newest
    · subst hp
      have hm : R.made s s.newest = { s with newest := s.newest + 1, times := T, top := if s.newest > s.top then s.newest else s.top } := by simp [Rule.made, hT]
      by_cases he : s.seen + 1 = R.every
      · cases hs : R.spare with
        | none =>
          have hcr : s.cred = none := by rw [hs] at hc; cases h : s.cred with | none => rfl | some _ => rw [h] at hc; cases hc
          have hq : R.askL s s.newest = (some (s.newest + 1), { s with newest := s.newest + 1, times := T, top := if s.newest > s.top then s.newest else s.top, seen := 0, cred := none }) := by
            unfold Rule.askL; rw [if_pos ha]; simp only [hm, he, if_true, hs]
          rw [hq]
          simp [cI, acc, ha, s0, s1, s2, s3, s5, u0, u1, u2, u5, i1, i4, i5, hs, ad, he, u4n, encO, endF]
        | some p =>
          obtain ⟨cr, hcr⟩ : ∃ cr, s.cred = some cr := by rw [hs] at hc; exact Option.isSome_iff_exists.mp hc.symm
          have hq : R.askL s s.newest = (some (s.newest + 1), { s with newest := s.newest + 1, times := T, top := if s.newest > s.top then s.newest else s.top, seen := 0, cred := some (if cr + 1 < p then cr + 1 else p) }) := by
            unfold Rule.askL; rw [if_pos ha]; simp only [hm, he, if_true, hs, hcr, Option.getD_some]
          rw [hq]
          simp [cI, acc, ha, s0, s1, s2, s3, s4, s5, u0, u1, u2, u5, i1, i4, i5, hs, hcr, ad, he, u4s, encO, endF]
      · have hq : R.askL s s.newest = (some (s.newest + 1), { s with newest := s.newest + 1, times := T, top := if s.newest > s.top then s.newest else s.top, seen := s.seen + 1 }) := by
          unfold Rule.askL; rw [if_pos ha]; simp only [hm, if_true, if_neg he]
        rw [hq]
        simp [cI, acc, ha, s0, s1, s2, s3, s5, u0, u1, u2, u5, i1, i4, i5, ad, he, encO, endF]
    · have hb2 : (t == s.newest) = false := beq_eq_false_iff_ne.mpr hp
      cases hn : R.new with
      | true =>
        have hm : R.made s t = { s with newest := s.newest + 1, times := T, top := if t > s.top then t else s.top } := by simp [Rule.made, hT, hn]
        cases hs : R.spare with
        | none =>
          have hcr : s.cred = none := by rw [hs] at hc; cases h : s.cred with | none => rfl | some _ => rw [h] at hc; cases hc
          have hq : R.askL s t = (some (s.newest + 1), { s with newest := s.newest + 1, times := T, top := if t > s.top then t else s.top, cred := none }) := by
            unfold Rule.askL; rw [if_pos ha]; simp only [hm, if_neg hp, hs]
          rw [hq]
          simp [cI, acc, ha, hb2, s0, s1, s2, s3, s5, u0, u1, u2, u5, i1, i4, i5, hs, hn, sNew, sSame, ad, u4n, encO, endF]
        | some p =>
          obtain ⟨cr, hcr⟩ : ∃ cr, s.cred = some cr := by rw [hs] at hc; exact Option.isSome_iff_exists.mp hc.symm
          have hq : R.askL s t = (some (s.newest + 1), { s with newest := s.newest + 1, times := T, top := if t > s.top then t else s.top, cred := some (cr - 1) }) := by
            unfold Rule.askL; rw [if_pos ha]; simp only [hm, if_neg hp, hs, hcr, Option.getD_some]
          rw [hq]
          simp [cI, acc, ha, hb2, s0, s1, s2, s3, s4, s5, u0, u1, u2, u5, i1, i4, i5, hs, hcr, hn, sNew, sSame, ad, u4s, encO, endF]
      | false =>
        have hm : R.made s t = { s with top := if t > s.top then t else s.top } := by simp [Rule.made, hn, hb2]
        cases hs : R.spare with
        | none =>
          have hcr : s.cred = none := by rw [hs] at hc; cases h : s.cred with | none => rfl | some _ => rw [h] at hc; cases hc
          have hq : R.askL s t = (some s.newest, { s with top := if t > s.top then t else s.top, cred := none }) := by
            unfold Rule.askL; rw [if_pos ha]; simp only [hm, if_neg hp, hs]
          rw [hq]
          simp [cI, acc, ha, hb2, s0, s1, s2, s3, s5, u0, u1, u2, u5, i1, i4, i5, hs, hn, sNew, sSame, ad, u4n, encO, endF]
        | some p =>
          obtain ⟨cr, hcr⟩ : ∃ cr, s.cred = some cr := by rw [hs] at hc; exact Option.isSome_iff_exists.mp hc.symm
          have hq : R.askL s t = (some s.newest, { s with top := if t > s.top then t else s.top, cred := some (cr - 1) }) := by
            unfold Rule.askL; rw [if_pos ha]; simp only [hm, if_neg hp, hs, hcr, Option.getD_some]
          rw [hq]
          simp [cI, acc, ha, hb2, s0, s1, s2, s3, s4, s5, u0, u1, u2, u5, i1, i4, i5, hs, hcr, hn, sNew, sSame, ad, u4s, encO, endF]
  · have hq : R.askL s t = (none, { s with over := s.over || R.fin }) := by unfold Rule.askL; rw [if_neg ha]
    rw [hq]
    cases hf : R.fin <;> cases ho : s.over <;> simp [cI, acc, ha, s6, u6, i6, hf, ho, endF, encO, sEnd, sRefuse]
end TT
end

section
set_option linter.all false
set_option autoImplicit false
namespace TT
def lawM (s : Srv) (k : Tk) (out : List PV) : Mm := [s.ob, .lst k.toks, .lst k.wts, .lst [.ref 0, .ref 1, .ref 2], .lst out]
section
variable {k : Tk} {out : List PV} {h : Bool} {m : Mm} {v : Option Int} {w : Pair} {s : Srv}
theorem lm_get : oIx (.ref 1) (.int (b2i h)) (lawM s k out) = .ok (encO (k.get h), lawM s k out) := by cases h <;> rfl
theorem lm_getW : oIx (.ref 2) (.int (b2i h)) (lawM s k out) = .ok (encW (k.getW h), lawM s k out) := by cases h <;> rfl
theorem lm_set : oSet (.ref 1) (.int (b2i h)) (encO v) (lawM s k out) = .ok (lawM s (k.setT h v) out) := by cases h <;> rfl
theorem lm_setN : oSet (.ref 1) (.int (1 - b2i h)) (encO v) (lawM s k out) = .ok (lawM s (k.setT (!h) v) out) := by cases h <;> rfl
theorem lm_setW : oSet (.ref 2) (.int (b2i h)) (encW w) (lawM s k out) = .ok (lawM s (k.setW h w) out) := by cases h <;> rfl
theorem lm_setWN : oSet (.ref 2) (.int (1 - b2i h)) (encW w) (lawM s k out) = .ok (lawM s (k.setW (!h) w) out) := by cases h <;> rfl
theorem lm_app {x : PV} (ho : out.length < LINE) : mAppend (.ref 4) [x] (lawM s k out) = .ok (.non, lawM s k (out ++ [x])) := by
  have : (lawM s k out)[4]? = some (.lst out) := rfl
  rw [mAppend_ref this ho]; rfl
theorem lm_ty : tyOk (lawM s k out) .list (.ref 4) = true := rfl
theorem lm_now : oIx (.ref 0) (.int 3) (lawM s k out) = .ok (.int s.now, lawM s k out) := rfl
theorem lm_tick {i : Int} : oSet (.ref 0) (.int 3) (.int i) (lawM s k out) = .ok (lawM { s with now := i } k out) := rfl
theorem inC {x : Nat} (hx : x = 33 ∨ x = 45 ∨ x = 126 ∨ x = 43) : oIn false (.str [hc h, x]) (.vl [.str [97, 98], .str [98, 97]]) m = .ok (.bl false, m) := by
  rcases hx with rfl | rfl | rfl | rfl <;> cases h <;> rfl
theorem inC2 : oIn false (.str [hc h, hc (!h)]) (.vl [.str [97, 98], .str [98, 97]]) m = .ok (.bl true, m) := by cases h <;> rfl
end
namespace Rule
def stepL (R : Rule) (careful : Bool) (s : Srv) (k : Tk) (e : Ev) : Srv × Tk × Pair := match Tk.who e with
  | some h => match k.get h with
    | some t => let (ans, s') := R.askL s t
      (s', k.asked t ans e, some (t, ans))
    | none => (s, k, none)
  | none => match e with
    | .tick => ({ s with now := s.now + 1 }, k, none)
    | e => (s, k.calm careful e, none)
def runL (R : Rule) (careful : Bool) : Srv → Tk → List Ev → List Pair × Srv × Tk
  | s, k, [] => ([], s, k)
  | s, k, e :: es => let (s', k', p) := R.stepL careful s k e
    let (ps, s2, k2) := R.runL careful s' k' es
    (p :: ps, s2, k2)
end Rule
/-- what the times must have for the server -/
def TimesOk (R : Rule) (s : Srv) (t : Int) : Prop := (s.over = false → t ≠ s.newest → s.newest - t ≤ R.keep → ∀ l, R.leeway = some l → 0 ≤ t + 1 ∧ t + 1 < s.times.length)
structure SrvOk (R : Rule) (s : Srv) : Prop where
  cred : R.spare.isSome = s.cred.isSome
  len : s.times.length ≤ 1000
theorem event_ok {R : Rule} (c : Bool) (s : Srv) (k : Tk) (hs : Hs) (e : Ev) (out : List PV) (so : SrvOk R s) (hf : k.fits hs) (hk : hs.ok e = true) (ha : ∀ h t, Tk.who e = some h → k.get h = some t → TimesOk R s t) :
    i_law_event [R.enc, .ref 3, e.enc, .bl c] (lawM s k out) = .ok (encW (R.stepL c s k e).2.2, lawM (R.stepL c s k e).1 (R.stepL c s k e).2.1 out) := by
  have ca : ∀ t, TimesOk R s t → i_law_asked [R.enc, .ref 0, .int t] (lawM s k out) = .ok (encO (R.askL s t).1, lawM (R.askL s t).2 k out) := fun t h => asked_ok' (m := lawM s k out) (b := 0) (by show 0 < 5; decide) h so.cred so.len
  have gu : ∀ sl, gUnp [4, 5, 6] (.ref 3) sl (lawM s k out) = .ok (((sl.set 4 (some (.ref 0))).set 5 (some (.ref 1))).set 6 (some (.ref 2)), lawM s k out) := fun sl => rfl
  cases e with
  | tick =>
    simp [i_law_event, bodyI, s_law_event, startS, gu, Ev.enc, Ev.code, lm_now, lm_tick, endF, Rule.stepL, Tk.who, encW]
  | copy h =>
    have q1 := fun v => lm_setN (s := s) (k := k) (out := out) (h := h) (v := v)
    have q2 := fun k => lm_setWN (s := s) (k := k) (out := out) (h := h) (w := none)
    simp only [encW] at q2
    simp [i_law_event, bodyI, s_law_event, startS, gu, Ev.enc, Ev.code, tyS, hc46, ev0, ev1, evT, idxS, inC2, lm_get, q1, q2, endF, Rule.stepL, Tk.who, encW, Tk.calm]
  | got h =>
    simp only [Hs.ok, Bool.and_eq_true] at hk
    obtain ⟨f1, f2⟩ := hf h
    rw [hk.1] at f1
    have f2 := f2 hk.2
    obtain ⟨t, ht⟩ := Option.isSome_iff_exists.mp f1
    obtain ⟨⟨s0, a0⟩, hw⟩ := Option.isSome_iff_exists.mp f2
    have q2 := fun k => lm_setW (s := s) (k := k) (out := out) (h := h) (w := none)
    have q3 := fun k v => lm_set (s := s) (k := k) (out := out) (h := h) (v := some v)
    have g1 := lm_get (s := s) (k := k) (out := out) (h := h)
    rw [ht] at g1
    have g3 := lm_getW (s := s) (k := k) (out := out) (h := h)
    rw [hw] at g3
    simp only [encW, encO] at q2 q3 g1 g3
    have i43 := fun m => inC (h := h) (m := m) (x := 43) (by simp)
    cases a0 with
    | none =>
      simp [i_law_event, bodyI, s_law_event, startS, gu, Ev.enc, Ev.code, tyS, hc46, ev0, ev1, evT, idxS, i43, g1, g3, q2, endF, Rule.stepL, Tk.who, encW, Tk.calm, hw, encO]
    | some a =>
      cases c with
      | false => simp [i_law_event, bodyI, s_law_event, startS, gu, Ev.enc, Ev.code, tyS, hc46, ev0, ev1, evT, idxS, i43, g1, g3, q2, q3, endF, Rule.stepL, Tk.who, encW, Tk.calm, hw, encO]
      | true =>
        by_cases hts : s0 = t
        · subst hts
          simp [i_law_event, bodyI, s_law_event, startS, gu, Ev.enc, Ev.code, tyS, hc46, ev0, ev1, evT, idxS, i43, g1, g3, q2, q3, endF, Rule.stepL, Tk.who, encW, Tk.calm, hw, encO, ht]
        · have hts2 : ¬ t = s0 := fun z => hts z.symm
          simp [i_law_event, bodyI, s_law_event, startS, gu, Ev.enc, Ev.code, tyS, hc46, ev0, ev1, evT, idxS, i43, g1, g3, q2, q3, endF, Rule.stepL, Tk.who, encW, Tk.calm, hw, encO, ht, hts, hts2]
  | ask h =>
    have f1 := (hf h).1.trans hk
    obtain ⟨t, ht⟩ := Option.isSome_iff_exists.mp f1
    have ca := ca t (ha h t rfl ht)
    have g1 := lm_get (s := s) (k := k) (out := out) (h := h)
    rw [ht] at g1
    have q3 := fun s k v => lm_set (s := s) (k := k) (out := out) (h := h) (v := some v)
    simp only [encO] at g1 q3
    have i33 := fun m => inC (h := h) (m := m) (x := 33) (by simp)
    rcases hq : R.askL s t with ⟨a, S⟩
    rw [hq] at ca
    cases a <;> simp only [encO] at ca <;> simp [i_law_event, bodyI, s_law_event, startS, gu, Ev.enc, Ev.code, tyS, hc46, ev0, ev1, evT, idxS, i33, g1, ca, cI, q3, endF, Rule.stepL, Tk.who, encW, Tk.asked, encO, ht, hq]
  | drop h =>
    have f1 := (hf h).1.trans hk
    obtain ⟨t, ht⟩ := Option.isSome_iff_exists.mp f1
    have ca := ca t (ha h t rfl ht)
    have g1 := lm_get (s := s) (k := k) (out := out) (h := h)
    rw [ht] at g1
    simp only [encO] at g1
    have i33 := fun m => inC (h := h) (m := m) (x := 45) (by simp)
    rcases hq : R.askL s t with ⟨a, S⟩
    rw [hq] at ca
    simp [i_law_event, bodyI, s_law_event, startS, gu, Ev.enc, Ev.code, tyS, hc46, ev0, ev1, evT, idxS, i33, g1, ca, cI, endF, Rule.stepL, Tk.who, encW, Tk.asked, ht, hq]
  | late h =>
    have f1 := (hf h).1.trans hk
    obtain ⟨t, ht⟩ := Option.isSome_iff_exists.mp f1
    have ca := ca t (ha h t rfl ht)
    have g1 := lm_get (s := s) (k := k) (out := out) (h := h)
    rw [ht] at g1
    have q2 := fun s w => lm_setW (s := s) (k := k) (out := out) (h := h) (w := some (t, w))
    simp only [encO] at g1
    simp only [encW] at q2
    have i33 := fun m => inC (h := h) (m := m) (x := 126) (by simp)
    rcases hq : R.askL s t with ⟨a, S⟩
    rw [hq] at ca
    simp [i_law_event, bodyI, s_law_event, startS, gu, Ev.enc, Ev.code, tyS, hc46, ev0, ev1, evT, idxS, i33, g1, ca, cI, q2, endF, Rule.stepL, Tk.who, encW, Tk.asked, ht, hq]
def lawB : SS := (sExpr (eM .list mAppend (eVar 4) (aCons (eN (cI i_law_event) (aCons (eVar 0) (aCons (eVar 3) (aCons (eVar 5) (aCons (eVar 2) aNil))))) aNil)))
/-- what runs on, of the law -/
def Rule.GoodL (R : Rule) (I : Nat → Srv → Tk → Prop) (c : Bool) : Prop := ∀ j s k hs e, j < 100 → I j s k → k.fits hs → hs.ok e = true → SrvOk R s ∧ (∀ h t, Tk.who e = some h → k.get h = some t → TimesOk R s t) ∧ I (j + 1) (R.stepL c s k e).1 (R.stepL c s k e).2.1 ∧ (R.stepL c s k e).2.1.fits (hs.step e)
theorem lawc_loop {R : Rule} (c : Bool) (ev : PV) {I : Nat → Srv → Tk → Prop} (G : R.GoodL I c) : ∀ (es : List Ev) (j : Nat) (s : Srv) (k : Tk) (hs : Hs) (out : List PV) (x5 : Option PV), j + es.length ≤ 100 → I j s k → k.fits hs → hs.all es = true → out.length + es.length ≤ 100 →
    ∃ y5, forL (gName 5) lawB (es.map Ev.enc) [some R.enc, some ev, some (.bl c), some (.ref 3), some (.ref 4), x5] (lawM s k out) = .ok (.nx, [some R.enc, some ev, some (.bl c), some (.ref 3), some (.ref 4), y5], lawM (R.runL c s k es).2.1 (R.runL c s k es).2.2 (out ++ (R.runL c s k es).1.map encW))
  | [], j, s, k, hs, out, x5, _, _, _, _, _ => ⟨x5, by simp [Rule.runL]⟩
  | e :: es, j, s, k, hs, out, x5, hj, hI, hf, ha, hl => by
    simp only [Hs.all, Bool.and_eq_true] at ha
    simp only [List.length_cons] at hl hj
    obtain ⟨g1, g2, g3, g4⟩ := G j s k hs e (by omega) hI hf ha.1
    have e1 := event_ok (R := R) c s k hs e out g1 hf ha.1 g2
    rcases hq : R.stepL c s k e with ⟨s', k', p⟩
    rw [hq] at e1 g3 g4
    obtain ⟨y5, e2⟩ := lawc_loop c ev G es (j + 1) s' k' (hs.step e) (out ++ [encW p]) (some e.enc) (by omega) g3 g4 ha.2 (by rw [List.length_append, List.length_singleton]; omega)
    refine ⟨y5, ?_⟩
    have hr : R.runL c s k (e :: es) = (p :: (R.runL c s' k' es).1, (R.runL c s' k' es).2.1, (R.runL c s' k' es).2.2) := by
      rw [Rule.runL, hq]
    have ho : out.length < LINE := Nat.lt_of_le_of_lt (by omega : out.length ≤ 100) (by decide)
    rw [List.map_cons, forL_cons, hr]
    have hb : lawB [some R.enc, some ev, some (.bl c), some (.ref 3), some (.ref 4), some e.enc] (lawM s k out) = .ok (.nx, [some R.enc, some ev, some (.bl c), some (.ref 3), some (.ref 4), some e.enc], lawM s' k' (out ++ [encW p])) := by
      simp [lawB, lm_ty, cI, e1, lm_app ho]
    simp [hb]
    simpa using e2
theorem law_course_ok {R : Rule} (c : Bool) {I : Nat → Srv → Tk → Prop} (G : R.GoodL I c) (h0 : I 0 R.server tk0) {es : List Ev} (ha : hs0.all es = true) (hl : es.length ≤ 40) :
    f_law_course [R.enc, .tup (es.map Ev.enc), .bl c] = .ok (.tup [.vl ((R.runL c R.server tk0 es).1.map encW), .vl [.vl (R.runL c R.server tk0 es).2.1.items, .vl (R.runL c R.server tk0 es).2.2.toks, .vl (R.runL c R.server tk0 es).2.2.wts]]) := by
  obtain ⟨y5, e⟩ := lawc_loop c (.tup (es.map Ev.enc)) G es 0 R.server tk0 hs0 [] none (by omega) h0 tk0_fits ha (by simp; omega)
  have iw : i_law_world [R.enc] [] = .ok (.ref 3, [R.server.ob, .lst tk0.toks, .lst tk0.wts, .lst [.ref 0, .ref 1, .ref 2]]) := rfl
  have sl : s_law_course = (sSeq (sPar2 3 4 (aCons (eN (cI i_law_world) (aCons (eVar 0) aNil)) (aCons (eLstM aNil) aNil)))
    (sSeq (sFor (iT (eVar 1)) (TT.gName 5) lawB)
    (sRet (eTup (aCons (eVar 4) (aCons (eVar 3) aNil)))))) := rfl
  have e' : forL (gName 5) lawB (es.map Ev.enc) [some R.enc, some (.tup (es.map Ev.enc)), some (.bl c), some (.ref 3), some (.ref 4), none] [R.server.ob, .lst tk0.toks, .lst tk0.wts, .lst [.ref 0, .ref 1, .ref 2], .lst []] = .ok (.nx, [some R.enc, some (.tup (es.map Ev.enc)), some (.bl c), some (.ref 3), some (.ref 4), y5], lawM (R.runL c R.server tk0 es).2.1 (R.runL c R.server tk0 es).2.2 ([] ++ (R.runL c R.server tk0 es).1.map encW)) := e
  have hz : ∀ (s : Srv) (k : Tk) (out : List PV), pus out = true → Rs.ofO (frz 4 (lawM s k out) (.tup [.ref 4, .ref 3])) = .ok (.tup [.vl out, .vl [.vl s.items, .vl k.toks, .vl k.wts]]) := fun s k out ho => by
    have hi : pus s.items = true := by simp [Srv.items, pus_ints, encO_pu]
    have eW : ∀ p : Pair, (encW p).pu = true := fun p => by
      have := encWs_pu [p]
      simpa using this
    have hw : pus k.wts = true := by simp [Tk.wts, eW]
    have h4 : frz 3 (lawM s k out) (.ref 4) = some (.vl out) := frz_ref rfl ho
    have h0 : frz 2 (lawM s k out) (.ref 0) = some (.vl s.items) := frz_ref rfl hi
    have h1 : frz 2 (lawM s k out) (.ref 1) = some (.vl k.toks) := frz_ref rfl (toks_pu k)
    have h2 : frz 2 (lawM s k out) (.ref 2) = some (.vl k.wts) := frz_ref rfl hw
    have h3 : frz 3 (lawM s k out) (.ref 3) = some (.vl [.vl s.items, .vl k.toks, .vl k.wts]) := by
      have g3 : (lawM s k out)[3]? = some (.lst [.ref 0, .ref 1, .ref 2]) := rfl
      rw [show (3 : Nat) = 2 + 1 from rfl]
      unfold frz
      rw [if_neg (by simp [PV.pu])]
      simp only [g3, frz.frzs, h0, h1, h2, Option.map_some]
    rw [frz_tup (ys := [.vl out, .vl [.vl s.items, .vl k.toks, .vl k.wts]]) (by simp only [frz.frzs, h4, h3]) (fun h => by simp [PV.pu] at h)]
    rfl
  simp only [f_law_course, bodyP, bodyI, sl, startS]
  simp [cI, iw, sFor_ap, e', endF, hz, encWs_pu]
end TT
end

section
set_option linter.all false
set_option autoImplicit false
namespace TT
/-! ### the program's stands and the law's server go together -/
def ageOf (l : Int) (s : Srv) (j : Nat) : Int := if (j : Int) < s.newest then (if l + 1 < s.now - (s.times[(s.newest - j).toNat]?).getD 0 then l + 1 else s.now - (s.times[(s.newest - j).toNat]?).getD 0) else l + 1
structure Live (R : Rule) (st : Stand) (s : Srv) : Prop where
  lead : R.strict = true → st.lead = if R.keep + 1 < s.newest - s.top then R.keep + 1 else s.newest - s.top
  top : s.top ≤ s.newest
  ages : ∀ l, R.leeway = some l → (st.ages.length : Int) = R.keep ∧ ∀ j : Nat, (j : Int) < R.keep → st.ages[j]? = some (ageOf l s j)
  none : R.leeway = none → st.ages = []
  spare : ∀ p, R.spare = some p → s.cred = some st.spared ∧ 0 ≤ st.spared ∧ st.spared ≤ p ∧ st.counted = s.seen ∧ 0 ≤ s.seen ∧ s.seen < R.every
structure Sim (R : Rule) (st : Stand) (s : Srv) : Prop where
  over : st.over = s.over
  n0 : 0 ≤ s.newest
  tl : (s.times.length : Int) = s.newest + 1
  cred : R.spare.isSome = s.cred.isSome
  al : st.ages.length ≤ 2
  live : s.over = false → Live R st s
theorem sim_first {R : Rule} (ok : R.Ok) : Sim R R.first R.server := by
  obtain ⟨keep, new, strict, leeway, spare, every, fin⟩ := R
  obtain ⟨⟨a0, a1⟩, b, c, ⟨d0, d1⟩⟩ := ok
  simp only at a0 a1 b c d0 d1
  refine ⟨rfl, (by show (0 : Int) ≤ 0; decide), (by show ((([0] : List Int).length : Nat) : Int) = 0 + 1; decide), rfl, ?_, fun _ => ⟨?_, (by show (-1 : Int) ≤ 0; decide), ?_, ?_, ?_⟩⟩
  · cases leeway with
    | none => simp [Rule.first]
    | some l => simp [Rule.first]; omega
  · intro h
    simp only at h
    show (if strict = true then (1 : Int) else 0) = if keep + 1 < 0 - -1 then keep + 1 else 0 - -1
    rw [if_pos h, if_neg (by omega)]; rfl
  · intro l hl
    simp only at hl
    subst hl
    refine ⟨by simp [Rule.first]; omega, fun j hj => ?_⟩
    simp only at hj
    have : j < keep.toNat := by omega
    show (List.replicate keep.toNat (l + 1))[j]? = some (if (j : Int) < 0 then _ else l + 1)
    rw [List.getElem?_replicate, if_pos this, if_neg (by omega)]
  · intro h
    simp only at h
    simp [Rule.first, h]
  · intro p hp
    simp only at hp
    subst hp
    rcases c with c | ⟨i, c, c0, c1⟩
    · cases c
    · cases c
      exact ⟨rfl, c0, by simp [Rule.first], rfl, (by show (0 : Int) ≤ 0; decide), by simp only [Rule.server]; omega⟩
theorem sim_tick {R : Rule} {st : Stand} {s : Srv} (h : Sim R st s) : Sim R (R.tick st) { s with now := s.now + 1 } := by
  obtain ⟨h1, h2, h3, h4, h5, h6⟩ := h
  have hov : (R.tick st).over = st.over := by
    unfold Rule.tick
    cases R.leeway with
    | none => rfl
    | some l => by_cases ho : st.over = true <;> simp [ho]
  have hal : (R.tick st).ages.length = st.ages.length := by
    unfold Rule.tick
    cases R.leeway with
    | none => rfl
    | some l => by_cases ho : st.over = true <;> simp [ho]
  refine ⟨hov.trans h1, h2, h3, h4, by rw [hal]; exact h5, fun ho => ?_⟩
  have L := h6 ho
  have ho' : st.over = false := h1.trans ho
  cases hw : R.leeway with
  | none =>
    have : R.tick st = st := by unfold Rule.tick; rw [hw]
    rw [this]
    exact ⟨L.lead, L.top, fun l hl => (by rw [hw] at hl; cases hl), L.none, L.spare⟩
  | some l =>
    have ht : R.tick st = ⟨false, st.lead, st.ages.map fun a => if l + 1 < a + 1 then l + 1 else a + 1, st.spared, st.counted⟩ := by unfold Rule.tick; rw [hw]; simp [ho']
    rw [ht]
    refine ⟨L.lead, L.top, fun l' hl => ?_, fun h => (by rw [hw] at h; cases h), L.spare⟩
    rw [hw] at hl
    cases hl
    obtain ⟨a1, a2⟩ := L.ages l hw
    refine ⟨by simpa using a1, fun j hj => ?_⟩
    rw [List.getElem?_map, a2 j hj]
    simp only [Option.map_some, ageOf]
    congr 1
    split
    · generalize (s.times[(s.newest - j).toNat]?).getD 0 = g
      split <;> split <;> split <;> omega
    · split <;> omega
theorem ages_new {R : Rule} {st : Stand} {s s' : Srv} (hn0 : 0 ≤ s.newest) (tl : (s.times.length : Int) = s.newest + 1) (l : Int) (hl0 : 0 ≤ l) (a1 : (st.ages.length : Int) = R.keep) (a2 : ∀ j : Nat, (j : Int) < R.keep → st.ages[j]? = some (ageOf l s j)) (hn : s'.newest = s.newest + 1) (ht : s'.times = s.times ++ [s.now]) (hw : s'.now = s.now) :
    ((((0 :: st.ages).take st.ages.length).length : Nat) : Int) = R.keep ∧ ∀ j : Nat, (j : Int) < R.keep → ((0 :: st.ages).take st.ages.length)[j]? = some (ageOf l s' j) := by
  refine ⟨by simp [List.length_take]; omega, fun j hj => ?_⟩
  rw [List.getElem?_take, if_pos (by omega)]
  cases j with
  | zero =>
    rw [List.getElem?_cons_zero]
    unfold ageOf
    rw [hn, ht, hw, if_pos (by omega)]
    have : ((s.times ++ [s.now])[(s.newest + 1 - ((0 : Nat) : Int)).toNat]?).getD 0 = s.now := by
      have e : (s.newest + 1 - ((0 : Nat) : Int)).toNat = s.times.length := by omega
      rw [e, List.getElem?_append_right (Nat.le_refl _)]; simp
    rw [this, if_neg (by omega)]
    congr 1; omega
  | succ j =>
    rw [List.getElem?_cons_succ, a2 j (by omega)]
    unfold ageOf
    rw [hn, ht, hw]
    have e : (s.newest + 1 - ((j + 1 : Nat) : Int)) = s.newest - j := by omega
    rw [e]
    by_cases hj2 : (j : Int) < s.newest
    · have c2 : ((j + 1 : Nat) : Int) < s.newest + 1 := by omega
      rw [if_pos hj2, if_pos c2]
      have : (s.times ++ [s.now])[(s.newest - (j : Int)).toNat]? = s.times[(s.newest - (j : Int)).toNat]? := List.getElem?_append_left (by omega)
      rw [this]
    · rw [if_neg hj2, if_neg (by omega)]
/-- what the ages and the times must have -/
theorem sim_ages {R : Rule} {st : Stand} {s : Srv} (h : Sim R st s) {t : Int} (t0 : 0 ≤ t) (t1 : t ≤ s.newest) : AgesOk R st s.newest t ∧ TimesOk R s t := by
  refine ⟨fun ho hd hk l hl => ?_, fun ho hd hk l hl => ?_⟩
  · have L := h.live (h.over.symm.trans ho)
    have := (L.ages l hl).1
    omega
  · have := h.tl
    omega
/-- the same answers -/
theorem good_eq {R : Rule} {st : Stand} {s : Srv} (ok : R.Ok) (h : Sim R st s) {t : Int} (t0 : 0 ≤ t) (t1 : t ≤ s.newest) : R.good st (if R.keep + 1 < s.newest - t then R.keep + 1 else s.newest - t) = R.accepts s t := by
  have k0 := ok.keep.1
  unfold Rule.good Rule.accepts
  rw [h.over]
  cases ho : s.over with
  | true => rfl
  | false =>
    have L := h.live ho
    by_cases hk : s.newest - t ≤ R.keep
    · rw [if_neg (by omega : ¬ R.keep + 1 < s.newest - t)]
      by_cases hd : t = s.newest
      · subst hd; simp
      · have hd1 : (s.newest - t == 0) = false := beq_eq_false_iff_ne.mpr (by omega)
        have hd2 : (t == s.newest) = false := beq_eq_false_iff_ne.mpr hd
        have e1 : (!R.strict || decide (s.newest - t ≤ st.lead)) = (!R.strict || decide (s.top ≤ t)) := by
          cases hs : R.strict with
          | false => rfl
          | true =>
            have := L.lead hs
            have : (s.newest - t ≤ st.lead) ↔ (s.top ≤ t) := by rw [this]; split <;> omega
            simp [this]
        have e2 : lwOk R.leeway ((st.ages[(s.newest - t - 1).toNat]?).getD 0) = lwOk R.leeway (s.now - (s.times[(t + 1).toNat]?).getD 0) := by
          cases hw : R.leeway with
          | none => rfl
          | some l =>
            have a := (L.ages l hw).2 (s.newest - t - 1).toNat (by omega)
            simp only [lwOk, a, Option.getD_some, ageOf]
            have i1 : ((s.newest - t - 1).toNat : Int) = s.newest - t - 1 := by omega
            rw [i1, if_pos (by omega)]
            have i2 : s.newest - (s.newest - t - 1) = t + 1 := by omega
            rw [i2]
            generalize (s.times[(t + 1).toNat]?).getD 0 = g
            have : ((if l + 1 < s.now - g then l + 1 else s.now - g) ≤ l) ↔ (s.now - g ≤ l) := by split <;> omega
            simp [this]
        have e3 : (R.spare.isNone || decide (0 < st.spared)) = (R.spare.isNone || decide (0 < s.cred.getD 0)) := by
          cases hp : R.spare with
          | none => rfl
          | some p =>
            obtain ⟨c1, _⟩ := L.spare p hp
            simp [c1]
        rw [hd1, hd2, e1, e2, e3]
    · have hd2 : (t == s.newest) = false := beq_eq_false_iff_ne.mpr (by omega)
      have : (R.keep + 1 == 0) = false := beq_eq_false_iff_ne.mpr (by omega)
      have e4 : ∀ x, x = R.keep + 1 ∨ x = s.newest - t → R.keep < x → (x == 0) = false := fun x _ hx => beq_eq_false_iff_ne.mpr (by omega)
      have k1 : ¬ R.keep + 1 ≤ R.keep := by omega
      split
      · simp [this, hd2, hk, k1]
      · have : (s.newest - t == 0) = false := beq_eq_false_iff_ne.mpr (by omega)
        simp [this, hd2, hk]
theorem sim_ask {R : Rule} {st : Stand} {s : Srv} (ok : R.Ok) (h : Sim R st s) {t : Int} (t0 : 0 ≤ t) (t1 : t ≤ s.newest) :
    (R.answer st s.newest t).2.1 = (R.askL s t).2.newest ∧ (R.answer st s.newest t).2.2 = (R.askL s t).1 ∧ Sim R (R.answer st s.newest t).1 (R.askL s t).2 ∧ s.newest ≤ (R.askL s t).2.newest ∧ (R.askL s t).2.newest ≤ s.newest + 1 ∧ ((R.askL s t).1 = none ∨ (R.askL s t).1 = some (R.askL s t).2.newest) := by
  have ge := good_eq ok h t0 t1
  have k0 := ok.keep.1
  obtain ⟨o, ho⟩ : ∃ o, o = if R.keep + 1 < s.newest - t then R.keep + 1 else s.newest - t := ⟨_, rfl⟩
  have ha : R.answer st s.newest t = (match R.req st o with
    | (a, .refused) => (a, s.newest, none)
    | (a, .made) => (a, s.newest + 1, some (s.newest + 1))
    | (a, .newest) => (a, s.newest, some s.newest)) := by rw [ho]; rfl
  rw [← ho] at ge
  by_cases g : R.good st o = true
  · have g2 : R.accepts s t = true := ge.symm.trans g
    have hov : s.over = false := by
      unfold Rule.accepts at g2
      cases hv : s.over with
      | false => rfl
      | true => rw [hv] at g2; simp at g2
    have L := h.live hov
    by_cases hd : t = s.newest
    · subst hd
      have o0 : o = 0 := by rw [ho, if_neg (by omega)]; omega
      subst o0
      have hm : R.made s s.newest = { s with newest := s.newest + 1, times := s.times ++ [s.now], top := if s.newest > s.top then s.newest else s.top } := by simp [Rule.made]
      have htop : (if s.newest > s.top then s.newest else s.top) = s.newest := by have := L.top; split <;> omega
      have hlead : ∀ S : Srv, S.newest = s.newest + 1 → S.top = s.newest → (if R.strict then (if R.keep + 1 < (0 : Int) + 1 then R.keep + 1 else 0 + 1) else 0) = (if R.strict then (if R.keep + 1 < S.newest - S.top then R.keep + 1 else S.newest - S.top) else 0) := fun S h1 h2 => by
        rw [h1, h2]; split
        · split <;> split <;> omega
        · rfl
      have mk : ∀ (sp cn : Int) (S : Srv), S.over = false → S.newest = s.newest + 1 → S.top = s.newest → S.times = s.times ++ [s.now] → S.now = s.now → R.spare.isSome = S.cred.isSome → (∀ p, R.spare = some p → S.cred = some sp ∧ 0 ≤ sp ∧ sp ≤ p ∧ cn = S.seen ∧ 0 ≤ S.seen ∧ S.seen < R.every) → Sim R (R.withTok 0 st.ages sp cn) S := by
        intro sp cn S e1 e2 e3 e4 e5 e6 e7
        refine ⟨e1.symm, by rw [e2]; have := h.n0; omega, by rw [e4, e2, List.length_append]; have := h.tl; simp; omega, e6, ?_, fun _ => ⟨?_, by rw [e2, e3]; omega, ?_, ?_, e7⟩⟩
        · simp only [Rule.withTok, List.length_take]; have := h.al; omega
        · intro hs
          have := hlead S e2 e3
          rw [if_pos hs, if_pos hs] at this
          simp only [Rule.withTok]
          rw [if_pos hs]; exact this
        · intro l hl
          have hl0 : 0 ≤ l := by rcases ok.leeway with z | ⟨i, z, z0, z1⟩ <;> rw [hl] at z <;> cases z; exact z0
          obtain ⟨a1, a2⟩ := L.ages l hl
          exact ages_new h.n0 h.tl l hl0 a1 a2 e2 e4 e5
        · intro hn
          simp only [Rule.withTok, L.none hn]; rfl
      cases hs : R.spare with
      | none =>
        have hr : R.req st 0 = (R.withTok 0 st.ages st.spared st.counted, .made) := by unfold Rule.req; rw [if_pos g, if_pos rfl, hs]
        rw [ha, hr]
        have c0 : s.cred = none := by have := h.cred; rw [hs] at this; cases hq : s.cred with | none => rfl | some _ => rw [hq] at this; cases this
        by_cases he : s.seen + 1 = R.every
        · have hq : R.askL s s.newest = (some (s.newest + 1), { s with newest := s.newest + 1, times := s.times ++ [s.now], top := if s.newest > s.top then s.newest else s.top, seen := 0, cred := none }) := by
            unfold Rule.askL; rw [if_pos g2]; simp only [hm, he, if_true, hs]
          rw [hq]
          exact ⟨rfl, rfl, mk _ _ _ hov rfl htop rfl rfl (by rw [hs]) (fun p hp => by rw [hs] at hp; cases hp), by show s.newest ≤ s.newest + 1; omega, Int.le_refl _, .inr rfl⟩
        · have hq : R.askL s s.newest = (some (s.newest + 1), { s with newest := s.newest + 1, times := s.times ++ [s.now], top := if s.newest > s.top then s.newest else s.top, seen := s.seen + 1 }) := by
            unfold Rule.askL; rw [if_pos g2]; simp only [hm, if_true, if_neg he]
          rw [hq]
          exact ⟨rfl, rfl, mk _ _ _ hov rfl htop rfl rfl (by rw [hs]; show _ = s.cred.isSome; rw [c0]) (fun p hp => by rw [hs] at hp; cases hp), by show s.newest ≤ s.newest + 1; omega, Int.le_refl _, .inr rfl⟩
      | some p =>
        obtain ⟨c1, c2, c3, c4, c5, c6⟩ := L.spare p hs
        have hev := ok.every.1
        obtain ⟨cn, hcn⟩ : ∃ cn, cn = (st.counted + 1) % R.every := ⟨_, rfl⟩
        obtain ⟨sp, hsp⟩ : ∃ sp, sp = (if st.spared + b2i (cn == 0) < p then st.spared + b2i (cn == 0) else p) := ⟨_, rfl⟩
        have hr : R.req st 0 = (R.withTok 0 st.ages sp cn, .made) := by
          unfold Rule.req; rw [if_pos g, if_pos rfl, hs, hsp, hcn]
        rw [ha, hr]
        by_cases he : s.seen + 1 = R.every
        · have hc0 : cn = 0 := by rw [hcn, c4, he]; exact Int.emod_self
          have hsp2 : sp = if st.spared + 1 < p then st.spared + 1 else p := by rw [hsp, hc0]; rfl
          have hq : R.askL s s.newest = (some (s.newest + 1), { s with newest := s.newest + 1, times := s.times ++ [s.now], top := if s.newest > s.top then s.newest else s.top, seen := 0, cred := some (if st.spared + 1 < p then st.spared + 1 else p) }) := by
            unfold Rule.askL; rw [if_pos g2]; simp only [hm, he, if_true, hs, c1, Option.getD_some]
          rw [hq]
          refine ⟨rfl, rfl, mk _ _ _ hov rfl htop rfl rfl (by rw [hs]; rfl) (fun p' hp => ?_), by show s.newest ≤ s.newest + 1; omega, Int.le_refl _, .inr rfl⟩
          rw [hs] at hp; cases hp
          refine ⟨by rw [hsp2], by rw [hsp2]; split <;> omega, by rw [hsp2]; split <;> omega, hc0, Int.le_refl _, by show (0 : Int) < R.every; omega⟩
        · have hcv : cn = s.seen + 1 := by rw [hcn, c4]; exact Int.emod_eq_of_lt (by omega) (by omega)
          have hc0 : (cn == 0) = false := beq_eq_false_iff_ne.mpr (by omega)
          have hsp2 : sp = st.spared := by rw [hsp, hc0]; show (if st.spared + 0 < p then st.spared + 0 else p) = st.spared; split <;> omega
          have hq : R.askL s s.newest = (some (s.newest + 1), { s with newest := s.newest + 1, times := s.times ++ [s.now], top := if s.newest > s.top then s.newest else s.top, seen := s.seen + 1 }) := by
            unfold Rule.askL; rw [if_pos g2]; simp only [hm, if_true, if_neg he]
          rw [hq]
          refine ⟨rfl, rfl, mk _ _ _ hov rfl htop rfl rfl (by rw [hs]; show _ = s.cred.isSome; rw [c1]; rfl) (fun p' hp => ?_), by show s.newest ≤ s.newest + 1; omega, Int.le_refl _, .inr rfl⟩
          rw [hs] at hp; cases hp
          exact ⟨by rw [hsp2]; exact c1, by omega, by omega, hcv, by show 0 ≤ s.seen + 1; omega, by show s.seen + 1 < R.every; omega⟩
    · have hd2 : (t == s.newest) = false := beq_eq_false_iff_ne.mpr hd
      have g3 := g2
      unfold Rule.accepts at g3
      simp only [hov, hd2, Bool.not_false, Bool.true_and, Bool.false_or, Bool.and_eq_true, decide_eq_true_eq, Bool.or_eq_true, Bool.not_eq_true'] at g3
      obtain ⟨⟨⟨hk, hst⟩, _⟩, hcr⟩ := g3
      have od : o = s.newest - t := by rw [ho, if_neg (by omega)]
      have o0 : ¬ o = 0 := by omega
      have hspare : ∀ p, R.spare = some p → 0 < st.spared := fun p hp => by
        obtain ⟨c1, _⟩ := L.spare p hp
        rcases hcr with z | z
        · rw [hp] at z; cases z
        · rw [c1] at z; exact z
      obtain ⟨top', htop⟩ : ∃ x, x = if t > s.top then t else s.top := ⟨_, rfl⟩
      have htop2 : top' ≤ s.newest := by have := L.top; rw [htop]; split <;> omega
      obtain ⟨ld, hld⟩ : ∃ x, x = if o < st.lead then o else st.lead := ⟨_, rfl⟩
      have hlead : R.strict = true → ld = s.newest - top' := fun hs => by
        have l1 := L.lead hs
        have l2 : s.top ≤ t := by rcases hst with z | z; · rw [hs] at z; cases z
                                  · exact z
        rw [hld, htop, l1, od]
        split <;> split <;> split <;> omega
      obtain ⟨sp, hsp⟩ : ∃ x, x = (match R.spare with | none => (0 : Int) | some _ => st.spared - 1) := ⟨_, rfl⟩
      obtain ⟨cr, hcr2⟩ : ∃ x, x = (match R.spare with | none => none | some _ => some (s.cred.getD 0 - 1)) := ⟨_, rfl⟩
      have hcs : R.spare.isSome = cr.isSome := by rw [hcr2]; cases R.spare <;> rfl
      have hsp2 : ∀ p, R.spare = some p → cr = some sp ∧ 0 ≤ sp ∧ sp ≤ p ∧ st.counted = s.seen ∧ 0 ≤ s.seen ∧ s.seen < R.every := fun p hp => by
        obtain ⟨c1, c2, c3, c4, c5, c6⟩ := L.spare p hp
        have := hspare p hp
        rw [hcr2, hsp, hp, c1]
        exact ⟨rfl, by show 0 ≤ st.spared - 1; omega, by show st.spared - 1 ≤ p; omega, c4, c5, c6⟩
      cases hn : R.new with
      | true =>
        have hm : R.made s t = { s with newest := s.newest + 1, times := s.times ++ [s.now], top := top' } := by simp [Rule.made, hn, htop]
        have hr : R.req st o = (R.withTok ld st.ages sp st.counted, .made) := by
          unfold Rule.req; rw [if_pos g, if_neg o0, hn, hld, hsp]; rfl
        have hq : R.askL s t = (some (s.newest + 1), { s with newest := s.newest + 1, times := s.times ++ [s.now], top := top', cred := cr }) := by
          unfold Rule.askL; rw [if_pos g2]; simp only [hm, if_neg hd, hcr2] <;> cases R.spare <;> rfl
        rw [ha, hr, hq]
        refine ⟨rfl, rfl, ⟨hov.symm, by show 0 ≤ s.newest + 1; have := h.n0; omega, by show ((s.times ++ [s.now]).length : Int) = s.newest + 1 + 1; rw [List.length_append]; have := h.tl; simp; omega, hcs, ?_, fun _ => ⟨fun hs => ?_, by show top' ≤ s.newest + 1; omega, fun l hl => ?_, fun hn => ?_, hsp2⟩⟩, by show s.newest ≤ s.newest + 1; omega, Int.le_refl _, .inr rfl⟩
        · simp only [Rule.withTok, List.length_take]; have := h.al; omega
        · have l1 := hlead hs
          show (if R.strict = true then (if R.keep + 1 < ld + 1 then R.keep + 1 else ld + 1) else 0) = if R.keep + 1 < s.newest + 1 - top' then R.keep + 1 else s.newest + 1 - top'
          rw [if_pos hs]; split <;> split <;> omega
        · have hl0 : 0 ≤ l := by rcases ok.leeway with z | ⟨i, z, z0, z1⟩ <;> rw [hl] at z <;> cases z; exact z0
          obtain ⟨a1, a2⟩ := L.ages l hl
          exact ages_new h.n0 h.tl l hl0 a1 a2 rfl rfl rfl
        · simp only [Rule.withTok, L.none hn]; rfl
      | false =>
        have hm : R.made s t = { s with top := top' } := by simp [Rule.made, hn, hd2, htop]
        have hr : R.req st o = (⟨false, ld, st.ages, sp, st.counted⟩, .newest) := by
          unfold Rule.req; rw [if_pos g, if_neg o0, hn, hld, hsp]; rfl
        have hq : R.askL s t = (some s.newest, { s with top := top', cred := cr }) := by
          unfold Rule.askL; rw [if_pos g2]; simp only [hm, if_neg hd, hcr2] <;> cases R.spare <;> rfl
        rw [ha, hr, hq]
        refine ⟨rfl, rfl, ⟨hov.symm, h.n0, h.tl, hcs, h.al, fun _ => ⟨fun hs => ?_, htop2, fun l hl => L.ages l hl, L.none, hsp2⟩⟩, Int.le_refl _, by show s.newest ≤ s.newest + 1; omega, .inr rfl⟩
        have l1 := hlead hs
        have l2 := L.lead hs
        show ld = if R.keep + 1 < s.newest - top' then R.keep + 1 else s.newest - top'
        rw [if_neg (by omega)]; exact l1
  · have g2 : ¬ R.accepts s t = true := by rw [← ge]; exact g
    have hr : R.req st o = ({ st with over := st.over || R.fin }, .refused) := by unfold Rule.req; rw [if_neg g]
    have hq : R.askL s t = (none, { s with over := s.over || R.fin }) := by unfold Rule.askL; rw [if_neg g2]
    rw [ha, hr, hq]
    refine ⟨rfl, rfl, ⟨by simp [h.over], h.n0, h.tl, h.cred, h.al, fun ho => ?_⟩, Int.le_refl _, by show s.newest ≤ s.newest + 1; omega, .inl rfl⟩
    simp only [Bool.or_eq_false_iff] at ho
    have L := h.live ho.1
    exact ⟨L.lead, L.top, L.ages, L.none, L.spare⟩
def TkOk (n : Int) (k : Tk) : Prop := ∀ h, (∀ t, k.get h = some t → 0 ≤ t ∧ t ≤ n) ∧ (∀ s a, k.getW h = some (s, some a) → 0 ≤ a ∧ a ≤ n)
theorem TkOk.up {n n' : Int} {k : Tk} (h : TkOk n k) (hn : n ≤ n') : TkOk n' k := fun b => ⟨fun t ht => ⟨((h b).1 t ht).1, Int.le_trans ((h b).1 t ht).2 hn⟩, fun s a ht => ⟨((h b).2 s a ht).1, Int.le_trans ((h b).2 s a ht).2 hn⟩⟩
section
variable {k : Tk} {n : Int} {h b : Bool} {v : Option Int} {w : Pair}
theorem get_setT : (k.setT h v).get b = if b = h then v else k.get b := by cases h <;> cases b <;> rfl
theorem getW_setT : (k.setT h v).getW b = k.getW b := by cases h <;> cases b <;> rfl
theorem get_setW : (k.setW h w).get b = k.get b := by cases h <;> cases b <;> rfl
theorem getW_setW : (k.setW h w).getW b = if b = h then w else k.getW b := by cases h <;> cases b <;> rfl
theorem TkOk.setT (o : TkOk n k) (hv : ∀ t, v = some t → 0 ≤ t ∧ t ≤ n) : TkOk n (k.setT h v) := fun b => by
  rw [get_setT, getW_setT]
  refine ⟨fun t ht => ?_, (o b).2⟩
  split at ht
  · exact hv t ht
  · exact (o b).1 t ht
theorem TkOk.setW (o : TkOk n k) (hv : ∀ s a, w = some (s, some a) → 0 ≤ a ∧ a ≤ n) : TkOk n (k.setW h w) := fun b => by
  rw [get_setW, getW_setW]
  refine ⟨(o b).1, fun s a ht => ?_⟩
  split at ht
  · exact hv s a ht
  · exact (o b).2 s a ht
theorem hs_has {s : Hs} {x : Bool} : (s.setH h x).has b = if b = h then x else s.has b := by cases h <;> cases b <;> rfl
theorem hs_hasW {s : Hs} {x : Bool} : (s.setW h x).has b = s.has b := by cases h <;> cases b <;> rfl
theorem hs_waits {s : Hs} {x : Bool} : (s.setW h x).waits b = if b = h then x else s.waits b := by cases h <;> cases b <;> rfl
theorem hs_waitsH {s : Hs} {x : Bool} : (s.setH h x).waits b = s.waits b := by cases h <;> cases b <;> rfl
end
theorem calm_ok {n : Int} {k : Tk} {hs : Hs} (c : Bool) (e : Ev) (hw : Tk.who e = none) (o : TkOk n k) (f : k.fits hs) (hk : hs.ok e = true) : TkOk n (k.calm c e) ∧ (k.calm c e).fits (hs.step e) := by
  cases e with
  | tick => exact ⟨o, f⟩
  | copy h =>
    refine ⟨TkOk.setW (TkOk.setT o fun t ht => (o h).1 t ht) fun s a z => (by cases z), fun b => ?_⟩
    simp only [Tk.calm, Hs.step, get_setW, getW_setW, get_setT, getW_setT, hs_hasW, hs_has, hs_waits, hs_waitsH]
    refine ⟨?_, fun hb => ?_⟩
    · split
      · exact (f h).1.trans hk
      · exact (f b).1
    · split
      · rename_i z; rw [if_pos z] at hb; cases hb
      · rename_i z; rw [if_neg z] at hb; exact (f b).2 hb
  | got h =>
    simp only [Hs.ok, Bool.and_eq_true] at hk
    have f0 : (k.setW h none).fits (hs.setW h false) := fun b => by
      simp only [get_setW, getW_setW, hs_hasW, hs_waits]
      refine ⟨(f b).1, fun hb => ?_⟩
      split
      · rename_i z; rw [if_pos z] at hb; cases hb
      · rename_i z; rw [if_neg z] at hb; exact (f b).2 hb
    have o0 : TkOk n (k.setW h none) := TkOk.setW o fun s a z => (by cases z)
    simp only [Tk.calm]
    split
    · rename_i s a hq
      split
      · refine ⟨TkOk.setT o0 fun t ht => (by cases ht; exact (o h).2 s a hq), fun b => ?_⟩
        have := f0 b
        rw [get_setT, getW_setT]
        refine ⟨?_, this.2⟩
        split
        · rename_i z; subst z; simp only [Hs.step, hs_hasW]; exact hk.1.symm
        · exact this.1
      · exact ⟨o0, f0⟩
    · exact ⟨o0, f0⟩
  | ask h => cases hw
  | drop h => cases hw
  | late h => cases hw
theorem asks_ok {n : Int} {k : Tk} {hs : Hs} (e : Ev) {h : Bool} {t : Int} (ans : Option Int) (hw : Tk.who e = some h) (o : TkOk n k) (f : k.fits hs) (hk : hs.ok e = true) (ha : ∀ a, ans = some a → 0 ≤ a ∧ a ≤ n) : TkOk n (k.asked t ans e) ∧ (k.asked t ans e).fits (hs.step e) := by
  cases e with
  | tick => cases hw
  | copy h => cases hw
  | got h => cases hw
  | drop h => exact ⟨o, f⟩
  | ask h =>
    cases ans with
    | none => exact ⟨o, f⟩
    | some a =>
      refine ⟨TkOk.setT o ha, fun b => ?_⟩
      simp only [Tk.asked, get_setT, getW_setT, Hs.step]
      refine ⟨?_, (f b).2⟩
      split
      · rename_i z; subst z; exact hk.symm
      · exact (f b).1
  | late h =>
    refine ⟨TkOk.setW o fun s a z => ?_, fun b => ?_⟩
    · cases z; exact ha a rfl
    · simp only [Tk.asked, get_setW, getW_setW, Hs.step, hs_hasW, hs_waits]
      refine ⟨(f b).1, fun hb => ?_⟩
      split
      · rfl
      · rename_i z; rw [if_neg z] at hb; exact (f b).2 hb
theorem sim_step {R : Rule} (ok : R.Ok) (c : Bool) {st : Stand} {s : Srv} {k : Tk} {hs : Hs} {e : Ev} (S : Sim R st s) (o : TkOk s.newest k) (f : k.fits hs) (hk : hs.ok e = true) :
    (R.stepP c st s.newest k e).2.1 = (R.stepL c s k e).1.newest ∧ (R.stepP c st s.newest k e).2.2 = (R.stepL c s k e).2 ∧ Sim R (R.stepP c st s.newest k e).1 (R.stepL c s k e).1 ∧ TkOk (R.stepL c s k e).1.newest (R.stepL c s k e).2.1 ∧ (R.stepL c s k e).2.1.fits (hs.step e) ∧ (R.stepL c s k e).1.newest ≤ s.newest + 1 := by
  have qc : Tk.who e = none → e ≠ .tick → R.stepP c st s.newest k e = (st, s.newest, k.calm c e, none) ∧ R.stepL c s k e = (s, k.calm c e, none) := fun h1 h2 => by
    cases e with
    | tick => exact absurd rfl h2
    | copy h => exact ⟨rfl, rfl⟩
    | got h => exact ⟨rfl, rfl⟩
    | ask h => cases h1
    | drop h => cases h1
    | late h => cases h1
  cases hw : Tk.who e with
  | none =>
    by_cases ht : e = .tick
    · subst ht
      exact ⟨rfl, rfl, sim_tick S, o, f, by show s.newest ≤ s.newest + 1; omega⟩
    · obtain ⟨q1, q2⟩ := qc hw ht
      obtain ⟨z1, z2⟩ := calm_ok c e hw o f hk
      rw [q1, q2]
      exact ⟨rfl, rfl, S, z1, z2, by show s.newest ≤ s.newest + 1; omega⟩
  | some h =>
    have hh : hs.has h = true := by
      cases e <;> cases hw <;> exact hk
    obtain ⟨t, ht⟩ := Option.isSome_iff_exists.mp ((f h).1.trans hh)
    obtain ⟨t0, t1⟩ := (o h).1 t ht
    obtain ⟨a1, a2, a3, a4, a5, a6⟩ := sim_ask ok S t0 t1
    have q1 : R.stepP c st s.newest k e = ((R.answer st s.newest t).1, (R.answer st s.newest t).2.1, k.asked t (R.answer st s.newest t).2.2 e, some (t, (R.answer st s.newest t).2.2)) := by unfold Rule.stepP; simp only [hw, ht]
    have q2 : R.stepL c s k e = ((R.askL s t).2, k.asked t (R.askL s t).1 e, some (t, (R.askL s t).1)) := by unfold Rule.stepL; simp only [hw, ht]
    obtain ⟨z1, z2⟩ := asks_ok (t := t) e (R.askL s t).1 hw (o.up a4) f hk (fun a ha => by
      have := S.n0
      rcases a6 with z | z <;> rw [z] at ha <;> cases ha
      exact ⟨by omega, Int.le_refl _⟩)
    rw [q1, q2, a2]
    exact ⟨a1, rfl, a3, z1, z2, a5⟩
theorem run_eq {R : Rule} (ok : R.Ok) (c : Bool) : ∀ (es : List Ev) (st : Stand) (s : Srv) (k : Tk) (hs : Hs), Sim R st s → TkOk s.newest k → k.fits hs → hs.all es = true → (R.runP c st s.newest k es).1 = (R.runL c s k es).1 ∧ (R.runP c st s.newest k es).2 = (R.runL c s k es).2.2
  | [], st, s, k, hs, _, _, _, _ => ⟨rfl, rfl⟩
  | e :: es, st, s, k, hs, S, o, f, ha => by
    simp only [Hs.all, Bool.and_eq_true] at ha
    obtain ⟨s1, s2, s3, s4, s5, s6⟩ := sim_step ok c S o f ha.1
    have r1 : R.runP c st s.newest k (e :: es) = ((R.stepP c st s.newest k e).2.2.2 :: (R.runP c (R.stepP c st s.newest k e).1 (R.stepP c st s.newest k e).2.1 (R.stepP c st s.newest k e).2.2.1 es).1, (R.runP c (R.stepP c st s.newest k e).1 (R.stepP c st s.newest k e).2.1 (R.stepP c st s.newest k e).2.2.1 es).2) := rfl
    have r2 : R.runL c s k (e :: es) = ((R.stepL c s k e).2.2 :: (R.runL c (R.stepL c s k e).1 (R.stepL c s k e).2.1 es).1, (R.runL c (R.stepL c s k e).1 (R.stepL c s k e).2.1 es).2.1, (R.runL c (R.stepL c s k e).1 (R.stepL c s k e).2.1 es).2.2) := rfl
    obtain ⟨t1, t2⟩ := run_eq ok c es _ _ _ _ s3 s4 s5 ha.2
    rw [r1, r2, s1, s2]
    exact ⟨by rw [t1], t2⟩
theorem tk0_ok : TkOk 0 tk0 := fun h => by
  cases h
  · exact ⟨fun t ht => (by cases ht; exact ⟨Int.le_refl _, Int.le_refl _⟩), fun s a z => (by cases z)⟩
  · exact ⟨fun t ht => (by cases ht), fun s a z => (by cases z)⟩
/-- the program runs on -/
theorem good_p {R : Rule} (ok : R.Ok) (c : Bool) : R.Good (fun st n k => ∃ s, n = s.newest ∧ Sim R st s ∧ TkOk n k) c := fun st n k hs e ⟨s, hn, S, o⟩ f hk => by
  subst hn
  obtain ⟨s1, s2, s3, s4, s5, s6⟩ := sim_step ok c S o f hk
  refine ⟨Nat.le_trans S.al (by decide), fun h t _ ht => ?_, ⟨_, s1, s3, by rw [s1, s2]; exact s4⟩, by rw [s2]; exact s5⟩
  obtain ⟨t0, t1⟩ := (o h).1 t ht
  exact (sim_ages S t0 t1).1
theorem good_l {R : Rule} (ok : R.Ok) (c : Bool) : R.GoodL (fun j s k => ∃ st, Sim R st s ∧ TkOk s.newest k ∧ s.newest ≤ j) c := fun j s k hs e hj ⟨st, S, o, hm⟩ f hk => by
  obtain ⟨s1, s2, s3, s4, s5, s6⟩ := sim_step ok c S o f hk
  refine ⟨⟨S.cred, ?_⟩, fun h t _ ht => ?_, ⟨_, s3, s4, ?_⟩, s5⟩
  · have := S.tl; omega
  · obtain ⟨t0, t1⟩ := (o h).1 t ht
    exact (sim_ages S t0 t1).2
  · push_cast; omega
end TT
end

section
set_option linter.all false
set_option autoImplicit false
namespace TT
/-! ### histories, as the law draws them -/
def sAlone : List Nat := [97, 108, 111, 110, 101]
def sPlain : List Nat := [112, 108, 97, 105, 110]
def sAll : List Nat := [97, 108, 108]
/-- 0 alone, 1 plain, 2 all -/
def kindS : Fin 3 → List Nat
  | 0 => sAlone
  | 1 => sPlain
  | 2 => sAll
def nextOf (has waits alone plain h : Bool) : List Ev :=
  if has && (!h || !alone) then [.ask h, .ask h, .drop h] ++ (if plain then [] else .late h :: if waits then [.got h] else []) ++ (if alone then [] else [.copy h]) else []
def nextEv (s : Hs) (alone plain : Bool) : List Ev := .tick :: (nextOf s.a s.wa alone plain false ++ nextOf s.b s.wb alone plain true)
theorem next_fits (s : Hs) (alone plain : Bool) : ∀ e ∈ nextEv s alone plain, s.ok e = true := by
  obtain ⟨a, b, wa, wb⟩ := s
  cases a <;> cases b <;> cases wa <;> cases wb <;> cases alone <;> cases plain <;> (intro e he; simp [nextEv, nextOf] at he; rcases he with rfl | he <;> (try rfl) <;> (repeat (rcases he with rfl | he <;> (try rfl))) <;> (try subst he) <;> (try rfl))
theorem next_len (s : Hs) (alone plain : Bool) : 0 < ((nextEv s alone plain).map Ev.enc).length ∧ ((nextEv s alone plain).map Ev.enc).length ≤ 13 := by
  obtain ⟨a, b, wa, wb⟩ := s
  cases a <;> cases b <;> cases wa <;> cases wb <;> cases alone <;> cases plain <;> exact ⟨by decide, by decide⟩
set_option maxHeartbeats 4000000 in
theorem next_ok {s : Hs} {m : Mm} {t w : Nat} (kd : List Nat) (alone plain : Bool) (ha : (!(kd == sAlone)) = !alone) (hp : (!(kd == sPlain)) = !plain) (h1 : m[t]? = some (.lst [.bl s.a, .bl s.b])) (h2 : m[w]? = some (.lst [.bl s.wa, .bl s.wb])) :
    i_law_next_events [.ref t, .ref w, .str kd] m = .ok (.vl ((nextEv s alone plain).map Ev.enc), m) := by
  have t0 : oIx (.ref t) (.int 0) m = .ok (.bl s.a, m) := oIx_ref h1 rfl
  have t1 : oIx (.ref t) (.int 1) m = .ok (.bl s.b, m) := oIx_ref h1 rfl
  have w0 : oIx (.ref w) (.int 0) m = .ok (.bl s.wa, m) := oIx_ref h2 rfl
  have w1 : oIx (.ref w) (.int 1) m = .ok (.bl s.wb, m) := oIx_ref h2 rfl
  have c0 : oIx (.str [97, 98]) (.int 0) m = .ok (.str [97], m) := rfl
  have c1 : oIx (.str [97, 98]) (.int 1) m = .ok (.str [98], m) := rfl
  have sl0 : oSlice (some 0) (some 1) (.vl [.str [97, 98], .str [98, 97]]) m = .ok (.vl [.str [97, 98]], m) := rfl
  have sl1 : oSlice (some 1) (some 2) (.vl [.str [97, 98], .str [98, 97]]) m = .ok (.vl [.str [98, 97]], m) := rfl
  have mu : ∀ (x : List Nat) (b : Bool), oMul (.vl [.str x]) (.int (b2i b)) m = .ok (.vl (if b then [.str x] else []), m) := fun x b => by cases b <;> rfl
  have na : ∀ m, oNe (.str kd) (.str [97, 108, 111, 110, 101]) m = .ok (.bl (!alone), m) := fun m => by rw [oNe_str]; exact congrArg (fun b => Rs.ok (PV.bl b, m)) ha
  have np : ∀ m, oNe (.str kd) (.str [112, 108, 97, 105, 110]) m = .ok (.bl (!plain), m) := fun m => by rw [oNe_str]; exact congrArg (fun b => Rs.ok (PV.bl b, m)) hp
  have rr : iRng1 (eC (.int 2)) = fun s m => .ok ([.int 0, .int 1], m) := by funext s m; rfl
  obtain ⟨a, b, wa, wb⟩ := s
  simp only at t0 t1 w0 w1
  simp only [i_law_next_events, bodyI, s_law_next_events, startS, rr, sFor_ap]
  cases a <;> cases b <;> cases wa <;> cases wb <;> cases alone <;> cases plain <;> simp [sFor_ap, forL_cons, t0, t1, w0, w1, c0, c1, sl0, sl1, mu, na, np, oAdd_vl, oAdd_str, LINE, endF, nextEv, nextOf, Ev.enc, Ev.code, hc]
end TT
end

section
set_option linter.all false
set_option autoImplicit false
namespace TT
def Hs.run (s : Hs) : List Ev → Hs
  | [] => s
  | e :: es => (s.step e).run es
theorem all_snoc : ∀ (es : List Ev) (s : Hs) (e : Ev), s.all es = true → (s.run es).ok e = true → s.all (es ++ [e]) = true
  | [], s, e, _, h => by simp [Hs.all]; exact h
  | x :: es, s, e, h1, h2 => by
    simp only [Hs.all, Bool.and_eq_true] at h1
    simp only [List.cons_append, Hs.all, Bool.and_eq_true]
    exact ⟨h1.1, all_snoc es (s.step x) e h1.2 h2⟩
theorem run_snoc : ∀ (es : List Ev) (s : Hs) (e : Ev), s.run (es ++ [e]) = (s.run es).step e
  | [], s, e => rfl
  | x :: es, s, e => run_snoc es (s.step x) e
def histT : SS := (sSeq (sAsg (eN (cI i_law_of) (aCons (eVar 0) (aCons (eN (cI i_law_next_events) (aCons (eVar 4) (aCons (eVar 5) (aCons (eVar 2) aNil)))) aNil))) (TT.gName 7))
  (sSeq (sExpr (eM .list mAppend (eVar 3) (aCons (eVar 7) aNil)))
  (sIf (tV (e2 (oIn false) (eVar 7) (eLst (aCons (eC (.str [97, 98])) (aCons (eC (.str [98, 97])) aNil))))) (sSeq (sAsg (eC (.bl true)) (TT.gSub (eVar 4) (eM .str mIndexS (eC (.str [98, 97])) (aCons (e2 oIx (eVar 7) (eC (.int 0))) aNil))))
  (sAsg (eC (.bl false)) (TT.gSub (eVar 5) (eM .str mIndexS (eC (.str [98, 97])) (aCons (e2 oIx (eVar 7) (eC (.int 0))) aNil))))) (sIf (tAnd (tV (e2 (oIn false) (e2 oIx (eVar 7) (eC (.int 1))) (eC (.str [126, 43])))) (tV (e2 oNe (eVar 7) (eC (.str [46, 46]))))) (sAsg (e2 oEq (e2 oIx (eVar 7) (eC (.int 1))) (eC (.str [126]))) (TT.gSub (eVar 5) (eM .str mIndexS (eC (.str [97, 98])) (aCons (e2 oIx (eVar 7) (eC (.int 0))) aNil)))) sSkip))))
/-- the memory while a history is drawn -/
structure HM (m : Mm) (b f : Nat) (es : List Ev) : Prop where
  bag : ∃ a s : Int, m[b]? = some (.lst [.int a, .int s])
  fnd : m[f]? = some (.lst (es.map Ev.enc))
  thr : m[f + 1]? = some (.lst [.bl (hs0.run es).a, .bl (hs0.run es).b])
  wts : m[f + 2]? = some (.lst [.bl (hs0.run es).wa, .bl (hs0.run es).wb])
  lt : b < f
theorem set_same {m : Mm} {i j : Nat} {o : Ob} (h : i ≠ j) : (m.set i o)[j]? = m[j]? := List.getElem?_set_ne h
theorem hist_turn2 {m : Mm} {b f : Nat} {es : List Ev} (kd : List Nat) (alone plain : Bool) (ha : (!(kd == sAlone)) = !alone) (hp : (!(kd == sPlain)) = !plain) (H : HM m b f es) (hall : hs0.all es = true) (hl : es.length < 100) (x1 x6 x7 : Option PV) :
    ∃ (e : Ev) (m' : Mm), histT [some (.ref b), x1, some (.str kd), some (.ref f), some (.ref (f + 1)), some (.ref (f + 2)), x6, x7] m = .ok (.nx, [some (.ref b), x1, some (.str kd), some (.ref f), some (.ref (f + 1)), some (.ref (f + 2)), x6, some e.enc], m') ∧ HM m' b f (es ++ [e]) ∧ hs0.all (es ++ [e]) = true := by
  obtain ⟨⟨a, s, hb⟩, h1, h2, h3, hlt⟩ := H
  have nx := next_ok kd alone plain ha hp h2 h3
  obtain ⟨n1, n2⟩ := next_len (hs0.run es) alone plain
  obtain ⟨x, hx, a', s', eo⟩ := of_ok (xs := (nextEv (hs0.run es) alone plain).map Ev.enc) hb n1 (by omega)
  obtain ⟨e, he, rfl⟩ := List.mem_map.mp hx
  have hok := next_fits _ _ _ e he
  have hall2 := all_snoc es hs0 e hall hok
  have hrun := run_snoc es hs0 e
  generalize hs0.run es = S at *
  obtain ⟨m1, hm1⟩ : ∃ m1, m1 = m.set b (.lst [.int a', .int s']) := ⟨_, rfl⟩
  rw [← hm1] at eo
  have k0 : m1[b]? = some (.lst [.int a', .int s']) := by rw [hm1]; exact getset1 hb
  have k1 : m1[f]? = some (.lst (es.map Ev.enc)) := by rw [hm1, set_same (by omega)]; exact h1
  have k2 : m1[f + 1]? = some (.lst [.bl S.a, .bl S.b]) := by rw [hm1, set_same (by omega)]; exact h2
  have k3 : m1[f + 2]? = some (.lst [.bl S.wa, .bl S.wb]) := by rw [hm1, set_same (by omega)]; exact h3
  have hlen : (es.map Ev.enc).length < LINE := by rw [List.length_map]; exact Nat.lt_trans hl (by decide)
  obtain ⟨m2, hm2⟩ : ∃ m2, m2 = m1.set f (.lst (es.map Ev.enc ++ [e.enc])) := ⟨_, rfl⟩
  have ap : mAppend (.ref f) [e.enc] m1 = .ok (.non, m2) := by rw [hm2]; exact mAppend_ref k1 hlen
  have q0 : m2[b]? = some (.lst [.int a', .int s']) := by rw [hm2, set_same (by omega)]; exact k0
  have q1 : m2[f]? = some (.lst ((es ++ [e]).map Ev.enc)) := by rw [hm2, getset1 k1, List.map_append]; rfl
  have q2 : m2[f + 1]? = some (.lst [.bl S.a, .bl S.b]) := by rw [hm2, set_same (by omega)]; exact k2
  have q3 : m2[f + 2]? = some (.lst [.bl S.wa, .bl S.wb]) := by rw [hm2, set_same (by omega)]; exact k3
  have pre : ∀ X : SS, sSeq (sAsg (eN (cI i_law_of) (aCons (eVar 0) (aCons (eN (cI i_law_next_events) (aCons (eVar 4) (aCons (eVar 5) (aCons (eVar 2) aNil)))) aNil))) (TT.gName 7)) (sSeq (sExpr (eM .list mAppend (eVar 3) (aCons (eVar 7) aNil))) X) [some (.ref b), x1, some (.str kd), some (.ref f), some (.ref (f + 1)), some (.ref (f + 2)), x6, x7] m = X [some (.ref b), x1, some (.str kd), some (.ref f), some (.ref (f + 1)), some (.ref (f + 2)), x6, some e.enc] m2 := fun X => by
    simp [cI, nx, eo, tyOk_ref k1, ap]
  have sT : ∀ (h v : Bool), oSet (.ref (f + 1)) (.int (b2i h)) (.bl v) m2 = .ok (m2.set (f + 1) (.lst [.bl (S.setH h v).a, .bl (S.setH h v).b])) := fun h v => by
    cases h
    · exact oSet_ref (k := 0) (j := 0) q2 rfl
    · exact oSet_ref (k := 1) (j := 1) q2 rfl
  have sW : ∀ (m : Mm) (h v : Bool), m[f + 2]? = some (.lst [.bl S.wa, .bl S.wb]) → oSet (.ref (f + 2)) (.int (b2i h)) (.bl v) m = .ok (m.set (f + 2) (.lst [.bl (S.setW h v).wa, .bl (S.setW h v).wb])) := fun m h v hm => by
    cases h
    · exact oSet_ref (k := 0) (j := 0) hm rfl
    · exact oSet_ref (k := 1) (j := 1) hm rfl
  have fin : ∀ (m' : Mm), m'[b]? = m2[b]? → m'[f]? = m2[f]? → m'[f + 1]? = some (.lst [.bl (S.step e).a, .bl (S.step e).b]) → m'[f + 2]? = some (.lst [.bl (S.step e).wa, .bl (S.step e).wb]) → HM m' b f (es ++ [e]) := fun m' z0 z1 z2 z3 =>
    ⟨⟨a', s', z0.trans q0⟩, z1.trans q1, by rw [hrun]; exact z2, by rw [hrun]; exact z3, hlt⟩
  have in4 : ∀ (x : Nat) (m : Mm), (x = 33 ∨ x = 45) → oIn false (.str [x]) (.str [126, 43]) m = .ok (.bl false, m) := fun x m hx => by rcases hx with rfl | rfl <;> rfl
  unfold histT
  rw [pre]
  cases e with
  | tick =>
    refine ⟨.tick, m2, ?_, fin m2 rfl rfl q2 q3, hall2⟩
    have i0 : ∀ m, oIn false (.str [46, 46]) (.vl [.str [97, 98], .str [98, 97]]) m = .ok (.bl false, m) := fun _ => rfl
    have i1 : ∀ m, oIn false (.str [46]) (.str [126, 43]) m = .ok (.bl false, m) := fun _ => rfl
    simp [Ev.enc, Ev.code, i0, i1, ev1]
  | copy h =>
    have w2 := sW (m2.set (f + 1) (.lst [.bl (S.setH (!h) true).a, .bl (S.setH (!h) true).b])) (!h) false (by rw [set_same (by omega)]; exact q3)
    refine ⟨.copy h, (m2.set (f + 1) (.lst [.bl (S.setH (!h) true).a, .bl (S.setH (!h) true).b])).set (f + 2) (.lst [.bl (S.setW (!h) false).wa, .bl (S.setW (!h) false).wb]), ?_, fin _ ?_ ?_ ?_ ?_, hall2⟩
    · simp [Ev.enc, Ev.code, inC2, ev0, tyS, idxR, sT, w2]
    · rw [set_same (by omega), set_same (by omega)]
    · rw [set_same (by omega), set_same (by omega)]
    · rw [set_same (by omega), getset1 q2]; cases h <;> rfl
    · rw [getset1 (o := .lst [.bl S.wa, .bl S.wb]) (by rw [set_same (by omega)]; exact q3)]; cases h <;> rfl
  | ask h =>
    refine ⟨.ask h, m2, ?_, fin m2 rfl rfl q2 q3, hall2⟩
    simp [Ev.enc, Ev.code, inC, in4, ev1]
  | drop h =>
    refine ⟨.drop h, m2, ?_, fin m2 rfl rfl q2 q3, hall2⟩
    simp [Ev.enc, Ev.code, inC, in4, ev1]
  | late h =>
    have i1 : ∀ m, oIn false (.str [126]) (.str [126, 43]) m = .ok (.bl true, m) := fun _ => rfl
    refine ⟨.late h, m2.set (f + 2) (.lst [.bl (S.setW h true).wa, .bl (S.setW h true).wb]), ?_, fin _ ?_ ?_ ?_ ?_, hall2⟩
    · simp [Ev.enc, Ev.code, inC, i1, ev0, ev1, tyS, idxS, hc46, sW m2 h true q3]
    · rw [set_same (by omega)]
    · rw [set_same (by omega)]
    · rw [set_same (by omega), q2]; cases h <;> rfl
    · rw [getset1 q3]; rfl
  | got h =>
    have i1 : ∀ m, oIn false (.str [43]) (.str [126, 43]) m = .ok (.bl true, m) := fun _ => rfl
    refine ⟨.got h, m2.set (f + 2) (.lst [.bl (S.setW h false).wa, .bl (S.setW h false).wb]), ?_, fin _ ?_ ?_ ?_ ?_, hall2⟩
    · simp [Ev.enc, Ev.code, inC, i1, ev0, ev1, tyS, idxS, hc46, sW m2 h false q3]
    · rw [set_same (by omega)]
    · rw [set_same (by omega)]
    · rw [set_same (by omega), q2]; cases h <;> rfl
    · rw [getset1 q3]; rfl
theorem hist_loop2 (kd : List Nat) (alone plain : Bool) (ha : (!(kd == sAlone)) = !alone) (hp : (!(kd == sPlain)) = !plain) {b f : Nat} (x1 : Option PV) : ∀ (n : Nat) (lo : Int) (m : Mm) (es : List Ev) (x6 x7 : Option PV), HM m b f es → hs0.all es = true → es.length + n ≤ 100 →
    ∃ (es' : List Ev) (m' : Mm) (y6 y7 : Option PV), forL (gName 6) histT (rngL lo n) [some (.ref b), x1, some (.str kd), some (.ref f), some (.ref (f + 1)), some (.ref (f + 2)), x6, x7] m = .ok (.nx, [some (.ref b), x1, some (.str kd), some (.ref f), some (.ref (f + 1)), some (.ref (f + 2)), y6, y7], m') ∧ HM m' b f es' ∧ hs0.all es' = true ∧ es'.length = es.length + n
  | 0, lo, m, es, x6, x7, H, h, _ => ⟨es, m, x6, x7, rfl, H, h, rfl⟩
  | n + 1, lo, m, es, x6, x7, H, h, hl => by
    obtain ⟨e, m1, e1, H1, h1⟩ := hist_turn2 kd alone plain ha hp H h (by omega) x1 (some (.int lo)) x7
    obtain ⟨es', m2, y6, y7, e2, H2, h2, l2⟩ := hist_loop2 kd alone plain ha hp x1 n (lo + 1) m1 (es ++ [e]) (some (.int lo)) (some e.enc) H1 h1 (by rw [List.length_append, List.length_singleton]; omega)
    refine ⟨es', m2, y6, y7, ?_, H2, h2, by rw [l2, List.length_append, List.length_singleton]; omega⟩
    rw [rngL, forL_cons]
    simp [e1, e2]
theorem history_ok {m : Mm} {b : Nat} {a s : Int} (most : Nat) (hm : most ≤ 90) (kd : List Nat) (alone plain : Bool) (ha : (!(kd == sAlone)) = !alone) (hp : (!(kd == sPlain)) = !plain) (h : m[b]? = some (.lst [.int a, .int s])) :
    ∃ (es : List Ev) (m' : Mm), i_law_history [.ref b, .int most, .str kd] m = .ok (.tup (es.map Ev.enc), m') ∧ hs0.all es = true ∧ es.length ≤ most ∧ ∃ a' s' : Int, m'[b]? = some (.lst [.int a', .int s']) := by
  have hlt : b < m.length := (List.getElem?_eq_some_iff.mp h).1
  obtain ⟨m1, hm1⟩ : ∃ m1, m1 = ((m ++ [.lst []]) ++ [.lst [.bl true, .bl false]]) ++ [.lst [.bl false, .bl false]] := ⟨_, rfl⟩
  have k0 : m1[b]? = some (.lst [.int a, .int s]) := by
    rw [hm1, List.getElem?_append_left (by simp; omega), List.getElem?_append_left (by simp; omega), List.getElem?_append_left hlt]; exact h
  obtain ⟨r, a', s', r0, r1, e0⟩ := take_ok (c := (most : Int) + 1) k0 (by omega) (by omega)
  obtain ⟨m2, hm2⟩ : ∃ m2, m2 = m1.set b (.lst [.int a', .int s']) := ⟨_, rfl⟩
  rw [← hm2] at e0
  have H : HM m2 b m.length [] := by
    refine ⟨⟨a', s', by rw [hm2]; exact getset1 k0⟩, ?_, ?_, ?_, hlt⟩
    · rw [hm2, set_same (by omega), hm1]; simp
    · rw [hm2, set_same (by omega), hm1]; simp; exact ⟨rfl, rfl⟩
    · rw [hm2, set_same (by omega), hm1]; simp; exact ⟨rfl, rfl⟩
  obtain ⟨es, m3, y6, y7, e1, H1, h1, l1⟩ := hist_loop2 kd alone plain ha hp (some (.int most)) r.toNat 0 m2 [] none none H rfl (by show 0 + r.toNat ≤ 100; omega)
  have l2 : es.length = 0 + r.toNat := l1
  refine ⟨es, m3, ?_, h1, by omega, H1.bag⟩
  have hs : s_law_history = (sSeq (sPar3 3 4 5 (aCons (eLstM aNil) (aCons (eLstM (aCons (eC (.bl true)) (aCons (eC (.bl false)) aNil))) (aCons (eLstM (aCons (eC (.bl false)) (aCons (eC (.bl false)) aNil))) aNil))))
    (sSeq (sFor (TT.iRng1 (eN (cI i_law_take) (aCons (eVar 0) (aCons (e2 oAdd (eVar 1) (eC (.int 1))) aNil)))) (TT.gName 6) histT)
    (sRet (eN fTuple (aCons (eVar 3) aNil))))) := rfl
  have w1 : -P62 ≤ r := by unfold P62; omega
  have w2 : r < P62 := by unfold P62; omega
  have ft : fTuple [.ref m.length] m3 = .ok (.tup (es.map Ev.enc), m3) := by unfold fTuple; simp only [look_ref H1.fnd]
  simp only [i_law_history, bodyI, hs, startS]
  have hm1' : m ++ [Ob.lst [], Ob.lst [.bl true, .bl false], Ob.lst [.bl false, .bl false]] = m1 := by rw [hm1]; simp
  rw [show m.length + 2 = m.length + 1 + 1 from rfl] at e1
  simp [sFor_ap, cI, hm1', e0, w1, w2, e1, ft, endF]
end TT
end

section
set_option linter.all false
set_option autoImplicit false
namespace TT
def ruleB : SS := (sSeq (sAsg (e2 oAdd (eC (.int 1)) (e2 oMod (eN fInt (aCons (e2 oAdd (eN fLen (aCons (eVar 1) aNil)) (eVar 2)) aNil)) (eC (.int 3)))) (TT.gName 8))
  (sExpr (eM .list mAppend (eVar 1) (aCons (eTup (aCons (eVar 2) (aCons (eVar 3) (aCons (eVar 4) (aCons (eVar 5) (aCons (eVar 6) (aCons (eVar 8) (aCons (eVar 7) aNil)))))))) aNil))))
def endL : SS := (sFor (iL (eLst (aCons (eC (.str [114, 101, 102, 117, 115, 101])) (aCons (eC (.str [101, 110, 100])) aNil)))) (TT.gName 7) ruleB)
def spareL : SS := (sFor (iL (eLst (aCons (eC .non) (aCons (eC (.int 0)) (aCons (eC (.int 1)) (aCons (eC (.int 2)) aNil)))))) (TT.gName 6) endL)
def leewayL : SS := (sFor (iL (eLst (aCons (eC .non) (aCons (eC (.int 0)) (aCons (eC (.int 1)) (aCons (eC (.int 2)) aNil)))))) (TT.gName 5) spareL)
def strictL : SS := (sFor (iL (eLst (aCons (eC (.bl false)) (aCons (eC (.bl true)) aNil)))) (TT.gName 4) leewayL)
def wordL : SS := (sFor (iL (eLst (aCons (eC (.str [115, 97, 109, 101])) (aCons (eC (.str [110, 101, 119])) aNil)))) (TT.gName 3) strictL)
def keepL : SS := (sFor (iL (eLst (aCons (eC (.int 0)) (aCons (eC (.int 1)) (aCons (eC (.int 2)) aNil))))) (TT.gName 2) wordL)
theorem rules_eq : s_law_rules = (sSeq (sAsg (eLstM aNil) (TT.gName 1))
  (sSeq keepL
  (sRet (eSlS (eVar 0) 4 (eVar 1))))) := rfl
def oneB : SS := (sSeq (sAsg (eN (cP f_law_course) (aCons (eVar 5) (aCons (eVar 3) (aCons (eVar 4) aNil)))) (TT.gTup [6, 7]))
  (sSeq (sIf (tV (e2 oNe (eNK (cP f_run) (aCons (eVar 5) (aCons (eVar 3) aNil)) (aCons (eVar 4) aNil)) (eVar 6))) (sRet (eC (.bl false))) sSkip)
  (sIf (tV (e2 oNe (eNK (cP f_held) (aCons (eVar 5) (aCons (eVar 3) aNil)) (aCons (eVar 4) aNil)) (eN fTuple (aCons (e2 oIx (eVar 7) (eC (.int 1))) aNil)))) (sRet (eC (.bl false))) sSkip)))
def bagB : SS := (sSeq (sAsg (eN (cI i_law_bag) (aCons (eVar 0) (aCons (eVar 1) aNil))) (TT.gName 2))
  (sSeq (sAsg (eN (cI i_law_history) (aCons (eVar 2) (aCons (eC (.int 40)) (aCons (eN (cI i_law_of) (aCons (eVar 2) (aCons (eLst (aCons (eC (.str [97, 108, 111, 110, 101])) (aCons (eC (.str [112, 108, 97, 105, 110])) (aCons (eC (.str [97, 108, 108])) (aCons (eC (.str [97, 108, 108])) aNil))))) aNil))) aNil)))) (TT.gName 3))
  (sSeq (sAsg (e2 oEq (eN (cI i_law_take) (aCons (eVar 2) (aCons (eC (.int 2)) aNil))) (eC (.int 1))) (TT.gName 4))
  (sFor (iL (eN (cP f_law_rules) (aCons (eN (cI i_law_take) (aCons (eVar 2) (aCons (eC (.int 4)) aNil))) aNil))) (TT.gName 5) oneB))))
theorem law_eq : s_law = (sSeq (sFor (TT.iRng1 (e2 oAdd (eN fMin (aCons (eN fLen (aCons (eVar 0) aNil)) (aCons (eC (.int 2)) aNil))) (eC (.int 1)))) (TT.gName 1) bagB)
  (sRet (eC (.bl true)))) := rfl
theorem eNK_ap {f : ON} {fs gs : SA} {s : Sl} {m : Mm} : eNK f fs gs s m = (fs s m).bind fun p => (gs s p.2).bind fun q => f (p.1 ++ q.1) q.2 := rfl
theorem eND_ap {f : ON} {fs : SA} {ds : List PV} {s : Sl} {m : Mm} : eND f fs ds s m = (fs s m).bind fun p => f (p.1 ++ ds) p.2 := rfl
theorem encO_sh (o : Option Int) (n : Nat) : (encO o).sh n = true := by cases o <;> simp [encO]
theorem encW_sh (p : Pair) (n : Nat) : (encW p).sh (n + 1) = true := by rcases p with _ | ⟨s, a⟩ <;> simp [encW, encO_sh]
theorem encO_eqv (o : Option Int) : PV.eqv (encO o) (encO o) = true := by cases o <;> simp [encO]
theorem encW_eqv (p : Pair) : PV.eqv (encW p) (encW p) = true := by rcases p with _ | ⟨s, a⟩ <;> simp [encW, encO_eqv]
theorem encWs_eqv : ∀ ps : List Pair, PV.eqvs (ps.map encW) (ps.map encW) = true
  | [] => rfl
  | p :: ps => by simp [encW_eqv, encWs_eqv ps]
theorem ne_pairs (ps : List Pair) (m : Mm) : oNe (.vl (ps.map encW)) (.vl (ps.map encW)) m = .ok (.bl false, m) := by
  have h : (PV.vl (ps.map encW)).sh DEP = true := by
    show (ps.map encW).all (PV.sh 11) = true
    rw [List.all_eq_true]
    intro x hx
    obtain ⟨p, _, rfl⟩ := List.mem_map.mp hx
    exact encW_sh p 10
  rw [oNe_pl h h, eqv_vl, encWs_eqv]; rfl
theorem ne_toks (k : Tk) (m : Mm) : oNe (.tup k.toks) (.tup k.toks) m = .ok (.bl false, m) := by
  have h : (PV.tup k.toks).sh DEP = true := by
    show k.toks.all (PV.sh 11) = true
    simp [Tk.toks, encO_sh]
  rw [oNe_pl h h]
  simp [Tk.toks, encO_eqv]
/-- what all three give -/
theorem same_ok {R : Rule} (ok : R.Ok) {es : List Ev} (ha : hs0.all es = true) (hl : es.length ≤ 40) (c : Bool) : ∃ (P : List Pair) (K : Tk) (S : Srv),
    (∀ m, cP f_law_course [R.enc, .tup (es.map Ev.enc), .bl c] m = .ok (.tup [.vl (P.map encW), .vl [.vl S.items, .vl K.toks, .vl K.wts]], m)) ∧
    (∀ m, cP f_run [R.enc, .tup (es.map Ev.enc), .bl c] m = .ok (.vl (P.map encW), m)) ∧ (∀ m, cP f_held [R.enc, .tup (es.map Ev.enc), .bl c] m = .ok (.tup K.toks, m)) := by
  obtain ⟨q1, q2⟩ := run_eq ok c es R.first R.server tk0 hs0 (sim_first ok) tk0_ok tk0_fits ha
  have e1 := run_ok ok c (good_p ok c) ⟨R.server, rfl, sim_first ok, tk0_ok⟩ ha hl
  have e2 := held_ok ok c (good_p ok c) ⟨R.server, rfl, sim_first ok, tk0_ok⟩ ha hl
  have e3 := law_course_ok c (good_l ok c) ⟨R.first, sim_first ok, tk0_ok, Int.le_refl _⟩ ha hl
  have z : R.server.newest = 0 := rfl
  rw [z] at q1 q2
  rw [q1] at e1
  rw [q2] at e2
  refine ⟨(R.runL c R.server tk0 es).1, (R.runL c R.server tk0 es).2.2, (R.runL c R.server tk0 es).2.1, fun m => ?_, fun m => ?_, fun m => ?_⟩
  · simp only [cP, e3]; rw [if_pos (by simp [enc_pu, evs_pu])]
  · simp only [cP, e1]; rw [if_pos (by simp [enc_pu, evs_pu])]
  · simp only [cP, e2]; rw [if_pos (by simp [enc_pu, evs_pu])]
theorem forL_cnt {g : SG} {b : SS} (I : Nat → Sl → Mm → Prop) (d : Nat) : ∀ (xs : List PV), (∀ x ∈ xs, ∀ n s m, n + d ≤ 1000 → I n s m → ∃ s1 m1 s2 m2, g x s m = .ok (s1, m1) ∧ b s1 m1 = .ok (.nx, s2, m2) ∧ I (n + d) s2 m2) → ∀ n s m, I n s m → n + d * xs.length ≤ 1000 → ∃ s2 m2, forL g b xs s m = .ok (.nx, s2, m2) ∧ I (n + d * xs.length) s2 m2
  | [], _, n, s, m, h, _ => ⟨s, m, rfl, by simpa using h⟩
  | x :: xs, hb, n, s, m, h, hn => by
    rw [List.length_cons, Nat.mul_succ] at hn
    obtain ⟨s1, m1, s2, m2, e1, e2, h2⟩ := hb x List.mem_cons_self n s m (by omega) h
    obtain ⟨s3, m3, e3, h3⟩ := forL_cnt I d xs (fun y hy => hb y (List.mem_cons_of_mem _ hy)) (n + d) s2 m2 h2 (by omega)
    refine ⟨s3, m3, ?_, by rw [List.length_cons, Nat.mul_succ]; have : n + (d * xs.length + d) = n + d + d * xs.length := by omega
                           rw [this]; exact h3⟩
    rw [forL_cons, e1, Rs.bind_ok]
    simp only [e2, Rs.bind_ok, e3]
/-- the memory while the rules are made -/
def RM (n : Nat) (m : Mm) : Prop := ∃ Rs : List Rule, m = [.lst (Rs.map Rule.enc)] ∧ (∀ R ∈ Rs, R.Ok) ∧ Rs.length = n
theorem RM.add {n : Nat} {m : Mm} (h : RM n m) {R : Rule} (ok : R.Ok) : ∃ Rs : List Rule, m = [.lst (Rs.map Rule.enc)] ∧ Rs.length = n ∧ RM (n + 1) [.lst (Rs.map Rule.enc ++ [R.enc])] := by
  obtain ⟨Rs, h1, h2, h3⟩ := h
  refine ⟨Rs, h1, h3, Rs ++ [R], by rw [List.map_append]; rfl, fun r hr => ?_, by rw [List.length_append, h3]; rfl⟩
  rcases List.mem_append.mp hr with z | z
  · exact h2 r z
  · rw [List.mem_singleton] at z; subst z; exact ok
theorem optO {x : PV} (h : x ∈ [PV.non, PV.int 0, PV.int 1, PV.int 2]) : ∃ o : Option Int, x = encO o ∧ (o = none ∨ ∃ i, o = some i ∧ 0 ≤ i ∧ i ≤ 2) := by
  simp only [List.mem_cons, List.mem_nil_iff, or_false] at h
  rcases h with h | h | h | h
  · exact ⟨none, h, .inl rfl⟩
  · exact ⟨some 0, h, .inr ⟨0, rfl, by decide, by decide⟩⟩
  · exact ⟨some 1, h, .inr ⟨1, rfl, by decide, by decide⟩⟩
  · exact ⟨some 2, h, .inr ⟨2, rfl, by decide, by decide⟩⟩
theorem rule_turn (f : PV) (keep : Int) (hk : 0 ≤ keep ∧ keep ≤ 2) (new strict fin : Bool) (lw sp : Option Int) (hl : lw = none ∨ ∃ i, lw = some i ∧ 0 ≤ i ∧ i ≤ 2) (hs : sp = none ∨ ∃ i, sp = some i ∧ 0 ≤ i ∧ i ≤ 2) (n : Nat) (m : Mm) (x8 : Option PV) (hn : n ≤ 1000) (h : RM n m) :
    ∃ y8 m', ruleB [some f, some (.ref 0), some (.int keep), some (.str (if new then sNew else sSame)), some (.bl strict), some (encO lw), some (encO sp), some (.str (if fin then sEnd else sRefuse)), x8] m = .ok (.nx, [some f, some (.ref 0), some (.int keep), some (.str (if new then sNew else sSame)), some (.bl strict), some (encO lw), some (encO sp), some (.str (if fin then sEnd else sRefuse)), y8], m') ∧ RM (n + 1) m' := by
  obtain ⟨Rs, h1, h3, h4⟩ := h.add (R := ⟨keep, new, strict, lw, sp, 1 + ((n : Int) + keep) % 3, fin⟩) ⟨hk, hl, hs, ⟨by show 1 ≤ 1 + ((n : Int) + keep) % 3; omega, by show 1 + ((n : Int) + keep) % 3 ≤ 3; omega⟩⟩
  subst h1
  refine ⟨some (.int (1 + ((n : Int) + keep) % 3)), _, ?_, h4⟩
  have g : ([.lst (Rs.map Rule.enc)] : Mm)[0]? = some (.lst (Rs.map Rule.enc)) := rfl
  have fl : fLen [.ref 0] [.lst (Rs.map Rule.enc)] = .ok (.int n, [.lst (Rs.map Rule.enc)]) := by unfold fLen; simp only [look_ref g, List.length_map, h3]
  have ap := mAppend_ref (v := Rule.enc ⟨keep, new, strict, lw, sp, 1 + ((n : Int) + keep) % 3, fin⟩) g (by rw [List.length_map, h3]; exact Nat.lt_of_le_of_lt hn (by decide))
  simp only [Rule.enc, Rule.parts, List.set_cons_zero] at ap
  simp [ruleB, fl, oMod_int, tyOk_ref g, ap]
  rfl
/-- a loop whose body takes one slot and adds d rules -/
theorem lv {body : SS} {g : Nat} {pre : List (Option PV)} (hg : pre.length = g) (d k : Nat) (xs : List PV)
    (hb : ∀ x ∈ xs, ∀ n m (post : List (Option PV)), post.length = k → n + d ≤ 1000 → RM n m → ∃ post' m', body (pre ++ some x :: post) m = .ok (.nx, pre ++ some x :: post', m') ∧ post'.length = k ∧ RM (n + d) m') :
    ∀ n m (post : List (Option PV)), post.length = k + 1 → n + d * xs.length ≤ 1000 → RM n m → ∃ post' m', forL (gName g) body xs (pre ++ post) m = .ok (.nx, pre ++ post', m') ∧ post'.length = k + 1 ∧ RM (n + d * xs.length) m' := by
  intro n m post hp hn h
  obtain ⟨s2, m2, e, ⟨post2, rfl, l2, h2⟩⟩ := forL_cnt (g := gName g) (b := body) (fun n s m => ∃ post : List (Option PV), s = pre ++ post ∧ post.length = k + 1 ∧ RM n m) d xs (fun x hx n s m hn ⟨post, hs, hl, hm⟩ => by
    subst hs
    match post, hl with
    | y :: post, hl =>
      obtain ⟨post', m', e, l', h'⟩ := hb x hx n m post (by simpa using hl) hn hm
      have es : (pre ++ y :: post).set g (some x) = pre ++ some x :: post := by subst hg; simp
      exact ⟨_, m, _, m', by rw [gName_ap, es], e, some x :: post', rfl, by simpa using l', h'⟩) n (pre ++ post) m ⟨post, rfl, hp, h⟩ hn
  exact ⟨post2, m2, e, l2, h2⟩
theorem end_lv (f : PV) (keep : Int) (hk : 0 ≤ keep ∧ keep ≤ 2) (new strict : Bool) (lw sp : Option Int) (hl : lw = none ∨ ∃ i, lw = some i ∧ 0 ≤ i ∧ i ≤ 2) (hs : sp = none ∨ ∃ i, sp = some i ∧ 0 ≤ i ∧ i ≤ 2) : ∀ n m (post : List (Option PV)), post.length = 2 → n + 2 ≤ 1000 → RM n m → ∃ post' m', endL ([some f, some (.ref 0), some (.int keep), some (.str (if new then sNew else sSame)), some (.bl strict), some (encO lw), some (encO sp)] ++ post) m = .ok (.nx, [some f, some (.ref 0), some (.int keep), some (.str (if new then sNew else sSame)), some (.bl strict), some (encO lw), some (encO sp)] ++ post', m') ∧ post'.length = 2 ∧ RM (n + 2) m' := by
  intro n m post hp hn h
  obtain ⟨post', m', e, l, h'⟩ := lv (body := ruleB) (pre := [some f, some (.ref 0), some (.int keep), some (.str (if new then sNew else sSame)), some (.bl strict), some (encO lw), some (encO sp)]) (g := 7) rfl 1 1 [.str sRefuse, .str sEnd] (fun x hx n m post hp hn h => by
    match post, hp with
    | [x8], _ =>
      obtain ⟨fin, rfl⟩ := menu2 hx
      obtain ⟨y8, m', e, h'⟩ := rule_turn f keep hk new strict fin lw sp hl hs n m x8 (by omega) h
      exact ⟨[y8], m', e, rfl, h'⟩) n m post hp hn h
  refine ⟨post', m', ?_, l, h'⟩
  rw [← e]; rfl
theorem spare_lv (f : PV) (keep : Int) (hk : 0 ≤ keep ∧ keep ≤ 2) (new strict : Bool) (lw : Option Int) (hl : lw = none ∨ ∃ i, lw = some i ∧ 0 ≤ i ∧ i ≤ 2) : ∀ n m (post : List (Option PV)), post.length = 3 → n + 8 ≤ 1000 → RM n m → ∃ post' m', spareL ([some f, some (.ref 0), some (.int keep), some (.str (if new then sNew else sSame)), some (.bl strict), some (encO lw)] ++ post) m = .ok (.nx, [some f, some (.ref 0), some (.int keep), some (.str (if new then sNew else sSame)), some (.bl strict), some (encO lw)] ++ post', m') ∧ post'.length = 3 ∧ RM (n + 8) m' := by
  intro n m post hp hn h
  obtain ⟨post', m', e, l, h'⟩ := lv (body := endL) (pre := [some f, some (.ref 0), some (.int keep), some (.str (if new then sNew else sSame)), some (.bl strict), some (encO lw)]) (g := 6) rfl 2 2 [.non, .int 0, .int 1, .int 2] (fun x hx n m post hp hn h => by
    obtain ⟨sp, rfl, hs⟩ := optO hx
    obtain ⟨post', m', e, l, h'⟩ := end_lv f keep hk new strict lw sp hl hs n m post hp hn h
    exact ⟨post', m', e, l, h'⟩) n m post hp hn h
  refine ⟨post', m', ?_, l, h'⟩
  rw [← e]; rfl
theorem leeway_lv (f : PV) (keep : Int) (hk : 0 ≤ keep ∧ keep ≤ 2) (new strict : Bool) : ∀ n m (post : List (Option PV)), post.length = 4 → n + 32 ≤ 1000 → RM n m → ∃ post' m', leewayL ([some f, some (.ref 0), some (.int keep), some (.str (if new then sNew else sSame)), some (.bl strict)] ++ post) m = .ok (.nx, [some f, some (.ref 0), some (.int keep), some (.str (if new then sNew else sSame)), some (.bl strict)] ++ post', m') ∧ post'.length = 4 ∧ RM (n + 32) m' := by
  intro n m post hp hn h
  obtain ⟨post', m', e, l, h'⟩ := lv (body := spareL) (pre := [some f, some (.ref 0), some (.int keep), some (.str (if new then sNew else sSame)), some (.bl strict)]) (g := 5) rfl 8 3 [.non, .int 0, .int 1, .int 2] (fun x hx n m post hp hn h => by
    obtain ⟨lw, rfl, hl⟩ := optO hx
    obtain ⟨post', m', e, l, h'⟩ := spare_lv f keep hk new strict lw hl n m post hp hn h
    exact ⟨post', m', e, l, h'⟩) n m post hp hn h
  refine ⟨post', m', ?_, l, h'⟩
  rw [← e]; rfl
theorem strict_lv (f : PV) (keep : Int) (hk : 0 ≤ keep ∧ keep ≤ 2) (new : Bool) : ∀ n m (post : List (Option PV)), post.length = 5 → n + 64 ≤ 1000 → RM n m → ∃ post' m', strictL ([some f, some (.ref 0), some (.int keep), some (.str (if new then sNew else sSame))] ++ post) m = .ok (.nx, [some f, some (.ref 0), some (.int keep), some (.str (if new then sNew else sSame))] ++ post', m') ∧ post'.length = 5 ∧ RM (n + 64) m' := by
  intro n m post hp hn h
  obtain ⟨post', m', e, l, h'⟩ := lv (body := leewayL) (pre := [some f, some (.ref 0), some (.int keep), some (.str (if new then sNew else sSame))]) (g := 4) rfl 32 4 [.bl false, .bl true] (fun x hx n m post hp hn h => by
    obtain ⟨b, rfl⟩ : ∃ b, x = .bl b := by
      simp only [List.mem_cons, List.mem_nil_iff, or_false] at hx
      rcases hx with rfl | rfl
      · exact ⟨_, rfl⟩
      · exact ⟨_, rfl⟩
    obtain ⟨post', m', e, l, h'⟩ := leeway_lv f keep hk new b n m post hp hn h
    exact ⟨post', m', e, l, h'⟩) n m post hp hn h
  refine ⟨post', m', ?_, l, h'⟩
  rw [← e]; rfl
theorem word_lv (f : PV) (keep : Int) (hk : 0 ≤ keep ∧ keep ≤ 2) : ∀ n m (post : List (Option PV)), post.length = 6 → n + 128 ≤ 1000 → RM n m → ∃ post' m', wordL ([some f, some (.ref 0), some (.int keep)] ++ post) m = .ok (.nx, [some f, some (.ref 0), some (.int keep)] ++ post', m') ∧ post'.length = 6 ∧ RM (n + 128) m' := by
  intro n m post hp hn h
  obtain ⟨post', m', e, l, h'⟩ := lv (body := strictL) (pre := [some f, some (.ref 0), some (.int keep)]) (g := 3) rfl 64 5 [.str sSame, .str sNew] (fun x hx n m post hp hn h => by
    obtain ⟨b, rfl⟩ := menu2 hx
    obtain ⟨post', m', e, l, h'⟩ := strict_lv f keep hk b n m post hp hn h
    exact ⟨post', m', e, l, h'⟩) n m post hp hn h
  refine ⟨post', m', ?_, l, h'⟩
  rw [← e]; rfl
theorem keep_lv (f : PV) : ∀ n m (post : List (Option PV)), post.length = 7 → n + 384 ≤ 1000 → RM n m → ∃ post' m', keepL ([some f, some (.ref 0)] ++ post) m = .ok (.nx, [some f, some (.ref 0)] ++ post', m') ∧ post'.length = 7 ∧ RM (n + 384) m' := by
  intro n m post hp hn h
  obtain ⟨post', m', e, l, h'⟩ := lv (body := wordL) (pre := [some f, some (.ref 0)]) (g := 2) rfl 128 6 [.int 0, .int 1, .int 2] (fun x hx n m post hp hn h => by
    obtain ⟨b, rfl, hk⟩ : ∃ b, x = .int b ∧ 0 ≤ b ∧ b ≤ 2 := by
      simp only [List.mem_cons, List.mem_nil_iff, or_false] at hx
      rcases hx with rfl | rfl | rfl
      · exact ⟨0, rfl, by decide, by decide⟩
      · exact ⟨1, rfl, by decide, by decide⟩
      · exact ⟨2, rfl, by decide, by decide⟩
    obtain ⟨post', m', e, l, h'⟩ := word_lv f b hk n m post hp hn h
    exact ⟨post', m', e, l, h'⟩) n m post hp hn h
  refine ⟨post', m', ?_, l, h'⟩
  rw [← e]; rfl
theorem encs_pu : ∀ Rs : List Rule, pus (Rs.map Rule.enc) = true
  | [] => rfl
  | R :: Rs => by simp [enc_pu, encs_pu Rs]
theorem step_map {α β : Type} (f : α → β) (xs : List α) (lo st : Int) : stepL (xs.map f) lo st = (stepL xs lo st).map f := by
  unfold stepL
  rw [List.length_map, List.map_filterMap]
  congr 1
  funext i
  simp
theorem step_mem {α : Type} {xs : List α} {lo st : Int} {x : α} (h : x ∈ stepL xs lo st) : x ∈ xs := by
  unfold stepL at h
  obtain ⟨i, _, h⟩ := List.mem_filterMap.mp h
  exact List.mem_of_getElem? h
theorem rules_ok (f : Int) (h0 : 0 ≤ f) (h1 : f ≤ 3) : ∃ Rl : List Rule, (∀ R ∈ Rl, R.Ok) ∧ f_law_rules [.int f] = .ok (.vl (Rl.map Rule.enc)) := by
  obtain ⟨post', m', e, l, ⟨Rl, rfl, hr, hl⟩⟩ := keep_lv (.int f) 0 [.lst []] [none, none, none, none, none, none, none] rfl (by decide) ⟨[], rfl, fun R h => (by cases h), rfl⟩
  refine ⟨stepL Rl f 4, fun R h => hr R (step_mem h), ?_⟩
  have e : keepL [some (.int f), some (.ref 0), none, none, none, none, none, none, none] [.lst []] = .ok (.nx, some (.int f) :: some (.ref 0) :: post', [.lst (Rl.map Rule.enc)]) := e
  have hs : (if decide (0 ≤ f) && decide (f ≤ ((Rl.map Rule.enc).length : Int)) then Rs.ok (PV.vl (stepL (Rl.map Rule.enc) f 4), [Ob.lst (Rl.map Rule.enc)]) else .no) = .ok (PV.vl (stepL (Rl.map Rule.enc) f 4), [Ob.lst (Rl.map Rule.enc)]) := by
    rw [if_pos]; rw [List.length_map, hl]; simp; omega
  have sl : eSlS (eVar 0) 4 (eVar 1) (some (.int f) :: some (.ref 0) :: post') [.lst (Rl.map Rule.enc)] = .ok (.vl ((stepL Rl f 4).map Rule.enc), [.lst (Rl.map Rule.enc)]) := by
    rw [← step_map]
    exact hs
  simp only [f_law_rules, bodyP, bodyI, rules_eq, startS]
  simp [e, sl, endF]
  rw [frz_pu (show PV.pu (.vl _) = true from encs_pu _)]
  rfl
theorem one_ok {R : Rule} (ok : R.Ok) {es : List Ev} (ha : hs0.all es = true) (hl : es.length ≤ 40) (c : Bool) (x0 x1 x2 x6 x7 : Option PV) (m : Mm) : ∃ y6 y7, oneB [x0, x1, x2, some (.tup (es.map Ev.enc)), some (.bl c), some R.enc, x6, x7] m = .ok (.nx, [x0, x1, x2, some (.tup (es.map Ev.enc)), some (.bl c), some R.enc, y6, y7], m) := by
  obtain ⟨P, K, S, e1, e2, e3⟩ := same_ok ok ha hl c
  refine ⟨some (.vl (P.map encW)), some (.vl [.vl S.items, .vl K.toks, .vl K.wts]), ?_⟩
  have ix : ∀ m, oIx (.vl [.vl S.items, .vl K.toks, .vl K.wts]) (.int 1) m = .ok (.vl K.toks, m) := fun m => rfl
  simp [oneB, e1, eNK_ap, e2, e3, ne_pairs, ix, ne_toks]
theorem ones_ok {es : List Ev} (ha : hs0.all es = true) (hl : es.length ≤ 40) (c : Bool) (x0 x1 x2 : Option PV) (m : Mm) : ∀ (Rl : List Rule), (∀ R ∈ Rl, R.Ok) → ∀ (x5 x6 x7 : Option PV), ∃ y5 y6 y7, forL (gName 5) oneB (Rl.map Rule.enc) [x0, x1, x2, some (.tup (es.map Ev.enc)), some (.bl c), x5, x6, x7] m = .ok (.nx, [x0, x1, x2, some (.tup (es.map Ev.enc)), some (.bl c), y5, y6, y7], m)
  | [], _, x5, x6, x7 => ⟨x5, x6, x7, rfl⟩
  | R :: Rl, h, x5, x6, x7 => by
    obtain ⟨y6, y7, e1⟩ := one_ok (h R List.mem_cons_self) ha hl c x0 x1 x2 x6 x7 m
    obtain ⟨z5, z6, z7, e2⟩ := ones_ok ha hl c x0 x1 x2 m Rl (fun r hr => h r (List.mem_cons_of_mem _ hr)) (some R.enc) y6 y7
    refine ⟨z5, z6, z7, ?_⟩
    rw [List.map_cons, forL_cons]
    simp [e1, e2]
theorem bag_turn (ns : List Int) (k : Int) (h0 : 0 ≤ k) (h1 : k < 1000) (x2 x3 x4 x5 x6 x7 : Option PV) (m : Mm) : ∃ y2 y3 y4 y5 y6 y7 m', bagB [some (.fz (ns.map PV.int)), some (.int k), x2, x3, x4, x5, x6, x7] m = .ok (.nx, [some (.fz (ns.map PV.int)), some (.int k), y2, y3, y4, y5, y6, y7], m') := by
  obtain ⟨a, s, eb⟩ := bag_ok (m := m) (xs := ns.map PV.int) h0 h1 (fun x hx => by obtain ⟨i, _, e⟩ := List.mem_map.mp hx; exact ⟨i, e.symm⟩)
  obtain ⟨m1, hm1⟩ : ∃ m1, m1 = m ++ [Ob.lst [.int a, .int s]] := ⟨_, rfl⟩
  rw [← hm1] at eb
  have k1 : m1[m.length]? = some (.lst [.int a, .int s]) := by rw [hm1]; simp
  generalize m.length = b at eb k1
  obtain ⟨kd, hk, a2, s2, e2⟩ := of_ok (xs := [.str sAlone, .str sPlain, .str sAll, .str sAll]) k1 (by decide) (by decide)
  obtain ⟨m2, hm2⟩ : ∃ m2, m2 = m1.set b (.lst [.int a2, .int s2]) := ⟨_, rfl⟩
  have k2 : m2[b]? = some (.lst [.int a2, .int s2]) := by rw [hm2]; exact getset1 k1
  rw [← hm2] at e2
  obtain ⟨kd', alone, plain, rfl, ha, hp⟩ : ∃ (kd' : List Nat) (alone plain : Bool), kd = .str kd' ∧ (!(kd' == sAlone)) = !alone ∧ (!(kd' == sPlain)) = !plain := by
    simp only [List.mem_cons, List.mem_nil_iff, or_false] at hk
    rcases hk with rfl | rfl | rfl | rfl
    · exact ⟨sAlone, true, false, rfl, rfl, rfl⟩
    · exact ⟨sPlain, false, true, rfl, rfl, rfl⟩
    · exact ⟨sAll, false, false, rfl, rfl, rfl⟩
    · exact ⟨sAll, false, false, rfl, rfl, rfl⟩
  obtain ⟨es, m3, e3, hall, hlen, a3, s3, k3⟩ := history_ok 40 (by decide) kd' alone plain ha hp k2
  obtain ⟨r4, a4, s4, p4, q4, e4⟩ := take_ok (c := 2) k3 (by decide) (by decide)
  obtain ⟨m4, hm4⟩ : ∃ m4, m4 = m3.set b (.lst [.int a4, .int s4]) := ⟨_, rfl⟩
  have k4 : m4[b]? = some (.lst [.int a4, .int s4]) := by rw [hm4]; exact getset1 k3
  rw [← hm4] at e4
  obtain ⟨r5, a5, s5, p5, q5, e5⟩ := take_ok (c := 4) k4 (by decide) (by decide)
  obtain ⟨m5, hm5⟩ : ∃ m5, m5 = m4.set b (.lst [.int a5, .int s5]) := ⟨_, rfl⟩
  rw [← hm5] at e5
  obtain ⟨Rl, hR, e6⟩ := rules_ok r5 p5 (by omega)
  have cr : ∀ m, cP f_law_rules [.int r5] m = .ok (.vl (Rl.map Rule.enc), m) := fun m => by simp [cP, e6]
  obtain ⟨y5, y6, y7, e7⟩ := ones_ok hall hlen (r4 == 1) (some (.fz (ns.map PV.int))) (some (.int k)) (some (.ref b)) m5 Rl hR x5 x6 x7
  refine ⟨some (.ref b), some (.tup (es.map Ev.enc)), some (.bl (r4 == 1)), y5, y6, y7, m5, ?_⟩
  simp only [sAlone, sPlain, sAll] at e2
  have e3 : i_law_history [.ref b, .int 40, .str kd'] m2 = .ok (.tup (es.map Ev.enc), m3) := e3
  simp [bagB, cI, eb, e2, e3, e4, e5, cr, sFor_ap, e7]
theorem bags_ok (ns : List Int) : ∀ (n : Nat) (k : Int), 0 ≤ k → k + n ≤ 1000 → ∀ (x1 x2 x3 x4 x5 x6 x7 : Option PV) (m : Mm), ∃ y1 y2 y3 y4 y5 y6 y7 m', forL (gName 1) bagB (rngL k n) [some (.fz (ns.map PV.int)), x1, x2, x3, x4, x5, x6, x7] m = .ok (.nx, [some (.fz (ns.map PV.int)), y1, y2, y3, y4, y5, y6, y7], m')
  | 0, k, _, _, x1, x2, x3, x4, x5, x6, x7, m => ⟨x1, x2, x3, x4, x5, x6, x7, m, rfl⟩
  | n + 1, k, h0, h1, x1, x2, x3, x4, x5, x6, x7, m => by
    obtain ⟨y2, y3, y4, y5, y6, y7, m1, e1⟩ := bag_turn ns k h0 (by omega) x2 x3 x4 x5 x6 x7 m
    obtain ⟨z1, z2, z3, z4, z5, z6, z7, m2, e2⟩ := bags_ok ns n (k + 1) (by omega) (by omega) (some (.int k)) y2 y3 y4 y5 y6 y7 m1
    refine ⟨z1, z2, z3, z4, z5, z6, z7, m2, ?_⟩
    rw [rngL, forL_cons]
    simp [e1, e2]
theorem q4 (k : Nat) (hk : k ≤ 60) : (if decide (-P62 ≤ (k : Int) + 1) && decide ((k : Int) + 1 < P62) then Rs.ok (rngL 0 ((k : Int) + 1).toNat, ([] : Mm)) else .no) = .ok (rngL 0 (k + 1), []) := by
  have c1 : -P62 ≤ (k : Int) + 1 := by unfold P62; omega
  have c2 : (k : Int) + 1 < P62 := by unfold P62; omega
  have c3 : ((k : Int) + 1).toNat = k + 1 := by omega
  rw [c3, decide_eq_true c1, decide_eq_true c2]
  rfl
theorem span_ok (ns : List Int) (hl : ns.length ≤ 63) (s : Sl) (hs : s[0]? = some (some (.fz (ns.map PV.int)))) : ∃ n : Nat, n ≤ 62 ∧ (TT.iRng1 (e2 oAdd (eN fMin (aCons (eN fLen (aCons (eVar 0) aNil)) (aCons (eC (.int 2)) aNil))) (eC (.int 1)))) s [] = .ok (rngL 0 n, []) := by
  have hn : (ns.map PV.int).length ≤ LINE := by rw [List.length_map]; exact Nat.le_trans hl (by decide)
  refine ⟨min ns.length 2 + 1, by omega, ?_⟩
  have hz : (if (2 : Int) < ns.length then 2 else (ns.length : Int)) = ((min ns.length 2 : Nat) : Int) := by split <;> omega
  have q1 : (eN fLen (aCons (eVar 0) aNil)) s [] = .ok (.int ns.length, []) := by
    simp [hs, fLen]
  have q2 : fMin [.int ns.length, .int 2] [] = .ok (.int (min ns.length 2 : Nat), []) := by
    simp only [fMin, hz]
  have q3 : (e2 oAdd (eN fMin (aCons (eN fLen (aCons (eVar 0) aNil)) (aCons (eC (.int 2)) aNil))) (eC (.int 1))) s [] = .ok (.int ((min ns.length 2 : Nat) + 1), []) := by
    generalize eN fLen (aCons (eVar 0) aNil) = L at q1
    simp [q1, q2]
  unfold iRng1
  rw [q3, Rs.bind_ok]
  exact q4 _ (by omega)
theorem law_holds (ns : List Int) (hl : ns.length ≤ 63) : ∃ m, bodyI 8 1 s_law [.fz (ns.map PV.int)] [] = .ok (.bl true, m) := by
  obtain ⟨n, hn2, e2⟩ := span_ok ns hl [some (.fz (ns.map PV.int)), none, none, none, none, none, none, none] rfl
  obtain ⟨y1, y2, y3, y4, y5, y6, y7, m', e3⟩ := bags_ok ns n 0 (by decide) (by omega) none none none none none none none []
  refine ⟨m', ?_⟩
  rw [law_eq]
  unfold bodyI
  rw [if_pos (show [PV.fz (ns.map PV.int)].length = 1 from rfl)]
  show endF (sSeq _ _ [some (.fz (ns.map PV.int)), none, none, none, none, none, none, none] []) = _
  rw [sSeq_ap, sFor_ap, e2, Rs.bind_ok, e3]
  simp [endF]
end TT
end

section
set_option Elab.async false
set_option linter.all false
set_option autoImplicit false
set_option maxRecDepth 100000
set_option maxHeartbeats 4000000
namespace TT
open PySem PySem.Spec PyProof.Rows L2
def topS (i : Nat) : Stmt := PySem.Challenge.pw_tokenturns_k04_whole_all_rules_for_a_his.main.body.getD i (.Pass ⟨0, 0, 0, 0⟩)
structure Blt (mg : Str → Option Value) : Prop where
  b_all : mg "all" = none
  b_bool : mg "bool" = none
  b_int : mg "int" = none
  b_isinstance : mg "isinstance" = none
  b_len : mg "len" = none
  b_max : mg "max" = none
  b_min : mg "min" = none
  b_range : mg "range" = none
  b_str : mg "str" = none
  b_tuple : mg "tuple" = none
  b_zip : mg "zip" = none
abbrev st_is_choice : Stmt := topS 7
abbrev n_is_choice : List Str := ["value", "choices", "one"]
theorem S_is_choice : FnScope n_is_choice ["value", "choices"] (defScope st_is_choice) := ⟨rfl, rfl, rfl, by decide +kernel, rfl, by decide +kernel, by decide +kernel⟩
abbrev st_first_stand : Stmt := topS 10
abbrev n_first_stand : List Str := ["rule", "keep", "reply", "strict", "leeway", "spare", "ages"]
theorem S_first_stand : FnScope n_first_stand ["rule"] (defScope st_first_stand) := ⟨rfl, rfl, rfl, by decide +kernel, rfl, by decide +kernel, by decide +kernel⟩
abbrev st_is_good : Stmt := topS 11
abbrev n_is_good : List Str := ["rule", "stand", "old_by", "keep", "reply", "strict", "leeway", "spare"]
theorem S_is_good : FnScope n_is_good ["rule", "stand", "old_by"] (defScope st_is_good) := ⟨rfl, rfl, rfl, by decide +kernel, rfl, by decide +kernel, by decide +kernel⟩
abbrev st_with_token : Stmt := topS 12
abbrev n_with_token : List Str := ["rule", "lead", "ages", "spared", "counted"]
theorem S_with_token : FnScope n_with_token ["rule", "lead", "ages", "spared", "counted"] (defScope st_with_token) := ⟨rfl, rfl, rfl, by decide +kernel, rfl, by decide +kernel, by decide +kernel⟩
abbrev st_ticked : Stmt := topS 14
abbrev n_ticked : List Str := ["rule", "stand", "leeway", "age"]
theorem S_ticked : FnScope n_ticked ["rule", "stand"] (defScope st_ticked) := ⟨rfl, rfl, rfl, by decide +kernel, rfl, by decide +kernel, by decide +kernel⟩
abbrev st_is_event : Stmt := topS 19
abbrev n_is_event : List Str := ["value"]
theorem S_is_event : FnScope n_is_event ["value"] (defScope st_is_event) := ⟨rfl, rfl, rfl, by decide +kernel, rfl, by decide +kernel, by decide +kernel⟩
abbrev st__law_bag : Stmt := topS 27
abbrev n__law_bag : List Str := ["_law_script", "_law_k", "_law_cell", "_law_first", "_law_seed"]
theorem S__law_bag : FnScope n__law_bag ["_law_script", "_law_k"] (defScope st__law_bag) := ⟨rfl, rfl, rfl, by decide +kernel, rfl, by decide +kernel, by decide +kernel⟩
abbrev st__law_take : Stmt := topS 28
abbrev n__law_take : List Str := ["_law_bag_here", "_law_count", "_law_found", "_law_mixed"]
theorem S__law_take : FnScope n__law_take ["_law_bag_here", "_law_count"] (defScope st__law_take) := ⟨rfl, rfl, rfl, by decide +kernel, rfl, by decide +kernel, by decide +kernel⟩
abbrev st__law_server : Stmt := topS 30
abbrev n__law_server : List Str := ["_law_rule"]
theorem S__law_server : FnScope n__law_server ["_law_rule"] (defScope st__law_server) := ⟨rfl, rfl, rfl, by decide +kernel, rfl, by decide +kernel, by decide +kernel⟩
abbrev st__law_accepts : Stmt := topS 31
abbrev n__law_accepts : List Str := ["_law_rule", "_law_server_here", "_law_token"]
theorem S__law_accepts : FnScope n__law_accepts ["_law_rule", "_law_server_here", "_law_token"] (defScope st__law_accepts) := ⟨rfl, rfl, rfl, by decide +kernel, rfl, by decide +kernel, by decide +kernel⟩
abbrev st__law_next_events : Stmt := topS 36
abbrev n__law_next_events : List Str := ["_law_there", "_law_waits", "_law_kind", "_law_some", "_law_who", "_law_name"]
theorem S__law_next_events : FnScope n__law_next_events ["_law_there", "_law_waits", "_law_kind"] (defScope st__law_next_events) := ⟨rfl, rfl, rfl, by decide +kernel, rfl, by decide +kernel, by decide +kernel⟩
abbrev st__law_rules : Stmt := topS 38
abbrev n__law_rules : List Str := ["_law_first", "_law_found", "_law_keep_so", "_law_word", "_law_strict_so", "_law_leeway_so", "_law_spare_so", "_law_end", "_law_every_so"]
theorem S__law_rules : FnScope n__law_rules ["_law_first"] (defScope st__law_rules) := ⟨rfl, rfl, rfl, by decide +kernel, rfl, by decide +kernel, by decide +kernel⟩
abbrev st_is_rule : Stmt := topS 8
abbrev n_is_rule : List Str := ["value", "part", "choices"]
theorem S_is_rule : FnScope n_is_rule ["value"] (defScope st_is_rule) := ⟨rfl, rfl, rfl, by decide +kernel, rfl, by decide +kernel, by decide +kernel⟩
abbrev st_requested : Stmt := topS 13
abbrev n_requested : List Str := ["rule", "stand", "old_by", "over", "lead", "ages", "spared", "counted", "spare", "every"]
theorem S_requested : FnScope n_requested ["rule", "stand", "old_by"] (defScope st_requested) := ⟨rfl, rfl, rfl, by decide +kernel, rfl, by decide +kernel, by decide +kernel⟩
abbrev st_is_history : Stmt := topS 20
abbrev n_is_history : List Str := ["value", "holds", "waits", "event", "holder"]
theorem S_is_history : FnScope n_is_history ["value"] (defScope st_is_history) := ⟨rfl, rfl, rfl, by decide +kernel, rfl, by decide +kernel, by decide +kernel⟩
abbrev st__law_of : Stmt := topS 29
abbrev n__law_of : List Str := ["_law_bag_here", "_law_some"]
theorem S__law_of : FnScope n__law_of ["_law_bag_here", "_law_some"] (defScope st__law_of) := ⟨rfl, rfl, rfl, by decide +kernel, rfl, by decide +kernel, by decide +kernel⟩
abbrev st__law_asked : Stmt := topS 32
abbrev n__law_asked : List Str := ["_law_rule", "_law_server_here", "_law_token", "_law_present"]
theorem S__law_asked : FnScope n__law_asked ["_law_rule", "_law_server_here", "_law_token"] (defScope st__law_asked) := ⟨rfl, rfl, rfl, by decide +kernel, rfl, by decide +kernel, by decide +kernel⟩
abbrev st__law_world : Stmt := topS 34
abbrev n__law_world : List Str := ["_law_rule"]
theorem S__law_world : FnScope n__law_world ["_law_rule"] (defScope st__law_world) := ⟨rfl, rfl, rfl, by decide +kernel, rfl, by decide +kernel, by decide +kernel⟩
abbrev st_need_rule : Stmt := topS 9
abbrev n_need_rule : List Str := ["value"]
theorem S_need_rule : FnScope n_need_rule ["value"] (defScope st_need_rule) := ⟨rfl, rfl, rfl, by decide +kernel, rfl, by decide +kernel, by decide +kernel⟩
abbrev st_need_history : Stmt := topS 21
abbrev n_need_history : List Str := ["value"]
theorem S_need_history : FnScope n_need_history ["value"] (defScope st_need_history) := ⟨rfl, rfl, rfl, by decide +kernel, rfl, by decide +kernel, by decide +kernel⟩
abbrev st_answered : Stmt := topS 22
abbrev n_answered : List Str := ["rule", "stand", "newest", "token", "after", "outcome", "later"]
theorem S_answered : FnScope n_answered ["rule", "stand", "newest", "token"] (defScope st_answered) := ⟨rfl, rfl, rfl, by decide +kernel, rfl, by decide +kernel, by decide +kernel⟩
abbrev st__law_event : Stmt := topS 33
abbrev n__law_event : List Str := ["_law_rule", "_law_world_here", "_law_event_here", "_law_cautious", "_law_server_here", "_law_tokens", "_law_waits", "_law_who", "_law_shown", "_law_was", "_law_answer"]
theorem S__law_event : FnScope n__law_event ["_law_rule", "_law_world_here", "_law_event_here", "_law_cautious"] (defScope st__law_event) := ⟨rfl, rfl, rfl, by decide +kernel, rfl, by decide +kernel, by decide +kernel⟩
abbrev st__law_history : Stmt := topS 37
abbrev n__law_history : List Str := ["_law_bag_here", "_law_most", "_law_kind", "_law_found", "_law_there", "_law_waits", "_law_turn", "_law_event_here"]
theorem S__law_history : FnScope n__law_history ["_law_bag_here", "_law_most", "_law_kind"] (defScope st__law_history) := ⟨rfl, rfl, rfl, by decide +kernel, rfl, by decide +kernel, by decide +kernel⟩
abbrev st_course : Stmt := topS 23
abbrev n_course : List Str := ["rule", "history", "careful", "stand", "newest", "tokens", "waiting", "outcomes", "event", "pair", "holder", "shown", "answer"]
theorem S_course : FnScope n_course ["rule", "history", "careful"] (defScope st_course) := ⟨rfl, rfl, rfl, by decide +kernel, rfl, by decide +kernel, by decide +kernel⟩
abbrev st__law_course : Stmt := topS 35
abbrev n__law_course : List Str := ["_law_rule", "_law_events", "_law_cautious", "_law_world_here", "_law_found", "_law_event_here"]
theorem S__law_course : FnScope n__law_course ["_law_rule", "_law_events", "_law_cautious"] (defScope st__law_course) := ⟨rfl, rfl, rfl, by decide +kernel, rfl, by decide +kernel, by decide +kernel⟩
abbrev st_run : Stmt := topS 24
abbrev n_run : List Str := ["rule", "history", "careful"]
theorem S_run : FnScope n_run ["rule", "history", "careful"] (defScope st_run) := ⟨rfl, rfl, rfl, by decide +kernel, rfl, by decide +kernel, by decide +kernel⟩
abbrev st_held : Stmt := topS 25
abbrev n_held : List Str := ["rule", "history", "careful"]
theorem S_held : FnScope n_held ["rule", "history", "careful"] (defScope st_held) := ⟨rfl, rfl, rfl, by decide +kernel, rfl, by decide +kernel, by decide +kernel⟩
abbrev st_law : Stmt := topS 39
abbrev n_law : List Str := ["_law_script", "_law_k", "_law_bag_here", "_law_events", "_law_cautious", "_law_rule", "_law_due", "_law_world_here"]
theorem S_law : FnScope n_law ["_law_script"] (defScope st_law) := ⟨rfl, rfl, rfl, by decide +kernel, rfl, by decide +kernel, by decide +kernel⟩
section
variable {P : Program} {w : World} {K : PySem.W.Frag} {mg : Str → Option Value} {base : Heap}
theorem ok_is_choice (B : Blt mg) {f : Addr} {fd : FuncData} (F : Fun K "is_choice" "is_choice" st_is_choice f fd) (hm : mg "is_choice" = some (.ref f)) : Has P w K mg base "is_choice" 1 (spI K 2 (bodyI 3 2 s_is_choice)) :=
  has_def F hm S_is_choice (by decide) (fun _ _ _ _ _ _ us hl => match us, hl with | [_, _], _ => rfl) fun cdv A outer s H E hr => (ss_cons (ss_if (st_isN (se_var 0)) (ss_one (ss_ret (se_cmp (op_tIn hr.units) se_non (se_var 1) rfl))) ss_nil)
  (ss_cons (ss_if (st_tru (se_isA .tStr (by rfl) B.b_isinstance bb_isinstance (se_var 0) (by rfl) B.b_str bb_str)) (ss_one (ss_ret (se_cmp (op_tIn hr.units) (se_var 0) (se_lc 2 rfl S_is_choice.nd (si_tup (se_var 1)) (blkOk_by (own := [("one", 2)]) (N := n_is_choice) (sc := defScope st_is_choice) (by decide +kernel)) (fun _ _ _ _ _ => pg_name (i := 2) S_is_choice.nd rfl (Or.inl rfl)) (fun _ _ _ _ _ => (sts_one (st_tru (se_isA .tStr (by rfl) B.b_isinstance bb_isinstance (se_var 2) (by rfl) B.b_str bb_str)))) (fun _ _ _ _ _ => (se_var 2))) rfl))) ss_nil)
  (ss_cons (ss_if (st_tru (se_isA .tBool (by rfl) B.b_isinstance bb_isinstance (se_var 0) (by rfl) B.b_bool bb_bool)) (ss_one (ss_ret (se_cmp (op_tIn hr.units) (se_var 0) (se_lc 2 rfl S_is_choice.nd (si_tup (se_var 1)) (blkOk_by (own := [("one", 2)]) (N := n_is_choice) (sc := defScope st_is_choice) (by decide +kernel)) (fun _ _ _ _ _ => pg_name (i := 2) S_is_choice.nd rfl (Or.inl rfl)) (fun _ _ _ _ _ => (sts_one (st_tru (se_isA .tBool (by rfl) B.b_isinstance bb_isinstance (se_var 2) (by rfl) B.b_bool bb_bool)))) (fun _ _ _ _ _ => (se_var 2))) rfl))) ss_nil)
  (ss_cons (ss_if (st_not (st_tru (se_isA .tInt (by rfl) B.b_isinstance bb_isinstance (se_var 0) (by rfl) B.b_int bb_int))) (ss_one (ss_ret se_bl)) ss_nil)
  (ss_one (ss_ret (se_cmp (op_tIn hr.units) (se_var 0) (se_lc 2 rfl S_is_choice.nd (si_tup (se_var 1)) (blkOk_by (own := [("one", 2)]) (N := n_is_choice) (sc := defScope st_is_choice) (by decide +kernel)) (fun _ _ _ _ _ => pg_name (i := 2) S_is_choice.nd rfl (Or.inl rfl)) (fun _ _ _ _ _ => (sts_one (st_w (sw_and (st_tru (se_isA .tInt (by rfl) B.b_isinstance bb_isinstance (se_var 2) (by rfl) B.b_int bb_int)) (sw_and1 (st_not (st_tru (se_isA .tBool (by rfl) B.b_isinstance bb_isinstance (se_var 2) (by rfl) B.b_bool bb_bool)))))))) (fun _ _ _ _ _ => (se_var 2))) rfl)))))))
theorem ok_first_stand (B : Blt mg) {f : Addr} {fd : FuncData} (F : Fun K "first_stand" "first_stand" st_first_stand f fd) (hm : mg "first_stand" = some (.ref f)) : Has P w K mg base "first_stand" 1 (spI K 1 (bodyI 7 1 s_first_stand)) :=
  has_def F hm S_first_stand (by decide) (fun _ _ _ _ _ _ us hl => match us, hl with | [_], _ => rfl) fun cdv A outer s H E hr => (ss_cons (ss_asg (se_slH (se_var 0) se_int) (sg_tup 5 rfl (sgs_cons 1 S_first_stand.nd (sgs_cons 2 S_first_stand.nd (sgs_cons 3 S_first_stand.nd (sgs_cons 4 S_first_stand.nd (sgs_cons 5 S_first_stand.nd sgs_nil)))))))
  (ss_cons (ss_set 6 S_first_stand.nd (se_if (st_isN (se_var 4)) (se_tup sa_nil al_nil) (se_bin op_tMul (se_tup (sa_cons (se_bin op_tAdd (se_var 4) se_int) sa_nil) (al_cons al_nil)) (se_var 1))))
  (ss_one (ss_ret (se_tup (sa_cons se_bl (sa_cons (se_if (st_tru (se_var 3)) se_int se_int) (sa_cons (se_var 6) (sa_cons (se_if (st_isN (se_var 5)) se_int (se_var 5)) (sa_cons se_int sa_nil))))) (al_cons (al_cons (al_cons (al_cons (al_cons al_nil))))))))))
theorem ok_is_good (B : Blt mg) {f : Addr} {fd : FuncData} (F : Fun K "is_good" "is_good" st_is_good f fd) (hm : mg "is_good" = some (.ref f)) : Has P w K mg base "is_good" 1 (spI K 3 (bodyI 8 3 s_is_good)) :=
  has_def F hm S_is_good (by decide) (fun _ _ _ _ _ _ us hl => match us, hl with | [_, _, _], _ => rfl) fun cdv A outer s H E hr => (ss_cons (ss_asg (se_slH (se_var 0) se_int) (sg_tup 5 rfl (sgs_cons 3 S_is_good.nd (sgs_cons 4 S_is_good.nd (sgs_cons 5 S_is_good.nd (sgs_cons 6 S_is_good.nd (sgs_cons 7 S_is_good.nd sgs_nil)))))))
  (ss_cons (ss_if (st_tru (se_ix (se_var 1) se_int)) (ss_one (ss_ret se_bl)) ss_nil)
  (ss_cons (ss_if (st_cmp (op_tEq hr.units) (se_var 2) se_int (nomark _)) (ss_one (ss_ret se_bl)) ss_nil)
  (ss_cons (ss_if (st_w (sw_or (st_cmp op_tGt (se_var 2) (se_var 3) (nomark _)) (sw_or1 (st_w (sw_and (st_tru (se_var 5)) (sw_and1 (st_cmp op_tGt (se_var 2) (se_ix (se_var 1) se_int) (nomark _)))))))) (ss_one (ss_ret se_bl)) ss_nil)
  (ss_cons (ss_if (st_w (sw_and (st_notN (se_var 6)) (sw_and1 (st_cmp op_tGt (se_ix (se_ix (se_var 1) se_int) (se_bin op_tSub (se_var 2) se_int)) (se_var 6) (nomark _))))) (ss_one (ss_ret se_bl)) ss_nil)
  (ss_one (ss_ret (se_or (se_isN (se_var 7)) (se_and1 (se_cmp op_tGt (se_ix (se_var 1) se_int) se_int (nomark _)))))))))))
theorem ok_with_token (B : Blt mg) {f : Addr} {fd : FuncData} (F : Fun K "with_token" "with_token" st_with_token f fd) (hm : mg "with_token" = some (.ref f)) : Has P w K mg base "with_token" 1 (spI K 5 (bodyI 5 5 s_with_token)) :=
  has_def F hm S_with_token (by decide) (fun _ _ _ _ _ _ us hl => match us, hl with | [_, _, _, _, _], _ => rfl) fun cdv A outer s H E hr => (ss_one (ss_ret (se_tup (sa_cons se_bl (sa_cons (se_if (st_tru (se_ix (se_var 0) se_int)) (se_callB (call_tMin rfl) (by rfl) B.b_min bb_min (sa_cons (se_callTy call_tInt (by rfl) B.b_int bb_int (sa_cons (se_bin op_tAdd (se_var 1) se_int) sa_nil)) (sa_cons (se_callTy call_tInt (by rfl) B.b_int bb_int (sa_cons (se_bin op_tAdd (se_ix (se_var 0) se_int) se_int) sa_nil)) sa_nil))) se_int) (sa_cons (se_slH (se_bin op_tAdd (se_tup (sa_cons se_int sa_nil) (al_cons al_nil)) (se_var 2)) (se_callB call_tLen (by rfl) B.b_len bb_len (sa_cons (se_var 2) sa_nil))) (sa_cons (se_var 3) (sa_cons (se_var 4) sa_nil))))) (al_cons (al_cons (al_cons (al_cons (al_cons al_nil))))))))
theorem ok_ticked (B : Blt mg) {f : Addr} {fd : FuncData} (F : Fun K "ticked" "ticked" st_ticked f fd) (hm : mg "ticked" = some (.ref f)) : Has P w K mg base "ticked" 1 (spI K 2 (bodyI 4 2 s_ticked)) :=
  has_def F hm S_ticked (by decide) (fun _ _ _ _ _ _ us hl => match us, hl with | [_, _], _ => rfl) fun cdv A outer s H E hr => (ss_cons (ss_set 2 S_ticked.nd (se_ix (se_var 0) se_int))
  (ss_cons (ss_if (st_w (sw_or (st_isN (se_var 2)) (sw_or1 (st_tru (se_ix (se_var 1) se_int))))) (ss_one (ss_ret (se_var 1))) ss_nil)
  (ss_one (ss_ret (se_tup (sa_cons se_bl (sa_cons (se_ix (se_var 1) se_int) (sa_cons (se_callTy call_tTuple (by rfl) B.b_tuple bb_tuple (sa_cons (se_lc 3 rfl S_ticked.nd (si_tup (se_ix (se_var 1) se_int)) (blkOk_by (own := [("age", 3)]) (N := n_ticked) (sc := defScope st_ticked) (by decide +kernel)) (fun _ _ _ _ _ => pg_name (i := 3) S_ticked.nd rfl (Or.inl rfl)) (fun _ _ _ _ _ => sts_nil) (fun _ _ _ _ _ => (se_callB (call_tMin rfl) (by rfl) B.b_min bb_min (sa_cons (se_callTy call_tInt (by rfl) B.b_int bb_int (sa_cons (se_bin op_tAdd (se_var 3) se_int) sa_nil)) (sa_cons (se_callTy call_tInt (by rfl) B.b_int bb_int (sa_cons (se_bin op_tAdd (se_var 2) se_int) sa_nil)) sa_nil))))) sa_nil)) (sa_cons (se_ix (se_var 1) se_int) (sa_cons (se_ix (se_var 1) se_int) sa_nil))))) (al_cons (al_cons (al_cons (al_cons (al_cons al_nil))))))))))
theorem ok_is_event (B : Blt mg) (C_HOLDERS : HasC K mg "HOLDERS" c_HOLDERS) (C_TICK : HasC K mg "TICK" c_TICK) {f : Addr} {fd : FuncData} (F : Fun K "is_event" "is_event" st_is_event f fd) (hm : mg "is_event" = some (.ref f)) : Has P w K mg base "is_event" 1 (spI K 1 (bodyI 1 1 s_is_event)) :=
  has_def F hm S_is_event (by decide) (fun _ _ _ _ _ _ us hl => match us, hl with | [_], _ => rfl) fun cdv A outer s H E hr => (ss_cons (ss_if (st_not (st_tru (se_isA .tStr (by rfl) B.b_isinstance bb_isinstance (se_var 0) (by rfl) B.b_str bb_str))) (ss_one (ss_ret se_bl)) ss_nil)
  (ss_cons (ss_if (st_cmp (op_tIn hr.units) (se_var 0) (se_tup (sa_cons (sh_glob C_TICK) (sa_cons (se_str [97, 98]) (sa_cons (se_str [98, 97]) sa_nil))) (al_cons (al_cons (al_cons al_nil)))) rfl) (ss_one (ss_ret se_bl)) ss_nil)
  (ss_one (ss_ret (se_and (se_cmp (op_tEq hr.units) (se_callB call_tLen (by rfl) B.b_len bb_len (sa_cons (se_var 0) sa_nil)) se_int (nomark _)) (se_and (se_cmp (op_tIn hr.units) (se_ix (se_var 0) se_int) (sh_glob C_HOLDERS) rfl) (se_and1 (se_cmp (op_tIn hr.units) (se_ix (se_var 0) se_int) (se_str [33, 45, 126, 43]) rfl))))))))
theorem ok__law_bag (B : Blt mg) {f : Addr} {fd : FuncData} (F : Fun K "_law_bag" "_law_bag" st__law_bag f fd) (hm : mg "_law_bag" = some (.ref f)) : Has P w K mg base "_law_bag" 1 (spI K 2 (bodyI 5 2 s_law_bag)) :=
  has_def F hm S__law_bag (by decide) (fun _ _ _ _ _ _ us hl => match us, hl with | [_, _], _ => rfl) fun cdv A outer s H E hr => (ss_cons (ss_set 2 S__law_bag.nd se_int)
  (ss_cons (ss_if (st_cmp op_tLt (se_var 1) (se_callB call_tLen (by rfl) B.b_len bb_len (sa_cons (se_var 0) sa_nil)) (nomark _)) (ss_one (ss_set 2 S__law_bag.nd (se_bin op_tMod (se_callTy call_tInt (by rfl) B.b_int bb_int (sa_cons (se_ix (se_var 0) (se_var 1)) sa_nil)) (se_bin op_tPow se_int se_int)))) ss_nil)
  (ss_cons (ss_set 3 S__law_bag.nd (se_bin op_tAdd (se_bin op_tMul (se_bin op_tMod (se_callTy call_tInt (by rfl) B.b_int bb_int (sa_cons (se_var 2) sa_nil)) se_int) se_int) (se_bin op_tMul (se_bin op_tMul se_int (se_var 1)) (se_var 1))))
  (ss_cons (ss_set 4 S__law_bag.nd (se_bin op_tAdd se_int (se_bin op_tMod (se_callTy call_tInt (by rfl) B.b_int bb_int (sa_cons (se_bin op_tAdd (se_bin op_tAdd (se_var 3) (se_bin op_tMul se_int (se_var 1))) se_int) sa_nil)) se_int)))
  (ss_cons (ss_if (st_cmp op_tLt (se_var 2) (se_bin op_tPow se_int se_int) (nomark _)) (ss_one (ss_ret (se_lstM (sa_cons se_int (sa_cons (se_var 4) sa_nil)) (al_cons (al_cons al_nil))))) ss_nil)
  (ss_one (ss_ret (se_lstM (sa_cons (se_var 2) (sa_cons (se_var 4) sa_nil)) (al_cons (al_cons al_nil))))))))))
theorem ok__law_take (B : Blt mg) {f : Addr} {fd : FuncData} (F : Fun K "_law_take" "_law_take" st__law_take f fd) (hm : mg "_law_take" = some (.ref f)) : Has P w K mg base "_law_take" 1 (spI K 2 (bodyI 4 2 s_law_take)) :=
  has_def F hm S__law_take (by decide) (fun _ _ _ _ _ _ us hl => match us, hl with | [_, _], _ => rfl) fun cdv A outer s H E hr => (ss_cons (ss_if (st_cmp op_tGt (se_ix (se_var 0) se_int) se_int (nomark _)) (ss_cons (ss_set 2 S__law_take.nd (se_bin op_tMod (se_callTy call_tInt (by rfl) B.b_int bb_int (sa_cons (se_ix (se_var 0) se_int) sa_nil)) (se_var 1)))
  (ss_cons (ss_asg (se_bin op_tFDiv (se_callTy call_tInt (by rfl) B.b_int bb_int (sa_cons (se_ix (se_var 0) se_int) sa_nil)) (se_var 1)) (sg_sub (se_var 0) se_int))
  (ss_one (ss_ret (se_var 2))))) ss_nil)
  (ss_cons (ss_asg (se_bin op_tMod (se_callTy call_tInt (by rfl) B.b_int bb_int (sa_cons (se_bin op_tMul (se_ix (se_var 0) se_int) se_int) sa_nil)) se_int) (sg_sub (se_var 0) se_int))
  (ss_cons (ss_set 3 S__law_take.nd (se_bin op_tMul (se_bin op_tFDiv (se_callTy call_tInt (by rfl) B.b_int bb_int (sa_cons (se_ix (se_var 0) se_int) sa_nil)) se_int) (se_bin op_tAdd (se_bin op_tMod (se_callTy call_tInt (by rfl) B.b_int bb_int (sa_cons (se_ix (se_var 0) se_int) sa_nil)) se_int) se_int)))
  (ss_one (ss_ret (se_bin op_tMod (se_callTy call_tInt (by rfl) B.b_int bb_int (sa_cons (se_bin op_tFDiv (se_bin op_tMod (se_callTy call_tInt (by rfl) B.b_int bb_int (sa_cons (se_var 3) sa_nil)) se_int) se_int) sa_nil)) (se_var 1)))))))
theorem ok__law_server (B : Blt mg) {f : Addr} {fd : FuncData} (F : Fun K "_law_server" "_law_server" st__law_server f fd) (hm : mg "_law_server" = some (.ref f)) : Has P w K mg base "_law_server" 1 (spI K 1 (bodyI 1 1 s_law_server)) :=
  has_def F hm S__law_server (by decide) (fun _ _ _ _ _ _ us hl => match us, hl with | [_], _ => rfl) fun cdv A outer s H E hr => (ss_one (ss_ret (se_lstM (sa_cons se_int (sa_cons (se_neg se_int) (sa_cons (se_lst (sa_cons se_int sa_nil) (al_cons al_nil)) (sa_cons se_int (sa_cons (se_ix (se_var 0) se_int) (sa_cons se_int (sa_cons se_bl sa_nil))))))) (al_cons (al_cons (al_cons (al_cons (al_cons (al_cons (al_cons al_nil))))))))))
theorem ok__law_accepts (B : Blt mg) {f : Addr} {fd : FuncData} (F : Fun K "_law_accepts" "_law_accepts" st__law_accepts f fd) (hm : mg "_law_accepts" = some (.ref f)) : Has P w K mg base "_law_accepts" 1 (spI K 3 (bodyI 3 3 s_law_accepts)) :=
  has_def F hm S__law_accepts (by decide) (fun _ _ _ _ _ _ us hl => match us, hl with | [_, _, _], _ => rfl) fun cdv A outer s H E hr => (ss_cons (ss_if (st_tru (se_ix (se_var 1) se_int)) (ss_one (ss_ret se_bl)) ss_nil)
  (ss_cons (ss_if (st_cmp (op_tEq hr.units) (se_var 2) (se_ix (se_var 1) se_int) (nomark _)) (ss_one (ss_ret se_bl)) ss_nil)
  (ss_cons (ss_if (st_w (sw_or (st_cmp op_tGt (se_bin op_tSub (se_ix (se_var 1) se_int) (se_var 2)) (se_ix (se_var 0) se_int) (nomark _)) (sw_or1 (st_w (sw_and (st_tru (se_ix (se_var 0) se_int)) (sw_and1 (st_cmp op_tLt (se_var 2) (se_ix (se_var 1) se_int) (nomark _)))))))) (ss_one (ss_ret se_bl)) ss_nil)
  (ss_cons (ss_if (st_w (sw_and (st_notN (se_ix (se_var 0) se_int)) (sw_and1 (st_cmp op_tGt (se_bin op_tSub (se_ix (se_var 1) se_int) (se_ix (se_ix (se_var 1) se_int) (se_bin op_tAdd (se_var 2) se_int))) (se_ix (se_var 0) se_int) (nomark _))))) (ss_one (ss_ret se_bl)) ss_nil)
  (ss_one (ss_ret (se_or (se_isN (se_ix (se_var 0) se_int)) (se_and1 (se_cmp op_tGt (se_ix (se_var 1) se_int) se_int (nomark _))))))))))
theorem ok__law_next_events (B : Blt mg) {f : Addr} {fd : FuncData} (F : Fun K "_law_next_events" "_law_next_events" st__law_next_events f fd) (hm : mg "_law_next_events" = some (.ref f)) : Has P w K mg base "_law_next_events" 1 (spI K 3 (bodyI 6 3 s_law_next_events)) :=
  has_def F hm S__law_next_events (by decide) (fun _ _ _ _ _ _ us hl => match us, hl with | [_, _, _], _ => rfl) fun cdv A outer s H E hr => (ss_cons (ss_set 3 S__law_next_events.nd (se_lst (sa_cons (se_str [46, 46]) sa_nil) (al_cons al_nil)))
  (ss_cons (ss_for PassesOwn.never rfl (si_rng1 (by rfl) B.b_range se_int) (sg_name 4 S__law_next_events.nd) (ss_cons (ss_set 5 S__law_next_events.nd (se_ix (se_str [97, 98]) (se_var 4)))
  (ss_one (ss_if (st_w (sw_and (st_tru (se_ix (se_var 0) (se_var 4))) (sw_and1 (st_w (sw_or (st_cmp (op_tEq hr.units) (se_var 4) se_int (nomark _)) (sw_or1 (st_cmp (op_tNe hr.units) (se_var 2) (se_str [97, 108, 111, 110, 101]) (nomark _)))))))) (ss_cons (ss_set 3 S__law_next_events.nd (se_bin op_tAdd (se_var 3) (se_lst (sa_cons (se_bin op_tAdd (se_var 5) (se_str [33])) (sa_cons (se_bin op_tAdd (se_var 5) (se_str [33])) (sa_cons (se_bin op_tAdd (se_var 5) (se_str [45])) sa_nil))) (al_cons (al_cons (al_cons al_nil))))))
  (ss_cons (ss_if (st_cmp (op_tNe hr.units) (se_var 2) (se_str [112, 108, 97, 105, 110]) (nomark _)) (ss_one (ss_set 3 S__law_next_events.nd (se_bin op_tAdd (se_bin op_tAdd (se_var 3) (se_lst (sa_cons (se_bin op_tAdd (se_var 5) (se_str [126])) sa_nil) (al_cons al_nil))) (se_bin op_tMul (se_lst (sa_cons (se_bin op_tAdd (se_var 5) (se_str [43])) sa_nil) (al_cons al_nil)) (se_callTy call_tInt (by rfl) B.b_int bb_int (sa_cons (se_ix (se_var 1) (se_var 4)) sa_nil)))))) ss_nil)
  (ss_one (ss_if (st_cmp (op_tNe hr.units) (se_var 2) (se_str [97, 108, 111, 110, 101]) (nomark _)) (ss_one (ss_set 3 S__law_next_events.nd (se_bin op_tAdd (se_var 3) (se_slLH (se_lst (sa_cons (se_str [97, 98]) (sa_cons (se_str [98, 97]) sa_nil)) (al_cons (al_cons al_nil))) (se_var 4) (se_bin op_tAdd (se_var 4) se_int))))) ss_nil)))) ss_nil))))
  (ss_one (ss_ret (se_var 3)))))
theorem ok__law_rules (B : Blt mg) {f : Addr} {fd : FuncData} (F : Fun K "_law_rules" "_law_rules" st__law_rules f fd) (hm : mg "_law_rules" = some (.ref f)) : Has P w K mg base "_law_rules" 1 (spI K 1 (bodyI 9 1 s_law_rules)) :=
  has_def F hm S__law_rules (by decide) (fun _ _ _ _ _ _ us hl => match us, hl with | [_], _ => rfl) fun cdv A outer s H E hr => (ss_cons (ss_set 1 S__law_rules.nd (se_lstM sa_nil al_nil))
  (ss_cons (ss_for PassesOwn.never rfl (si_list (se_lst (sa_cons se_int (sa_cons se_int (sa_cons se_int sa_nil))) (al_cons (al_cons (al_cons al_nil))))) (sg_name 2 S__law_rules.nd) (ss_one (ss_for PassesOwn.never rfl (si_list (se_lst (sa_cons (se_str [115, 97, 109, 101]) (sa_cons (se_str [110, 101, 119]) sa_nil)) (al_cons (al_cons al_nil)))) (sg_name 3 S__law_rules.nd) (ss_one (ss_for PassesOwn.never rfl (si_list (se_lst (sa_cons se_bl (sa_cons se_bl sa_nil)) (al_cons (al_cons al_nil)))) (sg_name 4 S__law_rules.nd) (ss_one (ss_for PassesOwn.never rfl (si_list (se_lst (sa_cons se_non (sa_cons se_int (sa_cons se_int (sa_cons se_int sa_nil)))) (al_cons (al_cons (al_cons (al_cons al_nil)))))) (sg_name 5 S__law_rules.nd) (ss_one (ss_for PassesOwn.never rfl (si_list (se_lst (sa_cons se_non (sa_cons se_int (sa_cons se_int (sa_cons se_int sa_nil)))) (al_cons (al_cons (al_cons (al_cons al_nil)))))) (sg_name 6 S__law_rules.nd) (ss_one (ss_for PassesOwn.never rfl (si_list (se_lst (sa_cons (se_str [114, 101, 102, 117, 115, 101]) (sa_cons (se_str [101, 110, 100]) sa_nil)) (al_cons (al_cons al_nil)))) (sg_name 7 S__law_rules.nd) (ss_cons (ss_set 8 S__law_rules.nd (se_bin op_tAdd se_int (se_bin op_tMod (se_callTy call_tInt (by rfl) B.b_int bb_int (sa_cons (se_bin op_tAdd (se_callB call_tLen (by rfl) B.b_len bb_len (sa_cons (se_var 1) sa_nil)) (se_var 2)) sa_nil)) se_int)))
  (ss_one (ss_expr (se_meth (t := .list) PySem.F.plainAttrs_list PySem.F.slot_list_append PySem.F.type_list_append mt_tAppend (se_var 1) (sa_cons (se_tup (sa_cons (se_var 2) (sa_cons (se_var 3) (sa_cons (se_var 4) (sa_cons (se_var 5) (sa_cons (se_var 6) (sa_cons (se_var 8) (sa_cons (se_var 7) sa_nil))))))) (al_cons (al_cons (al_cons (al_cons (al_cons (al_cons (al_cons al_nil)))))))) sa_nil))))))))))))))))
  (ss_one (ss_ret (se_slS (st := 4) (se_var 1) (se_var 0))))))
theorem ok_is_rule (B : Blt mg) (H_is_choice : Has P w K mg base "is_choice" 1 (spP K 2 f_is_choice)) (C_CHOICES : HasC K mg "CHOICES" c_CHOICES) (C_PARTS : HasC K mg "PARTS" c_PARTS) {f : Addr} {fd : FuncData} (F : Fun K "is_rule" "is_rule" st_is_rule f fd) (hm : mg "is_rule" = some (.ref f)) : Has P w K mg base "is_rule" 2 (spI K 1 (bodyI 3 1 s_is_rule)) :=
  has_def F hm S_is_rule (by decide) (fun _ _ _ _ _ _ us hl => match us, hl with | [_], _ => rfl) fun cdv A outer s H E hr => (ss_cons (ss_if (st_w (sw_or (st_not (st_tru (se_isA .tTup (by rfl) B.b_isinstance bb_isinstance (se_var 0) (by rfl) B.b_tuple bb_tuple))) (sw_or1 (st_cmp (op_tNe hr.units) (se_callB call_tLen (by rfl) B.b_len bb_len (sa_cons (se_var 0) sa_nil)) (se_callB call_tLen (by rfl) B.b_len bb_len (sa_cons (sh_glob C_PARTS) sa_nil)) (nomark _))))) (ss_one (ss_ret se_bl)) ss_nil)
  (ss_one (ss_ret (se_callB (call_tAll rfl) (by rfl) B.b_all bb_all (sa_cons (se_lcT [1, 2] rfl S_is_rule.nd (si_zip (by rfl) B.b_zip (se_var 0) (sh_glob C_CHOICES)) (blkOk_by (own := [("part", 1), ("choices", 2)]) (N := n_is_rule) (sc := defScope st_is_rule) (by decide +kernel)) (fun _ _ _ _ _ => pg_tup rfl (sgt_cons 1 S_is_rule.nd (sgt_cons 2 S_is_rule.nd sgt_nil))) (fun _ _ _ _ _ => sts_nil) (fun _ _ _ _ _ => (sh_callP H_is_choice (hr.mono (by decide)) (sa_cons (se_var 1) (sa_cons (se_var 2) sa_nil)) (al_cons (al_cons al_nil))))) sa_nil)))))
theorem ok_requested (B : Blt mg) (H_with_token : Has P w K mg base "with_token" 1 (spP K 5 f_with_token)) (H_is_good : Has P w K mg base "is_good" 1 (spP K 3 f_is_good)) {f : Addr} {fd : FuncData} (F : Fun K "requested" "requested" st_requested f fd) (hm : mg "requested" = some (.ref f)) : Has P w K mg base "requested" 2 (spI K 3 (bodyI 10 3 s_requested)) :=
  has_def F hm S_requested (by decide) (fun _ _ _ _ _ _ us hl => match us, hl with | [_, _, _], _ => rfl) fun cdv A outer s H E hr => (ss_cons (ss_if (st_not (st_tru (sh_callP H_is_good (hr.mono (by decide)) (sa_cons (se_var 0) (sa_cons (se_var 1) (sa_cons (se_var 2) sa_nil))) (al_cons (al_cons (al_cons al_nil)))))) (ss_one (ss_ret (se_tup (sa_cons (se_bin op_tAdd (se_tup (sa_cons (se_or (se_ix (se_var 1) se_int) (se_and1 (se_cmp (op_tEq hr.units) (se_ix (se_var 0) se_int) (se_str [101, 110, 100]) (nomark _)))) sa_nil) (al_cons al_nil)) (se_slL (se_var 1) se_int)) (sa_cons (se_str [114, 101, 102, 117, 115, 101, 100]) sa_nil)) (al_cons (al_cons al_nil))))) ss_nil)
  (ss_cons (ss_asg (se_var 1) (sg_tup 5 rfl (sgs_cons 3 S_requested.nd (sgs_cons 4 S_requested.nd (sgs_cons 5 S_requested.nd (sgs_cons 6 S_requested.nd (sgs_cons 7 S_requested.nd sgs_nil)))))))
  (ss_cons (ss_par2 8 9 rfl S_requested.nd (sa_cons (se_ix (se_var 0) se_int) (sa_cons (se_ix (se_var 0) se_int) sa_nil)))
  (ss_cons (ss_if (st_cmp (op_tEq hr.units) (se_var 2) se_int (nomark _)) (ss_cons (ss_if (st_notN (se_var 8)) (ss_cons (ss_set 7 S_requested.nd (se_bin op_tMod (se_bin op_tAdd (se_var 7) se_int) (se_var 9)))
  (ss_one (ss_set 6 S_requested.nd (se_callB (call_tMin rfl) (by rfl) B.b_min bb_min (sa_cons (se_callTy call_tInt (by rfl) B.b_int bb_int (sa_cons (se_var 8) sa_nil)) (sa_cons (se_callTy call_tInt (by rfl) B.b_int bb_int (sa_cons (se_bin op_tAdd (se_var 6) (se_callTy call_tInt (by rfl) B.b_int bb_int (sa_cons (se_cmp (op_tEq hr.units) (se_var 7) se_int (nomark _)) sa_nil))) sa_nil)) sa_nil)))))) ss_nil)
  (ss_one (ss_ret (se_tup (sa_cons (sh_callP H_with_token (hr.mono (by decide)) (sa_cons (se_var 0) (sa_cons se_int (sa_cons (se_var 5) (sa_cons (se_var 6) (sa_cons (se_var 7) sa_nil))))) (al_cons (al_cons (al_cons (al_cons (al_cons al_nil)))))) (sa_cons (se_str [109, 97, 100, 101]) sa_nil)) (al_cons (al_cons al_nil)))))) ss_nil)
  (ss_cons (ss_set 4 S_requested.nd (se_callB (call_tMin rfl) (by rfl) B.b_min bb_min (sa_cons (se_callTy call_tInt (by rfl) B.b_int bb_int (sa_cons (se_var 4) sa_nil)) (sa_cons (se_callTy call_tInt (by rfl) B.b_int bb_int (sa_cons (se_var 2) sa_nil)) sa_nil))))
  (ss_cons (ss_set 6 S_requested.nd (se_if (st_isN (se_var 8)) se_int (se_bin op_tSub (se_var 6) se_int)))
  (ss_cons (ss_if (st_cmp (op_tEq hr.units) (se_ix (se_var 0) se_int) (se_str [115, 97, 109, 101]) (nomark _)) (ss_one (ss_ret (se_tup (sa_cons (se_tup (sa_cons se_bl (sa_cons (se_var 4) (sa_cons (se_var 5) (sa_cons (se_var 6) (sa_cons (se_var 7) sa_nil))))) (al_cons (al_cons (al_cons (al_cons (al_cons al_nil)))))) (sa_cons (se_str [110, 101, 119, 101, 115, 116]) sa_nil)) (al_cons (al_cons al_nil))))) ss_nil)
  (ss_one (ss_ret (se_tup (sa_cons (sh_callP H_with_token (hr.mono (by decide)) (sa_cons (se_var 0) (sa_cons (se_var 4) (sa_cons (se_var 5) (sa_cons (se_var 6) (sa_cons (se_var 7) sa_nil))))) (al_cons (al_cons (al_cons (al_cons (al_cons al_nil)))))) (sa_cons (se_str [109, 97, 100, 101]) sa_nil)) (al_cons (al_cons al_nil))))))))))))
theorem ok_is_history (B : Blt mg) (H_is_event : Has P w K mg base "is_event" 1 (spP K 1 f_is_event)) (C_HOLDERS : HasC K mg "HOLDERS" c_HOLDERS) (C_TICK : HasC K mg "TICK" c_TICK) (C_MOST_EVENTS : HasC K mg "MOST_EVENTS" c_MOST_EVENTS) {f : Addr} {fd : FuncData} (F : Fun K "is_history" "is_history" st_is_history f fd) (hm : mg "is_history" = some (.ref f)) : Has P w K mg base "is_history" 2 (spI K 1 (bodyI 5 1 s_is_history)) :=
  has_def F hm S_is_history (by decide) (fun _ _ _ _ _ _ us hl => match us, hl with | [_], _ => rfl) fun cdv A outer s H E hr => (ss_cons (ss_if (st_w (sw_or (st_not (st_tru (se_isA .tTup (by rfl) B.b_isinstance bb_isinstance (se_var 0) (by rfl) B.b_tuple bb_tuple))) (sw_or1 (st_cmp op_tGt (se_callB call_tLen (by rfl) B.b_len bb_len (sa_cons (se_var 0) sa_nil)) (sh_glob C_MOST_EVENTS) (nomark _))))) (ss_one (ss_ret se_bl)) ss_nil)
  (ss_cons (ss_set 1 S_is_history.nd (se_lstM (sa_cons se_bl (sa_cons se_bl sa_nil)) (al_cons (al_cons al_nil))))
  (ss_cons (ss_set 2 S_is_history.nd (se_lstM (sa_cons se_bl (sa_cons se_bl sa_nil)) (al_cons (al_cons al_nil))))
  (ss_cons (ss_for PassesOwn.never rfl (si_tup (se_var 0)) (sg_name 3 S_is_history.nd) (ss_cons (ss_if (st_not (st_tru (sh_callP H_is_event (hr.mono (by decide)) (sa_cons (se_var 3) sa_nil) (al_cons al_nil)))) (ss_one (ss_ret se_bl)) ss_nil)
  (ss_cons (ss_if (st_cmp (op_tEq hr.units) (se_var 3) (sh_glob C_TICK) (nomark _)) (ss_one ss_cont) ss_nil)
  (ss_cons (ss_set 4 S_is_history.nd (se_meth (t := .str) PySem.F.plainAttrs_str PySem.F.slot_str_index PySem.F.type_str_index mt_tIndexS (sh_glob C_HOLDERS) (sa_cons (se_ix (se_var 3) se_int) sa_nil)))
  (ss_cons (ss_if (st_w (sw_or (st_not (st_tru (se_ix (se_var 1) (se_var 4)))) (sw_or1 (st_w (sw_and (st_cmp (op_tEq hr.units) (se_ix (se_var 3) se_int) (se_str [43]) (nomark _)) (sw_and1 (st_not (st_tru (se_ix (se_var 2) (se_var 4)))))))))) (ss_one (ss_ret se_bl)) ss_nil)
  (ss_one (ss_if (st_cmp (op_tIn hr.units) (se_ix (se_var 3) se_int) (sh_glob C_HOLDERS) rfl) (ss_cons (ss_asg se_bl (sg_sub (se_var 1) (se_bin op_tSub se_int (se_var 4))))
  (ss_one (ss_asg se_bl (sg_sub (se_var 2) (se_bin op_tSub se_int (se_var 4)))))) (ss_one (ss_if (st_cmp (op_tIn hr.units) (se_ix (se_var 3) se_int) (se_str [126, 43]) rfl) (ss_one (ss_asg (se_cmp (op_tEq hr.units) (se_ix (se_var 3) se_int) (se_str [126]) (nomark _)) (sg_sub (se_var 2) (se_var 4)))) ss_nil)))))))))
  (ss_one (ss_ret se_bl))))))
theorem ok__law_of (B : Blt mg) (H__law_take : Has P w K mg base "_law_take" 1 (spI K 2 i_law_take)) {f : Addr} {fd : FuncData} (F : Fun K "_law_of" "_law_of" st__law_of f fd) (hm : mg "_law_of" = some (.ref f)) : Has P w K mg base "_law_of" 2 (spI K 2 (bodyI 2 2 s_law_of)) :=
  has_def F hm S__law_of (by decide) (fun _ _ _ _ _ _ us hl => match us, hl with | [_, _], _ => rfl) fun cdv A outer s H E hr => (ss_one (ss_ret (se_ix (se_var 1) (sh_callI H__law_take (hr.mono (by decide)) (sa_cons (se_var 0) (sa_cons (se_callB call_tLen (by rfl) B.b_len bb_len (sa_cons (se_var 1) sa_nil)) sa_nil)) (al_cons (al_cons al_nil))))))
theorem ok__law_asked (B : Blt mg) (H__law_accepts : Has P w K mg base "_law_accepts" 1 (spI K 3 i_law_accepts)) {f : Addr} {fd : FuncData} (F : Fun K "_law_asked" "_law_asked" st__law_asked f fd) (hm : mg "_law_asked" = some (.ref f)) : Has P w K mg base "_law_asked" 2 (spI K 3 (bodyI 4 3 s_law_asked)) :=
  has_def F hm S__law_asked (by decide) (fun _ _ _ _ _ _ us hl => match us, hl with | [_, _, _], _ => rfl) fun cdv A outer s H E hr => (ss_cons (ss_if (st_not (st_tru (sh_callI H__law_accepts (hr.mono (by decide)) (sa_cons (se_var 0) (sa_cons (se_var 1) (sa_cons (se_var 2) sa_nil))) (al_cons (al_cons (al_cons al_nil)))))) (ss_cons (ss_asg (se_or (se_ix (se_var 1) se_int) (se_and1 (se_cmp (op_tEq hr.units) (se_ix (se_var 0) se_int) (se_str [101, 110, 100]) (nomark _)))) (sg_sub (se_var 1) se_int))
  (ss_one (ss_ret se_non))) ss_nil)
  (ss_cons (ss_set 3 S__law_asked.nd (se_cmp (op_tEq hr.units) (se_var 2) (se_ix (se_var 1) se_int) (nomark _)))
  (ss_cons (ss_if (st_w (sw_or (st_tru (se_var 3)) (sw_or1 (st_cmp (op_tEq hr.units) (se_ix (se_var 0) se_int) (se_str [110, 101, 119]) (nomark _))))) (ss_cons (ss_asg (se_bin op_tAdd (se_ix (se_var 1) se_int) se_int) (sg_sub (se_var 1) se_int))
  (ss_one (ss_asg (se_bin op_tAdd (se_ix (se_var 1) se_int) (se_lst (sa_cons (se_ix (se_var 1) se_int) sa_nil) (al_cons al_nil))) (sg_sub (se_var 1) se_int)))) ss_nil)
  (ss_cons (ss_asg (se_callB (call_tMax rfl) (by rfl) B.b_max bb_max (sa_cons (se_callTy call_tInt (by rfl) B.b_int bb_int (sa_cons (se_ix (se_var 1) se_int) sa_nil)) (sa_cons (se_callTy call_tInt (by rfl) B.b_int bb_int (sa_cons (se_var 2) sa_nil)) sa_nil))) (sg_sub (se_var 1) se_int))
  (ss_cons (ss_if (st_not (st_tru (se_var 3))) (ss_cons (ss_asg (se_if (st_isN (se_ix (se_var 0) se_int)) se_non (se_bin op_tSub (se_ix (se_var 1) se_int) se_int)) (sg_sub (se_var 1) se_int))
  (ss_one (ss_ret (se_ix (se_var 1) se_int)))) ss_nil)
  (ss_cons (ss_asg (se_bin op_tAdd (se_ix (se_var 1) se_int) se_int) (sg_sub (se_var 1) se_int))
  (ss_cons (ss_if (st_cmp (op_tEq hr.units) (se_ix (se_var 1) se_int) (se_ix (se_var 0) se_int) (nomark _)) (ss_cons (ss_asg se_int (sg_sub (se_var 1) se_int))
  (ss_one (ss_asg (se_if (st_isN (se_ix (se_var 0) se_int)) se_non (se_callB (call_tMin rfl) (by rfl) B.b_min bb_min (sa_cons (se_callTy call_tInt (by rfl) B.b_int bb_int (sa_cons (se_ix (se_var 0) se_int) sa_nil)) (sa_cons (se_callTy call_tInt (by rfl) B.b_int bb_int (sa_cons (se_bin op_tAdd (se_ix (se_var 1) se_int) se_int) sa_nil)) sa_nil)))) (sg_sub (se_var 1) se_int)))) ss_nil)
  (ss_one (ss_ret (se_ix (se_var 1) se_int))))))))))
theorem ok__law_world (B : Blt mg) (H__law_server : Has P w K mg base "_law_server" 1 (spI K 1 i_law_server)) {f : Addr} {fd : FuncData} (F : Fun K "_law_world" "_law_world" st__law_world f fd) (hm : mg "_law_world" = some (.ref f)) : Has P w K mg base "_law_world" 2 (spI K 1 (bodyI 1 1 s_law_world)) :=
  has_def F hm S__law_world (by decide) (fun _ _ _ _ _ _ us hl => match us, hl with | [_], _ => rfl) fun cdv A outer s H E hr => (ss_one (ss_ret (se_lstM (sa_cons (sh_callI H__law_server (hr.mono (by decide)) (sa_cons (se_var 0) sa_nil) (al_cons al_nil)) (sa_cons (se_lstM (sa_cons se_int (sa_cons se_non sa_nil)) (al_cons (al_cons al_nil))) (sa_cons (se_lstM (sa_cons se_non (sa_cons se_non sa_nil)) (al_cons (al_cons al_nil))) sa_nil))) (al_cons (al_cons (al_cons al_nil))))))
theorem ok_need_rule (B : Blt mg) (H_is_rule : Has P w K mg base "is_rule" 2 (spP K 1 f_is_rule)) {f : Addr} {fd : FuncData} (F : Fun K "need_rule" "need_rule" st_need_rule f fd) (hm : mg "need_rule" = some (.ref f)) : Has P w K mg base "need_rule" 3 (spI K 1 (bodyI 1 1 s_need_rule)) :=
  has_def F hm S_need_rule (by decide) (fun _ _ _ _ _ _ us hl => match us, hl with | [_], _ => rfl) fun cdv A outer s H E hr => (ss_one (ss_if (st_not (st_tru (sh_callP H_is_rule (hr.mono (by decide)) (sa_cons (se_var 0) sa_nil) (al_cons al_nil)))) (ss_one ss_never) ss_nil))
theorem ok_need_history (B : Blt mg) (H_is_history : Has P w K mg base "is_history" 2 (spP K 1 f_is_history)) {f : Addr} {fd : FuncData} (F : Fun K "need_history" "need_history" st_need_history f fd) (hm : mg "need_history" = some (.ref f)) : Has P w K mg base "need_history" 3 (spI K 1 (bodyI 1 1 s_need_history)) :=
  has_def F hm S_need_history (by decide) (fun _ _ _ _ _ _ us hl => match us, hl with | [_], _ => rfl) fun cdv A outer s H E hr => (ss_one (ss_if (st_not (st_tru (sh_callP H_is_history (hr.mono (by decide)) (sa_cons (se_var 0) sa_nil) (al_cons al_nil)))) (ss_one ss_never) ss_nil))
theorem ok_answered (B : Blt mg) (H_requested : Has P w K mg base "requested" 2 (spP K 3 f_requested)) {f : Addr} {fd : FuncData} (F : Fun K "answered" "answered" st_answered f fd) (hm : mg "answered" = some (.ref f)) : Has P w K mg base "answered" 3 (spI K 4 (bodyI 7 4 s_answered)) :=
  has_def F hm S_answered (by decide) (fun _ _ _ _ _ _ us hl => match us, hl with | [_, _, _, _], _ => rfl) fun cdv A outer s H E hr => (ss_cons (ss_asg (sh_callP H_requested (hr.mono (by decide)) (sa_cons (se_var 0) (sa_cons (se_var 1) (sa_cons (se_callB (call_tMin rfl) (by rfl) B.b_min bb_min (sa_cons (se_callTy call_tInt (by rfl) B.b_int bb_int (sa_cons (se_bin op_tSub (se_var 2) (se_var 3)) sa_nil)) (sa_cons (se_callTy call_tInt (by rfl) B.b_int bb_int (sa_cons (se_bin op_tAdd (se_ix (se_var 0) se_int) se_int) sa_nil)) sa_nil))) sa_nil))) (al_cons (al_cons (al_cons al_nil)))) (sg_tup 2 rfl (sgs_cons 4 S_answered.nd (sgs_cons 5 S_answered.nd sgs_nil))))
  (ss_cons (ss_if (st_cmp (op_tEq hr.units) (se_var 5) (se_str [114, 101, 102, 117, 115, 101, 100]) (nomark _)) (ss_one (ss_ret (se_tup (sa_cons (se_var 4) (sa_cons (se_var 2) (sa_cons se_non sa_nil))) (al_cons (al_cons (al_cons al_nil)))))) ss_nil)
  (ss_cons (ss_set 6 S_answered.nd (se_bin op_tAdd (se_var 2) (se_callTy call_tInt (by rfl) B.b_int bb_int (sa_cons (se_cmp (op_tEq hr.units) (se_var 5) (se_str [109, 97, 100, 101]) (nomark _)) sa_nil))))
  (ss_one (ss_ret (se_tup (sa_cons (se_var 4) (sa_cons (se_var 6) (sa_cons (se_var 6) sa_nil))) (al_cons (al_cons (al_cons al_nil)))))))))
theorem ok__law_event (B : Blt mg) (H__law_asked : Has P w K mg base "_law_asked" 2 (spI K 3 i_law_asked)) {f : Addr} {fd : FuncData} (F : Fun K "_law_event" "_law_event" st__law_event f fd) (hm : mg "_law_event" = some (.ref f)) : Has P w K mg base "_law_event" 3 (spI K 4 (bodyI 11 4 s_law_event)) :=
  has_def F hm S__law_event (by decide) (fun _ _ _ _ _ _ us hl => match us, hl with | [_, _, _, _], _ => rfl) fun cdv A outer s H E hr => (ss_cons (ss_asg (se_var 1) (sg_seq 3 rfl (sgs_cons 4 S__law_event.nd (sgs_cons 5 S__law_event.nd (sgs_cons 6 S__law_event.nd sgs_nil)))))
  (ss_cons (ss_if (st_cmp (op_tEq hr.units) (se_var 2) (se_str [46, 46]) (nomark _)) (ss_cons (ss_asg (se_bin op_tAdd (se_ix (se_var 4) se_int) se_int) (sg_sub (se_var 4) se_int))
  (ss_one (ss_ret se_non))) ss_nil)
  (ss_cons (ss_set 7 S__law_event.nd (se_meth (t := .str) PySem.F.plainAttrs_str PySem.F.slot_str_index PySem.F.type_str_index mt_tIndexS (se_str [97, 98]) (sa_cons (se_ix (se_var 2) se_int) sa_nil)))
  (ss_cons (ss_if (st_cmp (op_tIn hr.units) (se_var 2) (se_lst (sa_cons (se_str [97, 98]) (sa_cons (se_str [98, 97]) sa_nil)) (al_cons (al_cons al_nil))) rfl) (ss_cons (ss_asg (se_ix (se_var 5) (se_var 7)) (sg_sub (se_var 5) (se_bin op_tSub se_int (se_var 7))))
  (ss_cons (ss_asg se_non (sg_sub (se_var 6) (se_bin op_tSub se_int (se_var 7))))
  (ss_one (ss_ret se_non)))) ss_nil)
  (ss_cons (ss_set 8 S__law_event.nd (se_ix (se_var 5) (se_var 7)))
  (ss_cons (ss_if (st_cmp (op_tEq hr.units) (se_ix (se_var 2) se_int) (se_str [43]) (nomark _)) (ss_cons (ss_asg (se_ix (se_var 6) (se_var 7)) (sg_tup 2 rfl (sgs_cons 9 S__law_event.nd (sgs_cons 10 S__law_event.nd sgs_nil))))
  (ss_cons (ss_asg se_non (sg_sub (se_var 6) (se_var 7)))
  (ss_cons (ss_if (st_w (sw_and (st_notN (se_var 10)) (sw_and1 (st_w (sw_or (st_not (st_tru (se_var 3))) (sw_or1 (st_cmp (op_tEq hr.units) (se_var 9) (se_var 8) (nomark _)))))))) (ss_one (ss_asg (se_var 10) (sg_sub (se_var 5) (se_var 7)))) ss_nil)
  (ss_one (ss_ret se_non))))) ss_nil)
  (ss_cons (ss_set 10 S__law_event.nd (sh_callI H__law_asked (hr.mono (by decide)) (sa_cons (se_var 0) (sa_cons (se_var 4) (sa_cons (se_var 8) sa_nil))) (al_cons (al_cons (al_cons al_nil)))))
  (ss_cons (ss_if (st_w (sw_and (st_cmp (op_tEq hr.units) (se_ix (se_var 2) se_int) (se_str [33]) (nomark _)) (sw_and1 (st_notN (se_var 10))))) (ss_one (ss_asg (se_var 10) (sg_sub (se_var 5) (se_var 7)))) ss_nil)
  (ss_cons (ss_if (st_cmp (op_tEq hr.units) (se_ix (se_var 2) se_int) (se_str [126]) (nomark _)) (ss_one (ss_asg (se_tup (sa_cons (se_var 8) (sa_cons (se_var 10) sa_nil)) (al_cons (al_cons al_nil))) (sg_sub (se_var 6) (se_var 7)))) ss_nil)
  (ss_one (ss_ret (se_tup (sa_cons (se_var 8) (sa_cons (se_var 10) sa_nil)) (al_cons (al_cons al_nil))))))))))))))
theorem ok__law_history (B : Blt mg) (H__law_take : Has P w K mg base "_law_take" 1 (spI K 2 i_law_take)) (H__law_of : Has P w K mg base "_law_of" 2 (spI K 2 i_law_of)) (H__law_next_events : Has P w K mg base "_law_next_events" 1 (spI K 3 i_law_next_events)) {f : Addr} {fd : FuncData} (F : Fun K "_law_history" "_law_history" st__law_history f fd) (hm : mg "_law_history" = some (.ref f)) : Has P w K mg base "_law_history" 3 (spI K 3 (bodyI 8 3 s_law_history)) :=
  has_def F hm S__law_history (by decide) (fun _ _ _ _ _ _ us hl => match us, hl with | [_, _, _], _ => rfl) fun cdv A outer s H E hr => (ss_cons (ss_par3 3 4 5 rfl S__law_history.nd (sa_cons (se_lstM sa_nil al_nil) (sa_cons (se_lstM (sa_cons se_bl (sa_cons se_bl sa_nil)) (al_cons (al_cons al_nil))) (sa_cons (se_lstM (sa_cons se_bl (sa_cons se_bl sa_nil)) (al_cons (al_cons al_nil))) sa_nil))))
  (ss_cons (ss_for PassesOwn.never rfl (si_rng1 (by rfl) B.b_range (sh_callI H__law_take (hr.mono (by decide)) (sa_cons (se_var 0) (sa_cons (se_bin op_tAdd (se_var 1) se_int) sa_nil)) (al_cons (al_cons al_nil)))) (sg_name 6 S__law_history.nd) (ss_cons (ss_set 7 S__law_history.nd (sh_callI H__law_of (hr.mono (by decide)) (sa_cons (se_var 0) (sa_cons (sh_callI H__law_next_events (hr.mono (by decide)) (sa_cons (se_var 4) (sa_cons (se_var 5) (sa_cons (se_var 2) sa_nil))) (al_cons (al_cons (al_cons al_nil)))) sa_nil)) (al_cons (al_cons al_nil))))
  (ss_cons (ss_expr (se_meth (t := .list) PySem.F.plainAttrs_list PySem.F.slot_list_append PySem.F.type_list_append mt_tAppend (se_var 3) (sa_cons (se_var 7) sa_nil)))
  (ss_one (ss_if (st_cmp (op_tIn hr.units) (se_var 7) (se_lst (sa_cons (se_str [97, 98]) (sa_cons (se_str [98, 97]) sa_nil)) (al_cons (al_cons al_nil))) rfl) (ss_cons (ss_asg se_bl (sg_sub (se_var 4) (se_meth (t := .str) PySem.F.plainAttrs_str PySem.F.slot_str_index PySem.F.type_str_index mt_tIndexS (se_str [98, 97]) (sa_cons (se_ix (se_var 7) se_int) sa_nil))))
  (ss_one (ss_asg se_bl (sg_sub (se_var 5) (se_meth (t := .str) PySem.F.plainAttrs_str PySem.F.slot_str_index PySem.F.type_str_index mt_tIndexS (se_str [98, 97]) (sa_cons (se_ix (se_var 7) se_int) sa_nil)))))) (ss_one (ss_if (st_w (sw_and (st_cmp (op_tIn hr.units) (se_ix (se_var 7) se_int) (se_str [126, 43]) rfl) (sw_and1 (st_cmp (op_tNe hr.units) (se_var 7) (se_str [46, 46]) (nomark _))))) (ss_one (ss_asg (se_cmp (op_tEq hr.units) (se_ix (se_var 7) se_int) (se_str [126]) (nomark _)) (sg_sub (se_var 5) (se_meth (t := .str) PySem.F.plainAttrs_str PySem.F.slot_str_index PySem.F.type_str_index mt_tIndexS (se_str [97, 98]) (sa_cons (se_ix (se_var 7) se_int) sa_nil))))) ss_nil)))))))
  (ss_one (ss_ret (se_callTy call_tTuple (by rfl) B.b_tuple bb_tuple (sa_cons (se_var 3) sa_nil))))))
theorem ok_course (B : Blt mg) (H_ticked : Has P w K mg base "ticked" 1 (spP K 2 f_ticked)) (H_answered : Has P w K mg base "answered" 3 (spP K 4 f_answered)) (H_first_stand : Has P w K mg base "first_stand" 1 (spP K 1 f_first_stand)) (C_TICK : HasC K mg "TICK" c_TICK) (C_HOLDERS : HasC K mg "HOLDERS" c_HOLDERS) {f : Addr} {fd : FuncData} (F : Fun K "course" "course" st_course f fd) (hm : mg "course" = some (.ref f)) : Has P w K mg base "course" 4 (spI K 3 (bodyI 13 3 s_course)) :=
  has_def F hm S_course (by decide) (fun _ _ _ _ _ _ us hl => match us, hl with | [_, _, _], _ => rfl) fun cdv A outer s H E hr => (ss_cons (ss_par2 3 4 rfl S_course.nd (sa_cons (sh_callP H_first_stand (hr.mono (by decide)) (sa_cons (se_var 0) sa_nil) (al_cons al_nil)) (sa_cons se_int sa_nil)))
  (ss_cons (ss_set 5 S_course.nd (se_lstM (sa_cons se_int (sa_cons se_non sa_nil)) (al_cons (al_cons al_nil))))
  (ss_cons (ss_set 6 S_course.nd (se_lstM (sa_cons se_non (sa_cons se_non sa_nil)) (al_cons (al_cons al_nil))))
  (ss_cons (ss_set 7 S_course.nd (se_lstM sa_nil al_nil))
  (ss_cons (ss_for PassesOwn.never rfl (si_tup (se_var 1)) (sg_name 8 S_course.nd) (ss_cons (ss_par2 9 10 rfl S_course.nd (sa_cons se_non (sa_cons (se_meth (t := .str) PySem.F.plainAttrs_str PySem.F.slot_str_find PySem.F.type_str_find mt_tFindS (sh_glob C_HOLDERS) (sa_cons (se_ix (se_var 8) se_int) sa_nil)) sa_nil)))
  (ss_cons (ss_if (st_cmp (op_tEq hr.units) (se_var 8) (sh_glob C_TICK) (nomark _)) (ss_one (ss_set 3 S_course.nd (sh_callP H_ticked (hr.mono (by decide)) (sa_cons (se_var 0) (sa_cons (se_var 3) sa_nil)) (al_cons (al_cons al_nil))))) (ss_one (ss_if (st_cmp (op_tIn hr.units) (se_ix (se_var 8) se_int) (sh_glob C_HOLDERS) rfl) (ss_cons (ss_asg (se_ix (se_var 5) (se_var 10)) (sg_sub (se_var 5) (se_bin op_tSub se_int (se_var 10))))
  (ss_one (ss_asg se_non (sg_sub (se_var 6) (se_bin op_tSub se_int (se_var 10)))))) (ss_one (ss_if (st_cmp (op_tEq hr.units) (se_ix (se_var 8) se_int) (se_str [43]) (nomark _)) (ss_cons (ss_asg (se_ix (se_var 6) (se_var 10)) (sg_tup 2 rfl (sgs_cons 11 S_course.nd (sgs_cons 12 S_course.nd sgs_nil))))
  (ss_cons (ss_asg se_non (sg_sub (se_var 6) (se_var 10)))
  (ss_one (ss_if (st_w (sw_and (st_notN (se_var 12)) (sw_and1 (st_w (sw_or (st_not (st_tru (se_var 2))) (sw_or1 (st_cmp (op_tEq hr.units) (se_ix (se_var 5) (se_var 10)) (se_var 11) (nomark _)))))))) (ss_one (ss_asg (se_var 12) (sg_sub (se_var 5) (se_var 10)))) ss_nil)))) (ss_cons (ss_set 11 S_course.nd (se_ix (se_var 5) (se_var 10)))
  (ss_cons (ss_asg (sh_callP H_answered (hr.mono (by decide)) (sa_cons (se_var 0) (sa_cons (se_var 3) (sa_cons (se_var 4) (sa_cons (se_var 11) sa_nil)))) (al_cons (al_cons (al_cons (al_cons al_nil))))) (sg_tup 3 rfl (sgs_cons 3 S_course.nd (sgs_cons 4 S_course.nd (sgs_cons 12 S_course.nd sgs_nil)))))
  (ss_cons (ss_set 9 S_course.nd (se_tup (sa_cons (se_var 11) (sa_cons (se_var 12) sa_nil)) (al_cons (al_cons al_nil))))
  (ss_cons (ss_if (st_cmp (op_tEq hr.units) (se_ix (se_var 8) se_int) (se_str [126]) (nomark _)) (ss_one (ss_asg (se_var 9) (sg_sub (se_var 6) (se_var 10)))) ss_nil)
  (ss_one (ss_if (st_w (sw_and (st_cmp (op_tEq hr.units) (se_ix (se_var 8) se_int) (se_str [33]) (nomark _)) (sw_and1 (st_notN (se_var 12))))) (ss_one (ss_asg (se_var 12) (sg_sub (se_var 5) (se_var 10)))) ss_nil)))))))))))
  (ss_one (ss_expr (se_meth (t := .list) PySem.F.plainAttrs_list PySem.F.slot_list_append PySem.F.type_list_append mt_tAppend (se_var 7) (sa_cons (se_var 9) sa_nil)))))))
  (ss_one (ss_ret (se_tup (sa_cons (se_var 7) (sa_cons (se_var 5) sa_nil)) (al_cons (al_cons al_nil))))))))))
theorem ok__law_course (B : Blt mg) (H__law_event : Has P w K mg base "_law_event" 3 (spI K 4 i_law_event)) (H__law_world : Has P w K mg base "_law_world" 2 (spI K 1 i_law_world)) {f : Addr} {fd : FuncData} (F : Fun K "_law_course" "_law_course" st__law_course f fd) (hm : mg "_law_course" = some (.ref f)) : Has P w K mg base "_law_course" 4 (spI K 3 (bodyI 6 3 s_law_course)) :=
  has_def F hm S__law_course (by decide) (fun _ _ _ _ _ _ us hl => match us, hl with | [_, _, _], _ => rfl) fun cdv A outer s H E hr => (ss_cons (ss_par2 3 4 rfl S__law_course.nd (sa_cons (sh_callI H__law_world (hr.mono (by decide)) (sa_cons (se_var 0) sa_nil) (al_cons al_nil)) (sa_cons (se_lstM sa_nil al_nil) sa_nil)))
  (ss_cons (ss_for PassesOwn.never rfl (si_tup (se_var 1)) (sg_name 5 S__law_course.nd) (ss_one (ss_expr (se_meth (t := .list) PySem.F.plainAttrs_list PySem.F.slot_list_append PySem.F.type_list_append mt_tAppend (se_var 4) (sa_cons (sh_callI H__law_event (hr.mono (by decide)) (sa_cons (se_var 0) (sa_cons (se_var 3) (sa_cons (se_var 5) (sa_cons (se_var 2) sa_nil)))) (al_cons (al_cons (al_cons (al_cons al_nil))))) sa_nil)))))
  (ss_one (ss_ret (se_tup (sa_cons (se_var 4) (sa_cons (se_var 3) sa_nil)) (al_cons (al_cons al_nil)))))))
theorem fn_run (B : Blt mg) (H_course : Has P w K mg base "course" 4 (spP K 3 f_course)) (H_need_history : Has P w K mg base "need_history" 3 (spP K 1 f_need_history)) (H_need_rule : Has P w K mg base "need_rule" 3 (spP K 1 f_need_rule)) {f : Addr} {fd : FuncData} (F : Fun K "run" "run" st_run f fd) : FnOk P w K mg base CX0 5 f fd ["rule", "history", "careful"] (spI K 3 (bodyI 3 3 s_run)) :=
  defI F S_run (by decide) fun cdv A outer s H E hr => (ss_cons (ss_expr (sh_callP H_need_rule (hr.mono (by decide)) (sa_cons (se_var 0) sa_nil) (al_cons al_nil)))
  (ss_cons (ss_expr (sh_callP H_need_history (hr.mono (by decide)) (sa_cons (se_var 1) sa_nil) (al_cons al_nil)))
  (ss_one (ss_ret (se_ix (sh_callP H_course (hr.mono (by decide)) (sa_cons (se_var 0) (sa_cons (se_var 1) (sa_cons (se_var 2) sa_nil))) (al_cons (al_cons (al_cons al_nil)))) se_int)))))
theorem ok_run {f : Addr} {fd : FuncData} (a : FnOk P w K mg base CX0 5 f fd ["rule", "history", "careful"] (spI K 3 (bodyI 3 3 s_run))) (F : Fun K "run" "run" st_run f fd) (hm : mg "run" = some (.ref f)) : HasK P w K mg base "run" 5 2 ["careful"] (spI K 3 (bodyI 3 3 s_run)) :=
  hasK_fn 2 ["careful"] a F hm (fun _ _ _ _ _ _ us ws hl hl2 => match us, hl, ws, hl2 with | [_, _], _, [_], _ => rfl)
theorem okD_run {f : Addr} {fd : FuncData} (a : FnOk P w K mg base CX0 5 f fd ["rule", "history", "careful"] (spI K 3 (bodyI 3 3 s_run))) (hm : mg "run" = some (.ref f)) (F : FunD K "run" "run" (defArgs st_run) (defBody st_run) (defScope st_run) [] [("careful", .bl false)] f fd) : HasD P w K mg base "run" 5 [(.bl false)] (spI K 3 (bodyI 3 3 s_run)) :=
  hasD_fn (st := st_run) 2 a hm F (by decide) rfl (fun D doc pm an cdv ct us ks hl hl2 => match us, hl, ks, hl2 with | [_, _], _, [_], _ => ⟨_, _, _, _, _, _, rfl, rfl, rfl⟩) (fun g H => .cons (.bl _) (.nil))
theorem fn_held (B : Blt mg) (H_course : Has P w K mg base "course" 4 (spP K 3 f_course)) (H_need_history : Has P w K mg base "need_history" 3 (spP K 1 f_need_history)) (H_need_rule : Has P w K mg base "need_rule" 3 (spP K 1 f_need_rule)) {f : Addr} {fd : FuncData} (F : Fun K "held" "held" st_held f fd) : FnOk P w K mg base CX0 5 f fd ["rule", "history", "careful"] (spI K 3 (bodyI 3 3 s_held)) :=
  defI F S_held (by decide) fun cdv A outer s H E hr => (ss_cons (ss_expr (sh_callP H_need_rule (hr.mono (by decide)) (sa_cons (se_var 0) sa_nil) (al_cons al_nil)))
  (ss_cons (ss_expr (sh_callP H_need_history (hr.mono (by decide)) (sa_cons (se_var 1) sa_nil) (al_cons al_nil)))
  (ss_one (ss_ret (se_callTy call_tTuple (by rfl) B.b_tuple bb_tuple (sa_cons (se_ix (sh_callP H_course (hr.mono (by decide)) (sa_cons (se_var 0) (sa_cons (se_var 1) (sa_cons (se_var 2) sa_nil))) (al_cons (al_cons (al_cons al_nil)))) se_int) sa_nil))))))
theorem ok_held {f : Addr} {fd : FuncData} (a : FnOk P w K mg base CX0 5 f fd ["rule", "history", "careful"] (spI K 3 (bodyI 3 3 s_held))) (F : Fun K "held" "held" st_held f fd) (hm : mg "held" = some (.ref f)) : HasK P w K mg base "held" 5 2 ["careful"] (spI K 3 (bodyI 3 3 s_held)) :=
  hasK_fn 2 ["careful"] a F hm (fun _ _ _ _ _ _ us ws hl hl2 => match us, hl, ws, hl2 with | [_, _], _, [_], _ => rfl)
theorem okD_held {f : Addr} {fd : FuncData} (a : FnOk P w K mg base CX0 5 f fd ["rule", "history", "careful"] (spI K 3 (bodyI 3 3 s_held))) (hm : mg "held" = some (.ref f)) (F : FunD K "held" "held" (defArgs st_held) (defBody st_held) (defScope st_held) [] [("careful", .bl false)] f fd) : HasD P w K mg base "held" 5 [(.bl false)] (spI K 3 (bodyI 3 3 s_held)) :=
  hasD_fn (st := st_held) 2 a hm F (by decide) rfl (fun D doc pm an cdv ct us ks hl hl2 => match us, hl, ks, hl2 with | [_, _], _, [_], _ => ⟨_, _, _, _, _, _, rfl, rfl, rfl⟩) (fun g H => .cons (.bl _) (.nil))
theorem ok_law (B : Blt mg) (H__law_rules : Has P w K mg base "_law_rules" 1 (spP K 1 f_law_rules)) (H__law_take : Has P w K mg base "_law_take" 1 (spI K 2 i_law_take)) (H_held : HasK P w K mg base "held" 5 2 ["careful"] (spP K 3 f_held)) (H_run : HasK P w K mg base "run" 5 2 ["careful"] (spP K 3 f_run)) (H__law_course : Has P w K mg base "_law_course" 4 (spP K 3 f_law_course)) (H__law_history : Has P w K mg base "_law_history" 3 (spI K 3 i_law_history)) (H__law_of : Has P w K mg base "_law_of" 2 (spI K 2 i_law_of)) (H__law_bag : Has P w K mg base "_law_bag" 1 (spI K 2 i_law_bag)) {f : Addr} {fd : FuncData} (F : Fun K "law" "law" st_law f fd) (hlaw : ∀ ns : List Int, ns.length ≤ 63 → ∃ m, bodyI 8 1 s_law [.fz (ns.map PV.int)] [] = .ok (.bl true, m)) : FnOk P w K mg base CX0 6 f fd ["_law_script"] (spLaw K) :=
  law_fn F S_law (by decide) (fun cdv A outer s H E hr => (ss_cons (ss_for PassesOwn.never rfl (si_rng1 (by rfl) B.b_range (se_bin op_tAdd (se_callB (call_tMin rfl) (by rfl) B.b_min bb_min (sa_cons (se_callB call_tLen (by rfl) B.b_len bb_len (sa_cons (se_var 0) sa_nil)) (sa_cons se_int sa_nil))) se_int)) (sg_name 1 S_law.nd) (ss_cons (ss_set 2 S_law.nd (sh_callI H__law_bag (hr.mono (by decide)) (sa_cons (se_var 0) (sa_cons (se_var 1) sa_nil)) (al_cons (al_cons al_nil))))
  (ss_cons (ss_set 3 S_law.nd (sh_callI H__law_history (hr.mono (by decide)) (sa_cons (se_var 2) (sa_cons se_int (sa_cons (sh_callI H__law_of (hr.mono (by decide)) (sa_cons (se_var 2) (sa_cons (se_lst (sa_cons (se_str [97, 108, 111, 110, 101]) (sa_cons (se_str [112, 108, 97, 105, 110]) (sa_cons (se_str [97, 108, 108]) (sa_cons (se_str [97, 108, 108]) sa_nil)))) (al_cons (al_cons (al_cons (al_cons al_nil))))) sa_nil)) (al_cons (al_cons al_nil))) sa_nil))) (al_cons (al_cons (al_cons al_nil)))))
  (ss_cons (ss_set 4 S_law.nd (se_cmp (op_tEq hr.units) (sh_callI H__law_take (hr.mono (by decide)) (sa_cons (se_var 2) (sa_cons se_int sa_nil)) (al_cons (al_cons al_nil))) se_int (nomark _)))
  (ss_one (ss_for PassesOwn.never rfl (si_list (sh_callP H__law_rules (hr.mono (by decide)) (sa_cons (sh_callI H__law_take (hr.mono (by decide)) (sa_cons (se_var 2) (sa_cons se_int sa_nil)) (al_cons (al_cons al_nil))) sa_nil) (al_cons al_nil))) (sg_name 5 S_law.nd) (ss_cons (ss_asg (sh_callP H__law_course (hr.mono (by decide)) (sa_cons (se_var 5) (sa_cons (se_var 3) (sa_cons (se_var 4) sa_nil))) (al_cons (al_cons (al_cons al_nil)))) (sg_tup 2 rfl (sgs_cons 6 S_law.nd (sgs_cons 7 S_law.nd sgs_nil))))
  (ss_cons (ss_if (st_cmp (op_tNe hr.units) (sh_callK 3 H_run (hr.mono (by decide)) (sa_cons (se_var 5) (sa_cons (se_var 3) sa_nil)) (al_cons (al_cons al_nil)) (sk_cons (se_var 4) sk_nil) (al_kcons al_knil)) (se_var 6) (nomark _)) (ss_one (ss_ret se_bl)) ss_nil)
  (ss_one (ss_if (st_cmp (op_tNe hr.units) (sh_callK 3 H_held (hr.mono (by decide)) (sa_cons (se_var 5) (sa_cons (se_var 3) sa_nil)) (al_cons (al_cons al_nil)) (sk_cons (se_var 4) sk_nil) (al_kcons al_knil)) (se_callTy call_tTuple (by rfl) B.b_tuple bb_tuple (sa_cons (se_ix (se_var 7) se_int) sa_nil)) (nomark _)) (ss_one (ss_ret se_bl)) ss_nil))))))))))
  (ss_one (ss_ret se_bl)))) hlaw
end
end TT
end

section
set_option Elab.async false
set_option linter.all false
set_option autoImplicit false
set_option maxRecDepth 100000
set_option maxHeartbeats 4000000
namespace TT
open PySem PySem.Spec PyProof.Rows L2
theorem all_mk {l : PySem.W.OpenLaw} {w : World} {K : PySem.W.Frag} {h : Heap} {mg : Str → Option Value} {fa : Addr} (X : K.In h) (G : h.Ns mainGlobals mg) (hfa : mg "law" = some (.ref fa))
    {f1 : Addr} {od1 an1 : Option Addr} {sl1 : Array (Option Value)} {oc1 kV1 dc1 pm1 cd1 ct1 : Value} (a1 : PySem.W.nsIn K mainGlobals "is_choice" = some (some (.ref f1))) (l1 : K.lookup f1 = some ⟨oc1, od1, .func (PySem.W.fnOf "is_choice" "is_choice" (defArgs st_is_choice) (defBody st_is_choice) (defScope st_is_choice) .none kV1 dc1 pm1 an1 cd1 ct1), sl1⟩) (e1 : PySem.W.codeIn K cd1 "is_choice" = true) (k1 : PySem.W.keepIn K (.ref f1) = true)
    {f2 : Addr} {od2 an2 : Option Addr} {sl2 : Array (Option Value)} {oc2 kV2 dc2 pm2 cd2 ct2 : Value} (a2 : PySem.W.nsIn K mainGlobals "first_stand" = some (some (.ref f2))) (l2 : K.lookup f2 = some ⟨oc2, od2, .func (PySem.W.fnOf "first_stand" "first_stand" (defArgs st_first_stand) (defBody st_first_stand) (defScope st_first_stand) .none kV2 dc2 pm2 an2 cd2 ct2), sl2⟩) (e2 : PySem.W.codeIn K cd2 "first_stand" = true) (k2 : PySem.W.keepIn K (.ref f2) = true)
    {f3 : Addr} {od3 an3 : Option Addr} {sl3 : Array (Option Value)} {oc3 kV3 dc3 pm3 cd3 ct3 : Value} (a3 : PySem.W.nsIn K mainGlobals "is_good" = some (some (.ref f3))) (l3 : K.lookup f3 = some ⟨oc3, od3, .func (PySem.W.fnOf "is_good" "is_good" (defArgs st_is_good) (defBody st_is_good) (defScope st_is_good) .none kV3 dc3 pm3 an3 cd3 ct3), sl3⟩) (e3 : PySem.W.codeIn K cd3 "is_good" = true) (k3 : PySem.W.keepIn K (.ref f3) = true)
    {f4 : Addr} {od4 an4 : Option Addr} {sl4 : Array (Option Value)} {oc4 kV4 dc4 pm4 cd4 ct4 : Value} (a4 : PySem.W.nsIn K mainGlobals "with_token" = some (some (.ref f4))) (l4 : K.lookup f4 = some ⟨oc4, od4, .func (PySem.W.fnOf "with_token" "with_token" (defArgs st_with_token) (defBody st_with_token) (defScope st_with_token) .none kV4 dc4 pm4 an4 cd4 ct4), sl4⟩) (e4 : PySem.W.codeIn K cd4 "with_token" = true) (k4 : PySem.W.keepIn K (.ref f4) = true)
    {f5 : Addr} {od5 an5 : Option Addr} {sl5 : Array (Option Value)} {oc5 kV5 dc5 pm5 cd5 ct5 : Value} (a5 : PySem.W.nsIn K mainGlobals "ticked" = some (some (.ref f5))) (l5 : K.lookup f5 = some ⟨oc5, od5, .func (PySem.W.fnOf "ticked" "ticked" (defArgs st_ticked) (defBody st_ticked) (defScope st_ticked) .none kV5 dc5 pm5 an5 cd5 ct5), sl5⟩) (e5 : PySem.W.codeIn K cd5 "ticked" = true) (k5 : PySem.W.keepIn K (.ref f5) = true)
    {f6 : Addr} {od6 an6 : Option Addr} {sl6 : Array (Option Value)} {oc6 kV6 dc6 pm6 cd6 ct6 : Value} (a6 : PySem.W.nsIn K mainGlobals "is_event" = some (some (.ref f6))) (l6 : K.lookup f6 = some ⟨oc6, od6, .func (PySem.W.fnOf "is_event" "is_event" (defArgs st_is_event) (defBody st_is_event) (defScope st_is_event) .none kV6 dc6 pm6 an6 cd6 ct6), sl6⟩) (e6 : PySem.W.codeIn K cd6 "is_event" = true) (k6 : PySem.W.keepIn K (.ref f6) = true)
    {f7 : Addr} {od7 an7 : Option Addr} {sl7 : Array (Option Value)} {oc7 kV7 dc7 pm7 cd7 ct7 : Value} (a7 : PySem.W.nsIn K mainGlobals "_law_bag" = some (some (.ref f7))) (l7 : K.lookup f7 = some ⟨oc7, od7, .func (PySem.W.fnOf "_law_bag" "_law_bag" (defArgs st__law_bag) (defBody st__law_bag) (defScope st__law_bag) .none kV7 dc7 pm7 an7 cd7 ct7), sl7⟩) (e7 : PySem.W.codeIn K cd7 "_law_bag" = true) (k7 : PySem.W.keepIn K (.ref f7) = true)
    {f8 : Addr} {od8 an8 : Option Addr} {sl8 : Array (Option Value)} {oc8 kV8 dc8 pm8 cd8 ct8 : Value} (a8 : PySem.W.nsIn K mainGlobals "_law_take" = some (some (.ref f8))) (l8 : K.lookup f8 = some ⟨oc8, od8, .func (PySem.W.fnOf "_law_take" "_law_take" (defArgs st__law_take) (defBody st__law_take) (defScope st__law_take) .none kV8 dc8 pm8 an8 cd8 ct8), sl8⟩) (e8 : PySem.W.codeIn K cd8 "_law_take" = true) (k8 : PySem.W.keepIn K (.ref f8) = true)
    {f9 : Addr} {od9 an9 : Option Addr} {sl9 : Array (Option Value)} {oc9 kV9 dc9 pm9 cd9 ct9 : Value} (a9 : PySem.W.nsIn K mainGlobals "_law_server" = some (some (.ref f9))) (l9 : K.lookup f9 = some ⟨oc9, od9, .func (PySem.W.fnOf "_law_server" "_law_server" (defArgs st__law_server) (defBody st__law_server) (defScope st__law_server) .none kV9 dc9 pm9 an9 cd9 ct9), sl9⟩) (e9 : PySem.W.codeIn K cd9 "_law_server" = true) (k9 : PySem.W.keepIn K (.ref f9) = true)
    {f10 : Addr} {od10 an10 : Option Addr} {sl10 : Array (Option Value)} {oc10 kV10 dc10 pm10 cd10 ct10 : Value} (a10 : PySem.W.nsIn K mainGlobals "_law_accepts" = some (some (.ref f10))) (l10 : K.lookup f10 = some ⟨oc10, od10, .func (PySem.W.fnOf "_law_accepts" "_law_accepts" (defArgs st__law_accepts) (defBody st__law_accepts) (defScope st__law_accepts) .none kV10 dc10 pm10 an10 cd10 ct10), sl10⟩) (e10 : PySem.W.codeIn K cd10 "_law_accepts" = true) (k10 : PySem.W.keepIn K (.ref f10) = true)
    {f11 : Addr} {od11 an11 : Option Addr} {sl11 : Array (Option Value)} {oc11 kV11 dc11 pm11 cd11 ct11 : Value} (a11 : PySem.W.nsIn K mainGlobals "_law_next_events" = some (some (.ref f11))) (l11 : K.lookup f11 = some ⟨oc11, od11, .func (PySem.W.fnOf "_law_next_events" "_law_next_events" (defArgs st__law_next_events) (defBody st__law_next_events) (defScope st__law_next_events) .none kV11 dc11 pm11 an11 cd11 ct11), sl11⟩) (e11 : PySem.W.codeIn K cd11 "_law_next_events" = true) (k11 : PySem.W.keepIn K (.ref f11) = true)
    {f12 : Addr} {od12 an12 : Option Addr} {sl12 : Array (Option Value)} {oc12 kV12 dc12 pm12 cd12 ct12 : Value} (a12 : PySem.W.nsIn K mainGlobals "_law_rules" = some (some (.ref f12))) (l12 : K.lookup f12 = some ⟨oc12, od12, .func (PySem.W.fnOf "_law_rules" "_law_rules" (defArgs st__law_rules) (defBody st__law_rules) (defScope st__law_rules) .none kV12 dc12 pm12 an12 cd12 ct12), sl12⟩) (e12 : PySem.W.codeIn K cd12 "_law_rules" = true) (k12 : PySem.W.keepIn K (.ref f12) = true)
    {f13 : Addr} {od13 an13 : Option Addr} {sl13 : Array (Option Value)} {oc13 kV13 dc13 pm13 cd13 ct13 : Value} (a13 : PySem.W.nsIn K mainGlobals "is_rule" = some (some (.ref f13))) (l13 : K.lookup f13 = some ⟨oc13, od13, .func (PySem.W.fnOf "is_rule" "is_rule" (defArgs st_is_rule) (defBody st_is_rule) (defScope st_is_rule) .none kV13 dc13 pm13 an13 cd13 ct13), sl13⟩) (e13 : PySem.W.codeIn K cd13 "is_rule" = true) (k13 : PySem.W.keepIn K (.ref f13) = true)
    {f14 : Addr} {od14 an14 : Option Addr} {sl14 : Array (Option Value)} {oc14 kV14 dc14 pm14 cd14 ct14 : Value} (a14 : PySem.W.nsIn K mainGlobals "requested" = some (some (.ref f14))) (l14 : K.lookup f14 = some ⟨oc14, od14, .func (PySem.W.fnOf "requested" "requested" (defArgs st_requested) (defBody st_requested) (defScope st_requested) .none kV14 dc14 pm14 an14 cd14 ct14), sl14⟩) (e14 : PySem.W.codeIn K cd14 "requested" = true) (k14 : PySem.W.keepIn K (.ref f14) = true)
    {f15 : Addr} {od15 an15 : Option Addr} {sl15 : Array (Option Value)} {oc15 kV15 dc15 pm15 cd15 ct15 : Value} (a15 : PySem.W.nsIn K mainGlobals "is_history" = some (some (.ref f15))) (l15 : K.lookup f15 = some ⟨oc15, od15, .func (PySem.W.fnOf "is_history" "is_history" (defArgs st_is_history) (defBody st_is_history) (defScope st_is_history) .none kV15 dc15 pm15 an15 cd15 ct15), sl15⟩) (e15 : PySem.W.codeIn K cd15 "is_history" = true) (k15 : PySem.W.keepIn K (.ref f15) = true)
    {f16 : Addr} {od16 an16 : Option Addr} {sl16 : Array (Option Value)} {oc16 kV16 dc16 pm16 cd16 ct16 : Value} (a16 : PySem.W.nsIn K mainGlobals "_law_of" = some (some (.ref f16))) (l16 : K.lookup f16 = some ⟨oc16, od16, .func (PySem.W.fnOf "_law_of" "_law_of" (defArgs st__law_of) (defBody st__law_of) (defScope st__law_of) .none kV16 dc16 pm16 an16 cd16 ct16), sl16⟩) (e16 : PySem.W.codeIn K cd16 "_law_of" = true) (k16 : PySem.W.keepIn K (.ref f16) = true)
    {f17 : Addr} {od17 an17 : Option Addr} {sl17 : Array (Option Value)} {oc17 kV17 dc17 pm17 cd17 ct17 : Value} (a17 : PySem.W.nsIn K mainGlobals "_law_asked" = some (some (.ref f17))) (l17 : K.lookup f17 = some ⟨oc17, od17, .func (PySem.W.fnOf "_law_asked" "_law_asked" (defArgs st__law_asked) (defBody st__law_asked) (defScope st__law_asked) .none kV17 dc17 pm17 an17 cd17 ct17), sl17⟩) (e17 : PySem.W.codeIn K cd17 "_law_asked" = true) (k17 : PySem.W.keepIn K (.ref f17) = true)
    {f18 : Addr} {od18 an18 : Option Addr} {sl18 : Array (Option Value)} {oc18 kV18 dc18 pm18 cd18 ct18 : Value} (a18 : PySem.W.nsIn K mainGlobals "_law_world" = some (some (.ref f18))) (l18 : K.lookup f18 = some ⟨oc18, od18, .func (PySem.W.fnOf "_law_world" "_law_world" (defArgs st__law_world) (defBody st__law_world) (defScope st__law_world) .none kV18 dc18 pm18 an18 cd18 ct18), sl18⟩) (e18 : PySem.W.codeIn K cd18 "_law_world" = true) (k18 : PySem.W.keepIn K (.ref f18) = true)
    {f19 : Addr} {od19 an19 : Option Addr} {sl19 : Array (Option Value)} {oc19 kV19 dc19 pm19 cd19 ct19 : Value} (a19 : PySem.W.nsIn K mainGlobals "need_rule" = some (some (.ref f19))) (l19 : K.lookup f19 = some ⟨oc19, od19, .func (PySem.W.fnOf "need_rule" "need_rule" (defArgs st_need_rule) (defBody st_need_rule) (defScope st_need_rule) .none kV19 dc19 pm19 an19 cd19 ct19), sl19⟩) (e19 : PySem.W.codeIn K cd19 "need_rule" = true) (k19 : PySem.W.keepIn K (.ref f19) = true)
    {f20 : Addr} {od20 an20 : Option Addr} {sl20 : Array (Option Value)} {oc20 kV20 dc20 pm20 cd20 ct20 : Value} (a20 : PySem.W.nsIn K mainGlobals "need_history" = some (some (.ref f20))) (l20 : K.lookup f20 = some ⟨oc20, od20, .func (PySem.W.fnOf "need_history" "need_history" (defArgs st_need_history) (defBody st_need_history) (defScope st_need_history) .none kV20 dc20 pm20 an20 cd20 ct20), sl20⟩) (e20 : PySem.W.codeIn K cd20 "need_history" = true) (k20 : PySem.W.keepIn K (.ref f20) = true)
    {f21 : Addr} {od21 an21 : Option Addr} {sl21 : Array (Option Value)} {oc21 kV21 dc21 pm21 cd21 ct21 : Value} (a21 : PySem.W.nsIn K mainGlobals "answered" = some (some (.ref f21))) (l21 : K.lookup f21 = some ⟨oc21, od21, .func (PySem.W.fnOf "answered" "answered" (defArgs st_answered) (defBody st_answered) (defScope st_answered) .none kV21 dc21 pm21 an21 cd21 ct21), sl21⟩) (e21 : PySem.W.codeIn K cd21 "answered" = true) (k21 : PySem.W.keepIn K (.ref f21) = true)
    {f22 : Addr} {od22 an22 : Option Addr} {sl22 : Array (Option Value)} {oc22 kV22 dc22 pm22 cd22 ct22 : Value} (a22 : PySem.W.nsIn K mainGlobals "_law_event" = some (some (.ref f22))) (l22 : K.lookup f22 = some ⟨oc22, od22, .func (PySem.W.fnOf "_law_event" "_law_event" (defArgs st__law_event) (defBody st__law_event) (defScope st__law_event) .none kV22 dc22 pm22 an22 cd22 ct22), sl22⟩) (e22 : PySem.W.codeIn K cd22 "_law_event" = true) (k22 : PySem.W.keepIn K (.ref f22) = true)
    {f23 : Addr} {od23 an23 : Option Addr} {sl23 : Array (Option Value)} {oc23 kV23 dc23 pm23 cd23 ct23 : Value} (a23 : PySem.W.nsIn K mainGlobals "_law_history" = some (some (.ref f23))) (l23 : K.lookup f23 = some ⟨oc23, od23, .func (PySem.W.fnOf "_law_history" "_law_history" (defArgs st__law_history) (defBody st__law_history) (defScope st__law_history) .none kV23 dc23 pm23 an23 cd23 ct23), sl23⟩) (e23 : PySem.W.codeIn K cd23 "_law_history" = true) (k23 : PySem.W.keepIn K (.ref f23) = true)
    {f24 : Addr} {od24 an24 : Option Addr} {sl24 : Array (Option Value)} {oc24 kV24 dc24 pm24 cd24 ct24 : Value} (a24 : PySem.W.nsIn K mainGlobals "course" = some (some (.ref f24))) (l24 : K.lookup f24 = some ⟨oc24, od24, .func (PySem.W.fnOf "course" "course" (defArgs st_course) (defBody st_course) (defScope st_course) .none kV24 dc24 pm24 an24 cd24 ct24), sl24⟩) (e24 : PySem.W.codeIn K cd24 "course" = true) (k24 : PySem.W.keepIn K (.ref f24) = true)
    {f25 : Addr} {od25 an25 : Option Addr} {sl25 : Array (Option Value)} {oc25 kV25 dc25 pm25 cd25 ct25 : Value} (a25 : PySem.W.nsIn K mainGlobals "_law_course" = some (some (.ref f25))) (l25 : K.lookup f25 = some ⟨oc25, od25, .func (PySem.W.fnOf "_law_course" "_law_course" (defArgs st__law_course) (defBody st__law_course) (defScope st__law_course) .none kV25 dc25 pm25 an25 cd25 ct25), sl25⟩) (e25 : PySem.W.codeIn K cd25 "_law_course" = true) (k25 : PySem.W.keepIn K (.ref f25) = true)
    {f26 D26 : Addr} {od26 an26 : Option Addr} {sl26 : Array (Option Value)} {oc26 dc26 pm26 cd26 ct26 : Value} (a26 : PySem.W.nsIn K mainGlobals "run" = some (some (.ref f26))) (l26 : K.lookup f26 = some ⟨oc26, od26, .func (PySem.W.fnOf "run" "run" (defArgs st_run) (defBody st_run) (defScope st_run) .none (.ref D26) dc26 pm26 an26 cd26 ct26), sl26⟩) (e26 : PySem.W.codeIn K cd26 "run" = true) (k26 : PySem.W.keepIn K (.ref f26) = true)
    (d26_careful : PySem.W.nsIn K D26 "careful" = some (some (.bool false)))
    {f27 D27 : Addr} {od27 an27 : Option Addr} {sl27 : Array (Option Value)} {oc27 dc27 pm27 cd27 ct27 : Value} (a27 : PySem.W.nsIn K mainGlobals "held" = some (some (.ref f27))) (l27 : K.lookup f27 = some ⟨oc27, od27, .func (PySem.W.fnOf "held" "held" (defArgs st_held) (defBody st_held) (defScope st_held) .none (.ref D27) dc27 pm27 an27 cd27 ct27), sl27⟩) (e27 : PySem.W.codeIn K cd27 "held" = true) (k27 : PySem.W.keepIn K (.ref f27) = true)
    (d27_careful : PySem.W.nsIn K D27 "careful" = some (some (.bool false)))
    {f28 : Addr} {od28 an28 : Option Addr} {sl28 : Array (Option Value)} {oc28 kV28 dc28 pm28 cd28 ct28 : Value} (a28 : PySem.W.nsIn K mainGlobals "law" = some (some (.ref f28))) (l28 : K.lookup f28 = some ⟨oc28, od28, .func (PySem.W.fnOf "law" "law" (defArgs st_law) (defBody st_law) (defScope st_law) .none kV28 dc28 pm28 an28 cd28 ct28), sl28⟩) (e28 : PySem.W.codeIn K cd28 "law" = true) (k28 : PySem.W.keepIn K (.ref f28) = true)
    (z_all : PySem.W.nsIn K mainGlobals "all" = some none)
    (z_bool : PySem.W.nsIn K mainGlobals "bool" = some none)
    (z_int : PySem.W.nsIn K mainGlobals "int" = some none)
    (z_isinstance : PySem.W.nsIn K mainGlobals "isinstance" = some none)
    (z_len : PySem.W.nsIn K mainGlobals "len" = some none)
    (z_max : PySem.W.nsIn K mainGlobals "max" = some none)
    (z_min : PySem.W.nsIn K mainGlobals "min" = some none)
    (z_range : PySem.W.nsIn K mainGlobals "range" = some none)
    (z_str : PySem.W.nsIn K mainGlobals "str" = some none)
    (z_tuple : PySem.W.nsIn K mainGlobals "tuple" = some none)
    (z_zip : PySem.W.nsIn K mainGlobals "zip" = some none)
    {a_CHOICES : Addr} {a_CHOICES0 : Addr} {tk_CHOICES0_0 : Tok} {tk_CHOICES0_1 : Tok} {tk_CHOICES0_2 : Tok} {a_CHOICES1 : Addr} {tk_CHOICES1_0 : Tok} {tk_CHOICES1_1 : Tok} {a_CHOICES2 : Addr} {a_CHOICES3 : Addr} {tk_CHOICES3_1 : Tok} {tk_CHOICES3_2 : Tok} {tk_CHOICES3_3 : Tok} {a_CHOICES4 : Addr} {tk_CHOICES4_1 : Tok} {tk_CHOICES4_2 : Tok} {tk_CHOICES4_3 : Tok} {a_CHOICES5 : Addr} {tk_CHOICES5_0 : Tok} {tk_CHOICES5_1 : Tok} {tk_CHOICES5_2 : Tok} {a_CHOICES6 : Addr} {tk_CHOICES6_0 : Tok} {tk_CHOICES6_1 : Tok} (g_CHOICES : PySem.W.nsIn K mainGlobals "CHOICES" = some (some (.ref a_CHOICES))) {od_CHOICES : Option Addr} {n_CHOICES : Nat} {sl_CHOICES : Array (Option Value)} (l_CHOICES : K.lookup a_CHOICES = some ⟨.type "tuple", od_CHOICES, .seq #[.ref a_CHOICES0, .ref a_CHOICES1, .ref a_CHOICES2, .ref a_CHOICES3, .ref a_CHOICES4, .ref a_CHOICES5, .ref a_CHOICES6] n_CHOICES, sl_CHOICES⟩) {od_CHOICES0 : Option Addr} {n_CHOICES0 : Nat} {sl_CHOICES0 : Array (Option Value)} (l_CHOICES0 : K.lookup a_CHOICES0 = some ⟨.type "tuple", od_CHOICES0, .seq #[.int 0 tk_CHOICES0_0, .int 1 tk_CHOICES0_1, .int 2 tk_CHOICES0_2] n_CHOICES0, sl_CHOICES0⟩) {od_CHOICES1 : Option Addr} {n_CHOICES1 : Nat} {sl_CHOICES1 : Array (Option Value)} (l_CHOICES1 : K.lookup a_CHOICES1 = some ⟨.type "tuple", od_CHOICES1, .seq #[.str ⟨#[110, 101, 119]⟩ tk_CHOICES1_0, .str ⟨#[115, 97, 109, 101]⟩ tk_CHOICES1_1] n_CHOICES1, sl_CHOICES1⟩) {od_CHOICES2 : Option Addr} {n_CHOICES2 : Nat} {sl_CHOICES2 : Array (Option Value)} (l_CHOICES2 : K.lookup a_CHOICES2 = some ⟨.type "tuple", od_CHOICES2, .seq #[.bool false, .bool true] n_CHOICES2, sl_CHOICES2⟩) {od_CHOICES3 : Option Addr} {n_CHOICES3 : Nat} {sl_CHOICES3 : Array (Option Value)} (l_CHOICES3 : K.lookup a_CHOICES3 = some ⟨.type "tuple", od_CHOICES3, .seq #[.none, .int 0 tk_CHOICES3_1, .int 1 tk_CHOICES3_2, .int 2 tk_CHOICES3_3] n_CHOICES3, sl_CHOICES3⟩) {od_CHOICES4 : Option Addr} {n_CHOICES4 : Nat} {sl_CHOICES4 : Array (Option Value)} (l_CHOICES4 : K.lookup a_CHOICES4 = some ⟨.type "tuple", od_CHOICES4, .seq #[.none, .int 0 tk_CHOICES4_1, .int 1 tk_CHOICES4_2, .int 2 tk_CHOICES4_3] n_CHOICES4, sl_CHOICES4⟩) {od_CHOICES5 : Option Addr} {n_CHOICES5 : Nat} {sl_CHOICES5 : Array (Option Value)} (l_CHOICES5 : K.lookup a_CHOICES5 = some ⟨.type "tuple", od_CHOICES5, .seq #[.int 1 tk_CHOICES5_0, .int 2 tk_CHOICES5_1, .int 3 tk_CHOICES5_2] n_CHOICES5, sl_CHOICES5⟩) {od_CHOICES6 : Option Addr} {n_CHOICES6 : Nat} {sl_CHOICES6 : Array (Option Value)} (l_CHOICES6 : K.lookup a_CHOICES6 = some ⟨.type "tuple", od_CHOICES6, .seq #[.str ⟨#[101, 110, 100]⟩ tk_CHOICES6_0, .str ⟨#[114, 101, 102, 117, 115, 101]⟩ tk_CHOICES6_1] n_CHOICES6, sl_CHOICES6⟩)
    {t_HOLDERS : Tok} (g_HOLDERS : PySem.W.nsIn K mainGlobals "HOLDERS" = some (some (.str "ab" t_HOLDERS)))
    {t_MOST_EVENTS : Tok} (g_MOST_EVENTS : PySem.W.nsIn K mainGlobals "MOST_EVENTS" = some (some (.int 40 t_MOST_EVENTS)))
    {a_PARTS : Addr} {tk_PARTS_0 : Tok} {tk_PARTS_1 : Tok} {tk_PARTS_2 : Tok} {tk_PARTS_3 : Tok} {tk_PARTS_4 : Tok} {tk_PARTS_5 : Tok} {tk_PARTS_6 : Tok} (g_PARTS : PySem.W.nsIn K mainGlobals "PARTS" = some (some (.ref a_PARTS))) {od_PARTS : Option Addr} {n_PARTS : Nat} {sl_PARTS : Array (Option Value)} (l_PARTS : K.lookup a_PARTS = some ⟨.type "tuple", od_PARTS, .seq #[.str ⟨#[107, 101, 101, 112]⟩ tk_PARTS_0, .str ⟨#[114, 101, 112, 108, 121]⟩ tk_PARTS_1, .str ⟨#[115, 116, 114, 105, 99, 116]⟩ tk_PARTS_2, .str ⟨#[108, 101, 101, 119, 97, 121]⟩ tk_PARTS_3, .str ⟨#[115, 112, 97, 114, 101]⟩ tk_PARTS_4, .str ⟨#[101, 118, 101, 114, 121]⟩ tk_PARTS_5, .str ⟨#[111, 108, 100]⟩ tk_PARTS_6] n_PARTS, sl_PARTS⟩)
    {t_TICK : Tok} (g_TICK : PySem.W.nsIn K mainGlobals "TICK" = some (some (.str ".." t_TICK))) :
    ∃ fd : FuncData, (∀ (s : Shared) (v : Value), BindsTo s fd ⟨[v], []⟩ [("_law_script", v)]) ∧ ∀ base : Heap, K.In base → base.Ns mainGlobals mg → FnOk l.prog w K mg base CX0 6 fa fd ["_law_script"] (spLaw K) := by
  have e := hfa.symm.trans (PySem.W.mg_of X G a28)
  cases e
  have B : Blt mg := ⟨PySem.W.mg_none_of X G z_all, PySem.W.mg_none_of X G z_bool, PySem.W.mg_none_of X G z_int, PySem.W.mg_none_of X G z_isinstance, PySem.W.mg_none_of X G z_len, PySem.W.mg_none_of X G z_max, PySem.W.mg_none_of X G z_min, PySem.W.mg_none_of X G z_range, PySem.W.mg_none_of X G z_str, PySem.W.mg_none_of X G z_tuple, PySem.W.mg_none_of X G z_zip⟩
  have C_CHOICES : HasC K mg "CHOICES" c_CHOICES := HasC.tup2 (PySem.W.mg_of X G g_CHOICES) ⟨_, _, [.ref a_CHOICES0, .ref a_CHOICES1, .ref a_CHOICES2, .ref a_CHOICES3, .ref a_CHOICES4, .ref a_CHOICES5, .ref a_CHOICES6], _, _, rfl, l_CHOICES, Nat.le_of_ble_eq_true rfl, .cons (.inr ⟨_, a_CHOICES0, rfl, rfl, ⟨_, _, [.int 0 tk_CHOICES0_0, .int 1 tk_CHOICES0_1, .int 2 tk_CHOICES0_2], _, _, rfl, l_CHOICES0, Nat.le_of_ble_eq_true rfl, .cons (.int _ _) (.cons (.int _ _) (.cons (.int _ _) (.nil)))⟩⟩) (.cons (.inr ⟨_, a_CHOICES1, rfl, rfl, ⟨_, _, [.str ⟨#[110, 101, 119]⟩ tk_CHOICES1_0, .str ⟨#[115, 97, 109, 101]⟩ tk_CHOICES1_1], _, _, rfl, l_CHOICES1, Nat.le_of_ble_eq_true rfl, .cons (.str [110, 101, 119] _) (.cons (.str [115, 97, 109, 101] _) (.nil))⟩⟩) (.cons (.inr ⟨_, a_CHOICES2, rfl, rfl, ⟨_, _, [.bool false, .bool true], _, _, rfl, l_CHOICES2, Nat.le_of_ble_eq_true rfl, .cons (.bl _) (.cons (.bl _) (.nil))⟩⟩) (.cons (.inr ⟨_, a_CHOICES3, rfl, rfl, ⟨_, _, [.none, .int 0 tk_CHOICES3_1, .int 1 tk_CHOICES3_2, .int 2 tk_CHOICES3_3], _, _, rfl, l_CHOICES3, Nat.le_of_ble_eq_true rfl, .cons .non (.cons (.int _ _) (.cons (.int _ _) (.cons (.int _ _) (.nil))))⟩⟩) (.cons (.inr ⟨_, a_CHOICES4, rfl, rfl, ⟨_, _, [.none, .int 0 tk_CHOICES4_1, .int 1 tk_CHOICES4_2, .int 2 tk_CHOICES4_3], _, _, rfl, l_CHOICES4, Nat.le_of_ble_eq_true rfl, .cons .non (.cons (.int _ _) (.cons (.int _ _) (.cons (.int _ _) (.nil))))⟩⟩) (.cons (.inr ⟨_, a_CHOICES5, rfl, rfl, ⟨_, _, [.int 1 tk_CHOICES5_0, .int 2 tk_CHOICES5_1, .int 3 tk_CHOICES5_2], _, _, rfl, l_CHOICES5, Nat.le_of_ble_eq_true rfl, .cons (.int _ _) (.cons (.int _ _) (.cons (.int _ _) (.nil)))⟩⟩) (.cons (.inr ⟨_, a_CHOICES6, rfl, rfl, ⟨_, _, [.str ⟨#[101, 110, 100]⟩ tk_CHOICES6_0, .str ⟨#[114, 101, 102, 117, 115, 101]⟩ tk_CHOICES6_1], _, _, rfl, l_CHOICES6, Nat.le_of_ble_eq_true rfl, .cons (.str [101, 110, 100] _) (.cons (.str [114, 101, 102, 117, 115, 101] _) (.nil))⟩⟩) (.nil)))))))⟩
  have C_HOLDERS : HasC K mg "HOLDERS" c_HOLDERS := HasC.str [97, 98] (PySem.W.mg_of X G g_HOLDERS) (by rfl)
  have C_MOST_EVENTS : HasC K mg "MOST_EVENTS" c_MOST_EVENTS := HasC.int (PySem.W.mg_of X G g_MOST_EVENTS)
  have C_PARTS : HasC K mg "PARTS" c_PARTS := HasC.tup (PySem.W.mg_of X G g_PARTS) ⟨_, _, [.str ⟨#[107, 101, 101, 112]⟩ tk_PARTS_0, .str ⟨#[114, 101, 112, 108, 121]⟩ tk_PARTS_1, .str ⟨#[115, 116, 114, 105, 99, 116]⟩ tk_PARTS_2, .str ⟨#[108, 101, 101, 119, 97, 121]⟩ tk_PARTS_3, .str ⟨#[115, 112, 97, 114, 101]⟩ tk_PARTS_4, .str ⟨#[101, 118, 101, 114, 121]⟩ tk_PARTS_5, .str ⟨#[111, 108, 100]⟩ tk_PARTS_6], _, _, rfl, l_PARTS, Nat.le_of_ble_eq_true rfl, .cons (.str [107, 101, 101, 112] _) (.cons (.str [114, 101, 112, 108, 121] _) (.cons (.str [115, 116, 114, 105, 99, 116] _) (.cons (.str [108, 101, 101, 119, 97, 121] _) (.cons (.str [115, 112, 97, 114, 101] _) (.cons (.str [101, 118, 101, 114, 121] _) (.cons (.str [111, 108, 100] _) (.nil)))))))⟩
  have C_TICK : HasC K mg "TICK" c_TICK := HasC.str [46, 46] (PySem.W.mg_of X G g_TICK) (by rfl)
  refine ⟨PySem.W.fnOf "law" "law" (defArgs st_law) (defBody st_law) (defScope st_law) .none kV28 dc28 pm28 an28 cd28 ct28, fun s v => .of_eq rfl, fun base _ _ => ?_⟩
  have H_is_choice := (ok_is_choice (P := l.prog) (w := w) (base := base) B (fun_mk (st := st_is_choice) l1 e1 k1) (PySem.W.mg_of X G a1)).toP
  have H_first_stand := (ok_first_stand (P := l.prog) (w := w) (base := base) B (fun_mk (st := st_first_stand) l2 e2 k2) (PySem.W.mg_of X G a2)).toP
  have H_is_good := (ok_is_good (P := l.prog) (w := w) (base := base) B (fun_mk (st := st_is_good) l3 e3 k3) (PySem.W.mg_of X G a3)).toP
  have H_with_token := (ok_with_token (P := l.prog) (w := w) (base := base) B (fun_mk (st := st_with_token) l4 e4 k4) (PySem.W.mg_of X G a4)).toP
  have H_ticked := (ok_ticked (P := l.prog) (w := w) (base := base) B (fun_mk (st := st_ticked) l5 e5 k5) (PySem.W.mg_of X G a5)).toP
  have H_is_event := (ok_is_event (P := l.prog) (w := w) (base := base) B C_HOLDERS C_TICK (fun_mk (st := st_is_event) l6 e6 k6) (PySem.W.mg_of X G a6)).toP
  have H__law_bag := (ok__law_bag (P := l.prog) (w := w) (base := base) B (fun_mk (st := st__law_bag) l7 e7 k7) (PySem.W.mg_of X G a7))
  have H__law_take := (ok__law_take (P := l.prog) (w := w) (base := base) B (fun_mk (st := st__law_take) l8 e8 k8) (PySem.W.mg_of X G a8))
  have H__law_server := (ok__law_server (P := l.prog) (w := w) (base := base) B (fun_mk (st := st__law_server) l9 e9 k9) (PySem.W.mg_of X G a9))
  have H__law_accepts := (ok__law_accepts (P := l.prog) (w := w) (base := base) B (fun_mk (st := st__law_accepts) l10 e10 k10) (PySem.W.mg_of X G a10))
  have H__law_next_events := (ok__law_next_events (P := l.prog) (w := w) (base := base) B (fun_mk (st := st__law_next_events) l11 e11 k11) (PySem.W.mg_of X G a11))
  have H__law_rules := (ok__law_rules (P := l.prog) (w := w) (base := base) B (fun_mk (st := st__law_rules) l12 e12 k12) (PySem.W.mg_of X G a12)).toP
  have H_is_rule := (ok_is_rule (P := l.prog) (w := w) (base := base) B H_is_choice C_CHOICES C_PARTS (fun_mk (st := st_is_rule) l13 e13 k13) (PySem.W.mg_of X G a13)).toP
  have H_requested := (ok_requested (P := l.prog) (w := w) (base := base) B H_with_token H_is_good (fun_mk (st := st_requested) l14 e14 k14) (PySem.W.mg_of X G a14)).toP
  have H_is_history := (ok_is_history (P := l.prog) (w := w) (base := base) B H_is_event C_HOLDERS C_TICK C_MOST_EVENTS (fun_mk (st := st_is_history) l15 e15 k15) (PySem.W.mg_of X G a15)).toP
  have H__law_of := (ok__law_of (P := l.prog) (w := w) (base := base) B H__law_take (fun_mk (st := st__law_of) l16 e16 k16) (PySem.W.mg_of X G a16))
  have H__law_asked := (ok__law_asked (P := l.prog) (w := w) (base := base) B H__law_accepts (fun_mk (st := st__law_asked) l17 e17 k17) (PySem.W.mg_of X G a17))
  have H__law_world := (ok__law_world (P := l.prog) (w := w) (base := base) B H__law_server (fun_mk (st := st__law_world) l18 e18 k18) (PySem.W.mg_of X G a18))
  have H_need_rule := (ok_need_rule (P := l.prog) (w := w) (base := base) B H_is_rule (fun_mk (st := st_need_rule) l19 e19 k19) (PySem.W.mg_of X G a19)).toP
  have H_need_history := (ok_need_history (P := l.prog) (w := w) (base := base) B H_is_history (fun_mk (st := st_need_history) l20 e20 k20) (PySem.W.mg_of X G a20)).toP
  have H_answered := (ok_answered (P := l.prog) (w := w) (base := base) B H_requested (fun_mk (st := st_answered) l21 e21 k21) (PySem.W.mg_of X G a21)).toP
  have H__law_event := (ok__law_event (P := l.prog) (w := w) (base := base) B H__law_asked (fun_mk (st := st__law_event) l22 e22 k22) (PySem.W.mg_of X G a22))
  have H__law_history := (ok__law_history (P := l.prog) (w := w) (base := base) B H__law_take H__law_of H__law_next_events (fun_mk (st := st__law_history) l23 e23 k23) (PySem.W.mg_of X G a23))
  have H_course := (ok_course (P := l.prog) (w := w) (base := base) B H_ticked H_answered H_first_stand C_TICK C_HOLDERS (fun_mk (st := st_course) l24 e24 k24) (PySem.W.mg_of X G a24)).toP
  have H__law_course := (ok__law_course (P := l.prog) (w := w) (base := base) B H__law_event H__law_world (fun_mk (st := st__law_course) l25 e25 k25) (PySem.W.mg_of X G a25)).toP
  have X_run := fn_run (P := l.prog) (w := w) (mg := mg) (base := base) B H_course H_need_history H_need_rule (fun_mk (st := st_run) l26 e26 k26)
  have H_run := (ok_run X_run (fun_mk (st := st_run) l26 e26 k26) (PySem.W.mg_of X G a26)).toP
  have X_held := fn_held (P := l.prog) (w := w) (mg := mg) (base := base) B H_course H_need_history H_need_rule (fun_mk (st := st_held) l27 e27 k27)
  have H_held := (ok_held X_held (fun_mk (st := st_held) l27 e27 k27) (PySem.W.mg_of X G a27)).toP
  exact ok_law B H__law_rules H__law_take H_held H_run H__law_course H__law_history H__law_of H__law_bag (fun_mk (st := st_law) l28 e28 k28) law_holds
end TT
open PySem PySem.W PyProof.Rows
set_option maxHeartbeats 0 in
theorem PySem.Challenge.cw_tokenturns_k04_whole_all_rules_for_a_his_holds : PySem.Challenge.rw_tokenturns_k04_whole_all_rules_for_a_his.Holds := by
  w_on; o_law; k_head; (case hw => w_witness2)
  k_fill
  refine L2.walk_of (l := PySem.Challenge.rw_tokenturns_k04_whole_all_rules_for_a_his) (n := 63) (k := 6) (x := "_law_script") (CX := fun _ => L2.CX0) (sp := fun w => TT.spLaw _) rfl (by decide) rfl ⟨rfl, by decide, by decide⟩ (fun w h Y => PySem.W.kIn_of Y) ?F (fun _ _ a ns hl _ hS => ⟨a, ns, rfl, hS, hl, fun _ => rfl⟩) (fun _ _ _ _ _ h => h)
  case F =>
    intro w mg fa h KX G hmg
    refine' TT.all_mk KX G hmg ?a1 ?l1 ?e1 ?k1 ?a2 ?l2 ?e2 ?k2 ?a3 ?l3 ?e3 ?k3 ?a4 ?l4 ?e4 ?k4 ?a5 ?l5 ?e5 ?k5 ?a6 ?l6 ?e6 ?k6 ?a7 ?l7 ?e7 ?k7 ?a8 ?l8 ?e8 ?k8 ?a9 ?l9 ?e9 ?k9 ?a10 ?l10 ?e10 ?k10 ?a11 ?l11 ?e11 ?k11 ?a12 ?l12 ?e12 ?k12 ?a13 ?l13 ?e13 ?k13 ?a14 ?l14 ?e14 ?k14 ?a15 ?l15 ?e15 ?k15 ?a16 ?l16 ?e16 ?k16 ?a17 ?l17 ?e17 ?k17 ?a18 ?l18 ?e18 ?k18 ?a19 ?l19 ?e19 ?k19 ?a20 ?l20 ?e20 ?k20 ?a21 ?l21 ?e21 ?k21 ?a22 ?l22 ?e22 ?k22 ?a23 ?l23 ?e23 ?k23 ?a24 ?l24 ?e24 ?k24 ?a25 ?l25 ?e25 ?k25 ?a26 ?l26 ?e26 ?k26 ?d26_careful ?a27 ?l27 ?e27 ?k27 ?d27_careful ?a28 ?l28 ?e28 ?k28 ?z_all ?z_bool ?z_int ?z_isinstance ?z_len ?z_max ?z_min ?z_range ?z_str ?z_tuple ?z_zip ?g_CHOICES ?l_CHOICES ?l_CHOICES0 ?l_CHOICES1 ?l_CHOICES2 ?l_CHOICES3 ?l_CHOICES4 ?l_CHOICES5 ?l_CHOICES6 ?g_HOLDERS ?g_MOST_EVENTS ?g_PARTS ?l_PARTS ?g_TICK
    (case a1 => k_is); (case l1 => k_is); (case e1 => k_is); (case k1 => k_is); (case a2 => k_is); (case l2 => k_is); (case e2 => k_is); (case k2 => k_is); (case a3 => k_is); (case l3 => k_is); (case e3 => k_is); (case k3 => k_is); (case a4 => k_is); (case l4 => k_is); (case e4 => k_is); (case k4 => k_is); (case a5 => k_is); (case l5 => k_is); (case e5 => k_is); (case k5 => k_is); (case a6 => k_is); (case l6 => k_is); (case e6 => k_is); (case k6 => k_is); (case a7 => k_is); (case l7 => k_is); (case e7 => k_is); (case k7 => k_is); (case a8 => k_is); (case l8 => k_is); (case e8 => k_is); (case k8 => k_is); (case a9 => k_is); (case l9 => k_is); (case e9 => k_is); (case k9 => k_is); (case a10 => k_is); (case l10 => k_is); (case e10 => k_is); (case k10 => k_is); (case a11 => k_is); (case l11 => k_is); (case e11 => k_is); (case k11 => k_is); (case a12 => k_is); (case l12 => k_is); (case e12 => k_is); (case k12 => k_is); (case a13 => k_is); (case l13 => k_is); (case e13 => k_is); (case k13 => k_is); (case a14 => k_is); (case l14 => k_is); (case e14 => k_is); (case k14 => k_is); (case a15 => k_is); (case l15 => k_is); (case e15 => k_is); (case k15 => k_is); (case a16 => k_is); (case l16 => k_is); (case e16 => k_is); (case k16 => k_is); (case a17 => k_is); (case l17 => k_is); (case e17 => k_is); (case k17 => k_is); (case a18 => k_is); (case l18 => k_is); (case e18 => k_is); (case k18 => k_is); (case a19 => k_is); (case l19 => k_is); (case e19 => k_is); (case k19 => k_is); (case a20 => k_is); (case l20 => k_is); (case e20 => k_is); (case k20 => k_is); (case a21 => k_is); (case l21 => k_is); (case e21 => k_is); (case k21 => k_is); (case a22 => k_is); (case l22 => k_is); (case e22 => k_is); (case k22 => k_is); (case a23 => k_is); (case l23 => k_is); (case e23 => k_is); (case k23 => k_is); (case a24 => k_is); (case l24 => k_is); (case e24 => k_is); (case k24 => k_is); (case a25 => k_is); (case l25 => k_is); (case e25 => k_is); (case k25 => k_is); (case a26 => k_is); (case l26 => k_is); (case e26 => k_is); (case k26 => k_is); (case d26_careful => k_is); (case a27 => k_is); (case l27 => k_is); (case e27 => k_is); (case k27 => k_is); (case d27_careful => k_is); (case a28 => k_is); (case l28 => k_is); (case e28 => k_is); (case k28 => k_is); (case z_all => k_is); (case z_bool => k_is); (case z_int => k_is); (case z_isinstance => k_is); (case z_len => k_is); (case z_max => k_is); (case z_min => k_is); (case z_range => k_is); (case z_str => k_is); (case z_tuple => k_is); (case z_zip => k_is); (case g_CHOICES => k_is); (case l_CHOICES => k_is); (case l_CHOICES0 => k_is); (case l_CHOICES1 => k_is); (case l_CHOICES2 => k_is); (case l_CHOICES3 => k_is); (case l_CHOICES4 => k_is); (case l_CHOICES5 => k_is); (case l_CHOICES6 => k_is); (case g_HOLDERS => k_is); (case g_MOST_EVENTS => k_is); (case g_PARTS => k_is); (case l_PARTS => k_is); (case g_TICK => k_is)
end
