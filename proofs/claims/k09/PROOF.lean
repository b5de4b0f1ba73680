import PyProof.Rows.All
import HandS.ForMost
import HandS.IsInst
import HandS.Deep
import HandS.TupAny
import HandS.TupMul
import HandS.Zip
import HandS.Walk
import HandS.Exc
import KE.KDictKeyed
import KE.SortData
import KE.KSortTup
import HandS.Conv
import HandS.Iter
import HandS.TupLen
import HandS.WordsExc
import HandS.More
import HandS.Style
import KE.GoesEnum
import HandS.Defaults
import HandS.HeadHook4
import HandS.HeadEnd
import HandS.Head2
import HandS.TupSets
import PySem.Challenge.RW_earround_k09_whole_receivers_compared
set_option Elab.async false
set_option linter.all false
set_option maxRecDepth 100000
/-! C1: the small language: data, objects in slots, terms, their meaning. -/
namespace Er
open PySem L2

abbrev PD := PySem.PyData

/-- an object that may be changed; it is held by one slot -/
inductive OB where
  | lst (l : List PD)
  | dct (l : List (PD × PD))
  | dctL (l : List (PD × List PD))
/-- what a slot holds: nothing, data, an object of the def's own, an object lent by the caller -/
inductive SV where
  | un | d (x : PD) | o (x : OB) | b (x : OB)
abbrev Rho := List SV
/-- an exception: its class by name, its one number -/
structure Exc where
  cls : String
  arg : Option Int
/-- an expression's outcome: data, or the object of a slot -/
inductive OV where
  | d (x : PD) | s (i : Nat)
inductive R (α : Type) where
  | stuck
  | ok (a : α) (ρ : Rho)
  | exc (e : Exc) (ρ : Rho)
def R.bind {α β : Type} (r : R α) (f : α → Rho → R β) : R β := match r with
  | .stuck => .stuck
  | .ok a ρ => f a ρ
  | .exc e ρ => .exc e ρ
@[simp] theorem R.bind_ok {α β : Type} {f : α → Rho → R β} {a : α} {ρ : Rho} : (R.ok a ρ).bind f = f a ρ := rfl
@[simp] theorem R.bind_stuck {α β : Type} {f : α → Rho → R β} : (R.stuck : R α).bind f = .stuck := rfl
@[simp] theorem R.bind_exc {α β : Type} {f : α → Rho → R β} {e : Exc} {ρ : Rho} : (R.exc e ρ : R α).bind f = .exc e ρ := rfl
/-- the content of an object, as data -/
def OB.toD : OB → PD
  | .lst l => .list l
  | .dct l => .dict l
  | .dctL l => .dict (l.map fun p => (p.1, .list p.2))
/-- the object that a slot holds -/
def objAt (ρ : Rho) (i : Nat) : Option OB := match ρ[i]? with
  | some (.o x) => some x
  | some (.b x) => some x
  | _ => none
/-- the content of an object, where it may be read as data -/
def OB.rd : OB → Option PD
  | .lst l => some (.list l)
  | .dct l => some (.dict l)
  | .dctL _ => none
/-- the data that an outcome stands for, now -/
def OV.get (ρ : Rho) : OV → Option PD
  | .d x => some x
  | .s i => (objAt ρ i).bind OB.rd
/-- store: a slot that holds a lent object is never stored into -/
def put (ρ : Rho) (i : Nat) (x : SV) : Option Rho := match ρ[i]? with
  | some (.b _) => none
  | some _ => some (ρ.set i x)
  | none => none
/-- the object of a slot changes -/
def putObj (ρ : Rho) (i : Nat) (x : OB) : Option Rho := match ρ[i]? with
  | some (.o _) => some (ρ.set i (.o x))
  | some (.b _) => some (ρ.set i (.b x))
  | _ => none

inductive BOp where
  | add | sub | mul | fdiv | mod | pow
  deriving DecidableEq
inductive COp where
  | eq | ne | lt | le | gt | ge | isin | notin
  deriving DecidableEq
inductive Ty where
  | int | bool | str | tuple | list | dict
  deriving DecidableEq
inductive Bi where
  | len | all | sum | max1 | max2 | min2 | int | abs | tuple | list | sorted
  deriving DecidableEq

def lim : Nat := sizeLine
/-! keys of dicts -/
mutual
def keyN : PD → Option NestedKey
  | .none => some .none
  | .bool b => some (.num (if b = true then 1 else 0))
  | .int i => some (.num i)
  | .str x => some (.text x)
  | .tuple l => (keyNs l).map .tup
  | _ => none
def keyNs : List PD → Option (List NestedKey)
  | [] => some []
  | x :: l => (keyN x).bind fun a => (keyNs l).map (a :: ·)
end
def isTup : PD → Bool
  | .tuple _ => true
  | _ => false
/-- data as a key: a tuple, or a number -/
def keyD (d : PD) : Option NestedKey := match d with
  | .tuple l => (keyN (.tuple l)).bind fun k => if k.depth ≤ 8 then some k else none
  | .int i => some (.num i)
  | _ => none
def keyEq (n : NestedKey) (d : PD) : Bool := decide (keyD d = some n)
def okKey {α : Type} (b : Bool) (l : List (PD × α)) : Bool := l.all fun p => (keyD p.1).isSome && (isTup p.1 == b)
def getK {α : Type} (l : List (PD × α)) (n : NestedKey) : Option α := (l.find? fun p => keyEq n p.1).map (·.2)
def putKD {α : Type} (l : List (PD × α)) (n : NestedKey) (k : PD) (v : α) : List (PD × α) := if (l.any fun p => keyEq n p.1) = true then l.map (fun p => if keyEq n p.1 = true then (p.1, v) else p) else l ++ [(k, v)]
/-- what a dict says of a key; none where it may not be asked -/
def dGet {α : Type} (l : List (PD × α)) (k : PD) : Option (Option α) := match keyD k with
  | some n => if okKey (isTup k) l = true then some (getK l n) else none
  | none => none
def dPut {α : Type} (l : List (PD × α)) (k : PD) (v : α) : Option (List (PD × α)) := match keyD k with
  | some n => if okKey (isTup k) l = true ∧ l.length < lim then some (putKD l n k v) else none
  | none => none
def isInt : PD → Bool
  | .int _ => true
  | _ => false
def rep (k : Int) (l : List PD) : List PD := (List.replicate k.toNat l).flatten
def binD : BOp → PD → PD → Option PD
  | .add, .int i, .int j => some (.int (i + j))
  | .sub, .int i, .int j => some (.int (i - j))
  | .mul, .int i, .int j => if i.natAbs < 18446744073709551616 ∨ j.natAbs < 18446744073709551616 then some (.int (i * j)) else none
  | .fdiv, .int i, .int j => if j ≠ 0 ∧ j.natAbs < 1073741824 then some (.int (i.fdiv j)) else none
  | .mod, .int i, .int j => if j ≠ 0 then some (.int (i.fmod j)) else none
  | .pow, .int i, .int j => if 0 ≤ j ∧ j ≤ 1000000 ∧ i.natAbs < 18446744073709551616 then some (.int (i ^ j.toNat)) else none
  | .add, .tuple x, .tuple y => if x.length + y.length ≤ lim then some (.tuple (x ++ y)) else none
  | .add, .list x, .list y => if x.length + y.length ≤ lim then some (.list (x ++ y)) else none
  | .mul, .tuple x, .int k => if 0 ≤ k ∧ k ≤ 1000 ∧ x.length ≤ 1000 ∧ x ≠ [] then some (.tuple (rep k x)) else none
  | .mul, .list x, .int k => if 0 ≤ k ∧ k ≤ 1000 ∧ x.length ≤ 1000 then some (.list (rep k x)) else none
  | _, _, _ => none
def shaped (d : PD) : Bool := SeqAt.shaped d
def anyEq (x : PD) (l : List PD) : Bool := l.any fun z => PySem.PyData.eqv z x
def keyIn (x : PD) (l : List (PD × PD)) : Bool := l.any fun z => PySem.PyData.eqv z.1 x
def cmpD : COp → PD → PD → Option Bool
  | .eq, a, b => if shaped a = true ∧ shaped b = true then some (PySem.PyData.eqv a b) else none
  | .ne, a, b => if shaped a = true ∧ shaped b = true then some (!PySem.PyData.eqv a b) else none
  | .lt, .int i, .int j => some (decide (i < j))
  | .le, .int i, .int j => some (decide (i ≤ j))
  | .gt, .int i, .int j => some (decide (j < i))
  | .ge, .int i, .int j => some (decide (j ≤ i))
  | .isin, a, .list l => if shaped a = true ∧ shaped (.list l) = true then some (anyEq a l) else none
  | .isin, a, .tuple l => if shaped a = true ∧ shaped (.tuple l) = true then some (anyEq a l) else none
  | .notin, a, .list l => if shaped a = true ∧ shaped (.list l) = true then some (!anyEq a l) else none
  | .isin, a, .dict l => (dGet l a).map (·.isSome)
  | .notin, a, .dict l => (dGet l a).map fun o => !o.isSome
  | .notin, a, .tuple l => if shaped a = true ∧ shaped (.tuple l) = true then some (!anyEq a l) else none
  | _, _, _ => none
/-- which of these types a value has -/
def isTy : PD → Ty → Bool
  | .bool _, .bool => true
  | .bool _, .int => true
  | .int _, .int => true
  | .str _, .str => true
  | .tuple _, .tuple => true
  | .list _, .list => true
  | .dict _, .dict => true
  | _, _ => false
def boolsD : List PD → Option (List Bool)
  | [] => some []
  | .bool b :: r => (boolsD r).map (b :: ·)
  | _ => none
def intsD : List PD → Option (List Int)
  | [] => some []
  | .int b :: r => (intsD r).map (b :: ·)
  | _ => none
def maxI : Int → List Int → Int
  | m, [] => m
  | m, x :: r => maxI (if m < x then x else m) r
/-- what can be sorted: tuples of which none is empty, or the first one; numbers -/
def srtOk (l : List PD) : Bool := (l.all (fun d => match d with | .tuple (_ :: _) => true | _ => false) || l.all isInt) || (match l with
  | .tuple [] :: r => r.all isTup
  | _ => false)
def biD : Bi → List PD → Option PD
  | .len, [.tuple l] => some (.int l.length)
  | .len, [.list l] => some (.int l.length)
  | .len, [.dict l] => some (.int l.length)
  | .len, [.str s] => if s.length ≤ lim then some (.int s.length) else none
  | .all, [.list l] => (boolsD l).map fun bs => .bool (bs.all id)
  | .sum, [.list l] => (intsD l).map fun ns => .int ns.sum
  | .max1, [.list l] => match intsD l with
    | some (n :: ns) => some (.int (maxI n ns))
    | _ => none
  | .max2, [.int i, .int j] => some (.int (if j > i then j else i))
  | .min2, [.int i, .int j] => some (.int (if j < i then j else i))
  | .int, [.int i] => some (.int i)
  | .int, [.bool b] => some (.int (if b then 1 else 0))
  | .abs, [.int i] => some (.int (if i < 0 then -i else i))
  | .tuple, [.list l] => some (.tuple l)
  | .tuple, [.tuple l] => some (.tuple l)
  | .list, [.list l] => some (.list l)
  | .list, [.tuple l] => some (.list l)
  | .list, [.dict l] => some (.list (l.map (·.1)))
  | .sorted, [.dict l] => if (l.all fun p => isInt p.1) = true ∧ l.length < 64 then some (.list ((l.map (·.1)).mergeSort (PySem.W.dataLe false id))) else none
  | .sorted, [.list l] => if srtOk l = true ∧ (l.all fun d => d.canLay0) = true ∧ l.length ≤ lim ∧ (l.all fun d => l.all fun e => PySem.W.alike d e) = true ∧ (l.all fun d => decide (d.depth ≤ 8)) = true then some (.list (l.mergeSort (PySem.W.dataLe false id))) else none
  | _, _ => none
def idxD : PD → PD → Option PD
  | .tuple l, .int i => atI l i
  | .list l, .int i => atI l i
  | .dict l, k => (dGet l k).bind id
  | _, _ => none
/-- a bound of a slice: absent, or a number -/
def bnd (p : Bool) (x : PD) : Option (Option Int) := match p, x with
  | false, _ => some none
  | true, .int i => some (some i)
  | true, _ => none
def bndO (p : Bool) : OV → Option (Option Int)
  | .d x => bnd p x
  | .s _ => none
def cutD (l : List PD) (lo hi : Option Int) : List PD := (l.drop (HT.sIx l.length 0 lo)).take (HT.sIx l.length l.length hi - HT.sIx l.length 0 lo)
def slcD : PD → Option Int → Option Int → Option PD
  | .tuple l, lo, hi => some (.tuple (cutD l lo hi))
  | .list l, lo, hi => some (.list (cutD l lo hi))
  | _, _, _ => none
def pickD : List Str → List PD → Str → Option PD
  | k :: ks, v :: vs, x => match pickD ks vs x with
    | some y => some y
    | none => if k = x then some v else none
  | _, _, _ => none

/-- targets -/
inductive Tg where
  | n (i : Nat)
  | t (l : List Tg)
mutual
/-- the slots of a target -/
def tgS : Tg → List Nat
  | .n i => [i]
  | .t l => tgSs l
def tgSs : List Tg → List Nat
  | [] => []
  | t :: l => tgS t ++ tgSs l
end
mutual
inductive Ex where
  | c (x : PD)
  | g (n : Nat)
  | v (i : Nat)
  | s (i : Nat)
  | fz (i : Nat)
  | bin (o : BOp) (a b : Ex)
  | neg (a : Ex)
  | not (a : Ex)
  | and (a b : Ex)
  | or (a b : Ex)
  | cmp (o : COp) (a b : Ex)
  | chain (o1 o2 : COp) (a b c : Ex)
  | isN (a : Ex)
  | notN (a : Ex)
  | ite (c a b : Ex)
  | tup (l : Exs)
  | lst (l : Exs)
  | idx (a b : Ex)
  | slc (p1 p2 : Bool) (a lo hi : Ex)
  | call (f : Nat) (l : Exs)
  | bi (b : Bi) (l : Exs)
  | isi (a : Ex) (ts : List Ty)
  | pick (ks : List Str) (l : Exs) (k : Ex)
  | comp (e : Ex) (t : Tg) (it : It) (c : Ex) (own : List Nat)
  | comp2 (e : Ex) (t : Tg) (it : It) (t2 : Tg) (it2 : It) (own : List Nat)
  | dct0
  | dct1 (k v : Ex)
  | dget (a k : Ex)
  | dget2 (a k x : Ex)
  | isE (neg : Bool) (a : Ex)
  | pop (i : Nat)
  | rev (a : Ex)
inductive Exs where
  | nil
  | cons (a : Ex) (l : Exs)
inductive It where
  | lst (a : Ex)
  | tup (a : Ex)
  | range1 (a : Ex)
  | range2 (a b : Ex)
  | zip (a b : Ex)
  | enum (a : Ex)
  | enumZip (a b : Ex)
  | keys (a : Ex)
  | items (a : Ex)
end

inductive Out where
  | ret (x : PD)
  | exc (e : Exc)
/-- what is called: the outcome, and the arguments behind it (the lent objects may have changed) -/
abbrev Call := Nat → List SV → Option (Out × List SV)

/-- an outcome that is data -/
def esc (x : OV) (ρ : Rho) : R PD := match x with
  | .d y => .ok y ρ
  | .s _ => .stuck
def needB (x : OV) : Option Bool := match x with
  | .d (.bool b) => some b
  | _ => none
def ofO {α : Type} (x : Option α) (ρ : Rho) : R α := match x with
  | some a => .ok a ρ
  | none => .stuck
def wipeR (ρ : Rho) : List Nat → Rho
  | [] => ρ
  | i :: r => (wipeR ρ r).set i .un
/-- the slots at own as they were in ρ -/
def backR (ρ ρ' : Rho) : List Nat → Rho
  | [] => ρ'
  | i :: r => match ρ[i]? with
    | some x => (backR ρ ρ' r).set i x
    | none => backR ρ ρ' r
mutual
def asgR : Tg → PD → Rho → Option Rho
  | .n i, x, ρ => put ρ i (.d x)
  | .t ts, .tuple xs, ρ => asgRs ts xs ρ
  | .t _, _, _ => none
def asgRs : List Tg → List PD → Rho → Option Rho
  | [], [], ρ => some ρ
  | t :: ts, x :: xs, ρ => (asgR t x ρ).bind (asgRs ts xs)
  | _, _, _ => none
end
/-- the arguments of a call: those that are lent are slots -/
def argsOf : List Bool → List OV → Rho → Option (List SV)
  | [], [], _ => some []
  | false :: ms, .d y :: xs, ρ => (argsOf ms xs ρ).map (.d y :: ·)
  | true :: ms, .s i :: xs, ρ => (objAt ρ i).bind fun ob => (argsOf ms xs ρ).map (.b ob :: ·)
  | _, _, _ => none
/-- the lent objects as they come back -/
def backArgs : List OV → List SV → Rho → Option Rho
  | [], [], ρ => some ρ
  | .s i :: xs, .b ob :: ys, ρ => (putObj ρ i ob).bind (backArgs xs ys)
  | .d _ :: xs, .d _ :: ys, ρ => backArgs xs ys ρ
  | _, _, _ => none
/-- at which place a slot is lent -/
def slotIx (i : Nat) : List OV → Option Nat
  | [] => none
  | .s j :: r => if j = i then some 0 else (slotIx i r).map (· + 1)
  | .d _ :: r => (slotIx i r).map (· + 1)
def distinctS : List OV → Bool
  | [] => true
  | .s i :: r => (slotIx i r).isNone && distinctS r
  | .d _ :: r => distinctS r

/-- the loop of a comprehension over items: what is made, and the slots behind it -/
def loopC (tg : Tg) (own : List Nat) (c : Rho → R OV) (e : Rho → R OV) : List PD → Rho → R (List PD)
  | [], ρ => .ok [] ρ
  | x :: xs, ρ => match asgR tg x (wipeR ρ own) with
    | none => .stuck
    | some ρ1 => match c ρ1 with
      | .ok (.d (.bool true)) ρ2 => (e ρ2).bind fun y ρ3 => (esc y ρ3).bind fun z ρ4 => (loopC tg own c e xs ρ4).bind fun zs ρ5 => .ok (z :: zs) ρ5
      | .ok (.d (.bool false)) ρ2 => loopC tg own c e xs ρ2
      | _ => .stuck
def loopC2 (tg : Tg) (own : List Nat) (f : Rho → R (List PD)) : List PD → Rho → R (List PD)
  | [], ρ => .ok [] ρ
  | x :: xs, ρ => match asgR tg x (wipeR ρ own) with
    | none => .stuck
    | some ρ1 => (f ρ1).bind fun z ρ4 => (loopC2 tg own f xs ρ4).bind fun zs ρ5 => .ok (z ++ zs) ρ5
def rangeL (a b : Int) : List PD := (List.range (b - a).toNat).map fun i => .int (a + (i : Nat))
def zipL : List PD → List PD → List PD
  | x :: xs, y :: ys => .tuple [x, y] :: zipL xs ys
  | _, _ => []
def enumL : Nat → List PD → List PD
  | _, [] => []
  | i, x :: xs => .tuple [.int i, x] :: enumL (i + 1) xs
def small62 (i : Int) : Bool := decide (-(2 ^ 62) ≤ i) && decide (i < 2 ^ 62)

section
variable (cl : Call) (mt : Nat → List Bool) (gv : Nat → PD)
mutual
def ev : Ex → Rho → R OV
  | .c x, ρ => .ok (.d x) ρ
  | .g n, ρ => .ok (.d (gv n)) ρ
  | .v i, ρ => match ρ[i]? with
    | some (.d x) => .ok (.d x) ρ
    | _ => .stuck
  | .s i, ρ => match objAt ρ i with
    | some _ => .ok (.s i) ρ
    | none => .stuck
  | .fz i, ρ => match ρ[i]? with
    | some (.o ob) => .ok (.d ob.toD) (ρ.set i (.d ob.toD))
    | _ => .stuck
  | .bin o a b, ρ => (ev a ρ).bind fun x ρ => (ev b ρ).bind fun y ρ => match x.get ρ, y.get ρ with
    | some x, some y => ofO ((binD o x y).map .d) ρ
    | _, _ => .stuck
  | .neg a, ρ => (ev a ρ).bind fun x ρ => match x with
    | .d (.int i) => .ok (.d (.int (-i))) ρ
    | _ => .stuck
  | .not a, ρ => (ev a ρ).bind fun x ρ => match needB x with
    | some b => .ok (.d (.bool (!b))) ρ
    | none => .stuck
  | .and a b, ρ => (ev a ρ).bind fun x ρ => match needB x with
    | some true => ev b ρ
    | some false => .ok (.d (.bool false)) ρ
    | none => .stuck
  | .or a b, ρ => (ev a ρ).bind fun x ρ => match needB x with
    | some true => .ok (.d (.bool true)) ρ
    | some false => ev b ρ
    | none => .stuck
  | .cmp o a b, ρ => (ev a ρ).bind fun x ρ => (ev b ρ).bind fun y ρ => match x.get ρ, y.get ρ with
    | some x, some y => ofO ((cmpD o x y).map fun b => .d (.bool b)) ρ
    | _, _ => .stuck
  | .chain o1 o2 a b c, ρ => (ev a ρ).bind fun x ρ => (ev b ρ).bind fun y ρ => match x.get ρ, y.get ρ with
    | some x', some y' => match cmpD o1 x' y' with
      | some true => (ev c ρ).bind fun z ρ => match y.get ρ, z.get ρ with
        | some y, some z => ofO ((cmpD o2 y z).map fun b => .d (.bool b)) ρ
        | _, _ => .stuck
      | some false => .ok (.d (.bool false)) ρ
      | none => .stuck
    | _, _ => .stuck
  | .isN a, ρ => (ev a ρ).bind fun x ρ => match x with
    | .d .none => .ok (.d (.bool true)) ρ
    | .d _ => .ok (.d (.bool false)) ρ
    | .s _ => .stuck
  | .notN a, ρ => (ev a ρ).bind fun x ρ => match x with
    | .d .none => .ok (.d (.bool false)) ρ
    | .d _ => .ok (.d (.bool true)) ρ
    | .s _ => .stuck
  | .ite c a b, ρ => (ev c ρ).bind fun x ρ => match needB x with
    | some true => ev a ρ
    | some false => ev b ρ
    | none => .stuck
  | .tup l, ρ => (evs l ρ).bind fun xs ρ => if xs.length ≤ lim then .ok (.d (.tuple xs)) ρ else .stuck
  | .lst l, ρ => (evs l ρ).bind fun xs ρ => if xs.length ≤ lim then .ok (.d (.list xs)) ρ else .stuck
  | .idx a b, ρ => (ev a ρ).bind fun x ρ => (ev b ρ).bind fun y ρ => match x.get ρ, y.get ρ with
    | some x, some y => ofO ((idxD x y).map .d) ρ
    | _, _ => .stuck
  | .slc p1 p2 a lo hi, ρ => (ev a ρ).bind fun x ρ => ((if p1 = true then ev lo ρ else .ok (.d .none) ρ).bind fun y ρ => ofO (bndO p1 y) ρ).bind fun lo ρ =>
    ((if p2 = true then ev hi ρ else .ok (.d .none) ρ).bind fun y ρ => ofO (bndO p2 y) ρ).bind fun hi ρ => match x.get ρ with
    | some x => ofO ((slcD x lo hi).map .d) ρ
    | none => .stuck
  | .call f l, ρ => (evo l ρ).bind fun xs ρ => if distinctS xs = true then match argsOf (mt f) xs ρ with
      | none => .stuck
      | some args => match cl f args with
        | none => .stuck
        | some (out, args') => match backArgs xs args' ρ with
          | none => .stuck
          | some ρ => match out with
            | .ret x => .ok (.d x) ρ
            | .exc e => .exc e ρ
      else .stuck
  | .bi b l, ρ => (evo l ρ).bind fun xs ρ => match xs.mapM (OV.get ρ) with
    | some ys => ofO ((biD b ys).map .d) ρ
    | none => .stuck
  | .isi a ts, ρ => (ev a ρ).bind fun x ρ => match x.get ρ with
    | some x => .ok (.d (.bool (ts.any (isTy x)))) ρ
    | none => .stuck
  | .pick ks l k, ρ => (evs l ρ).bind fun xs ρ => (ev k ρ).bind fun y ρ => match y with
    | .d (.str y) => ofO ((pickD ks xs y).map .d) ρ
    | _ => .stuck
  | .comp e t it c own, ρ => (evIt it ρ).bind fun xs ρ => match loopC t own (ev c) (ev e) xs ρ with
    | .ok ys ρ' => if ys.length ≤ lim then .ok (.d (.list ys)) (backR ρ ρ' own) else .stuck
    | _ => .stuck
  | .comp2 e t it t2 it2 own, ρ => (evIt it ρ).bind fun xs ρ => match loopC2 t own (fun ρ => (evIt it2 ρ).bind fun ys ρ => loopC t2 (tgS t2) (fun ρ => .ok (.d (.bool true)) ρ) (ev e) ys ρ) xs ρ with
    | .ok ys ρ' => if ys.length ≤ lim then .ok (.d (.list ys)) (backR ρ ρ' own) else .stuck
    | _ => .stuck
  | .dct0, ρ => .ok (.d (.dict [])) ρ
  | .dct1 k v, ρ => (ev k ρ).bind fun x ρ => (esc x ρ).bind fun x ρ => (ev v ρ).bind fun y ρ => (esc y ρ).bind fun y ρ => ofO ((if isTup x = true then dPut [] x y else none).map fun l => .d (.dict l)) ρ
  | .dget a k, ρ => (ev a ρ).bind fun x ρ => match x.get ρ with
    | some (.dict _) => (ev k ρ).bind fun y ρ => match x.get ρ, y.get ρ with
      | some (.dict l), some y => ofO ((dGet l y).map fun o => .d (o.getD .none)) ρ
      | _, _ => .stuck
    | _ => .stuck
  | .dget2 a k z, ρ => (ev a ρ).bind fun x ρ => match x.get ρ with
    | some (.dict _) => (ev k ρ).bind fun y ρ => (esc y ρ).bind fun y ρ => (ev z ρ).bind fun z ρ => (esc z ρ).bind fun z ρ => match x.get ρ with
      | some (.dict l) => ofO ((dGet l y).map fun o => .d (o.getD z)) ρ
      | _ => .stuck
    | _ => .stuck
  | .isE neg a, ρ => (ev a ρ).bind fun x ρ => match x.get ρ with
    | some (.dict l) => .ok (.d (.bool (l.isEmpty != neg))) ρ
    | _ => .stuck
  | .pop i, ρ => match objAt ρ i with
    | some (.lst l) => match l.getLast? with
      | some x => match putObj ρ i (.lst l.dropLast) with
        | some ρ => .ok (.d x) ρ
        | none => .stuck
      | none => .stuck
    | _ => .stuck
  | .rev a, ρ => (ev a ρ).bind fun x ρ => match x.get ρ with
    | some (.list l) => .ok (.d (.list l.reverse)) ρ
    | _ => .stuck
def evs : Exs → Rho → R (List PD)
  | .nil, ρ => .ok [] ρ
  | .cons a l, ρ => (ev a ρ).bind fun x ρ => (esc x ρ).bind fun x ρ => (evs l ρ).bind fun xs ρ => .ok (x :: xs) ρ
def evo : Exs → Rho → R (List OV)
  | .nil, ρ => .ok [] ρ
  | .cons a l, ρ => (ev a ρ).bind fun x ρ => (evo l ρ).bind fun xs ρ => .ok (x :: xs) ρ
def evIt : It → Rho → R (List PD)
  | .lst a, ρ => (ev a ρ).bind fun x ρ => match x with
    | .d (.list l) => .ok l ρ
    | _ => .stuck
  | .tup a, ρ => (ev a ρ).bind fun x ρ => match x with
    | .d (.tuple l) => .ok l ρ
    | .d (.list l) => .ok l ρ
    | _ => .stuck
  | .range1 a, ρ => (ev a ρ).bind fun x ρ => match x with
    | .d (.int i) => if small62 i = true then .ok (rangeL 0 i) ρ else .stuck
    | _ => .stuck
  | .range2 a b, ρ => (ev a ρ).bind fun x ρ => (ev b ρ).bind fun y ρ => match x, y with
    | .d (.int i), .d (.int j) => if small62 i = true ∧ small62 j = true then .ok (rangeL i j) ρ else .stuck
    | _, _ => .stuck
  | .zip a b, ρ => (ev a ρ).bind fun x ρ => (ev b ρ).bind fun y ρ => match x, y with
    | .d (.tuple xs), .d (.tuple ys) => .ok (zipL xs ys) ρ
    | .d (.list xs), .d (.list ys) => .ok (zipL xs ys) ρ
    | _, _ => .stuck
  | .enum a, ρ => (ev a ρ).bind fun x ρ => match x with
    | .d (.tuple l) => .ok (enumL 0 l) ρ
    | _ => .stuck
  | .enumZip a b, ρ => (ev a ρ).bind fun x ρ => (ev b ρ).bind fun y ρ => match x, y with
    | .d (.tuple xs), .d (.tuple ys) => .ok (enumL 0 (zipL xs ys)) ρ
    | _, _ => .stuck
  | .keys a, ρ => (ev a ρ).bind fun x ρ => match x with
    | .d (.dict l) => .ok (l.map (·.1)) ρ
    | _ => .stuck
  | .items a, ρ => (ev a ρ).bind fun x ρ => match x with
    | .d (.dict l) => .ok (l.map fun p => .tuple [p.1, p.2]) ρ
    | _ => .stuck
end
end

/-! statements -/
mutual
inductive Sm where
  | set (i : Nat) (e : Ex)
  | setO (i : Nat) (e : Ex)
  | asg (t : Tg) (e : Ex)
  | par (l : List (Nat × Bool)) (es : Exs)
  | putIx (i : Nat) (k e : Ex)
  | app (i : Nat) (e : Ex)
  | ex (e : Ex)
  | ret (e : Ex)
  | retO (e : Ex)
  | ite (c : Ex) (a b : Sms)
  | for_ (t : Tg) (it : It) (body : Sms)
  | while_ (c : Ex) (body : Sms)
  | raise (cls : String)
  | dead
  | putD (i : Nat) (k e : Ex)
  | setL (i : Nat)
  | putL (i : Nat) (k : Ex)
  | appL (i : Nat) (k e : Ex)
  | gfz (i : Nat)
inductive Sms where
  | nil
  | cons (s : Sm) (l : Sms)
end
inductive Flow where
  | next
  | ret (x : PD)
/-- data as an object that may be changed -/
def obOf : PD → Option OB
  | .list l => some (.lst l)
  | .dict l => some (.dct l)
  | _ => none
def loopF (tg : Tg) (body : Rho → R Flow) : List PD → Rho → R Flow
  | [], ρ => .ok .next ρ
  | x :: xs, ρ => match asgR tg x ρ with
    | none => .stuck
    | some ρ1 => (body ρ1).bind fun f ρ2 => match f with
      | .next => loopF tg body xs ρ2
      | .ret y => .ok (.ret y) ρ2
def loopW (c : Rho → R OV) (body : Rho → R Flow) : Nat → Rho → R Flow
  | 0, _ => .stuck
  | n + 1, ρ => (c ρ).bind fun x ρ1 => match needB x with
    | some true => (body ρ1).bind fun f ρ2 => match f with
      | .next => loopW c body n ρ2
      | .ret y => .ok (.ret y) ρ2
    | some false => .ok .next ρ1
    | none => .stuck
def parR : List (Nat × Bool) → List PD → Rho → Option Rho
  | [], [], ρ => some ρ
  | (i, m) :: ts, x :: xs, ρ => match (if m then (obOf x).map SV.o else some (SV.d x)) with
    | some y => (put ρ i y).bind (parR ts xs)
    | none => none
  | _, _, _ => none
section
variable (cl : Call) (mt : Nat → List Bool) (gv : Nat → PD) (wf : Nat)
mutual
def exec : Sm → Rho → R Flow
  | .set i e, ρ => (ev cl mt gv e ρ).bind fun x ρ => (esc x ρ).bind fun x ρ => match put ρ i (.d x) with
    | some ρ => .ok .next ρ
    | none => .stuck
  | .setO i e, ρ => (ev cl mt gv e ρ).bind fun x ρ => match x with
    | .d x => match obOf x with
      | some ob => match put ρ i (.o ob) with
        | some ρ => .ok .next ρ
        | none => .stuck
      | none => .stuck
    | .s _ => .stuck
  | .asg t e, ρ => (ev cl mt gv e ρ).bind fun x ρ => (esc x ρ).bind fun x ρ => match asgR t x ρ with
    | some ρ => .ok .next ρ
    | none => .stuck
  | .par l es, ρ => (evs cl mt gv es ρ).bind fun xs ρ => match parR l xs ρ with
    | some ρ => .ok .next ρ
    | none => .stuck
  | .putIx i k e, ρ => (ev cl mt gv e ρ).bind fun x ρ => (esc x ρ).bind fun x ρ => match objAt ρ i with
    | none => .stuck
    | some _ => (ev cl mt gv k ρ).bind fun y ρ => match objAt ρ i, y with
      | some (.lst l), .d (.int j) => match ixN l.length j with
        | some n => match putObj ρ i (.lst (l.set n x)) with
          | some ρ => .ok .next ρ
          | none => .stuck
        | none => .stuck
      | _, _ => .stuck
  | .app i e, ρ => match objAt ρ i with
    | some (.lst _) => (ev cl mt gv e ρ).bind fun x ρ => (esc x ρ).bind fun x ρ => match objAt ρ i with
      | some (.lst l) => if l.length < lim then match putObj ρ i (.lst (l ++ [x])) with
          | some ρ => .ok .next ρ
          | none => .stuck
        else .stuck
      | _ => .stuck
    | _ => .stuck
  | .ex e, ρ => (ev cl mt gv e ρ).bind fun _ ρ => .ok .next ρ
  | .ret e, ρ => (ev cl mt gv e ρ).bind fun x ρ => (esc x ρ).bind fun x ρ => .ok (.ret x) ρ
  | .retO e, ρ => (ev cl mt gv e ρ).bind fun x ρ => match x with
    | .d x => .ok (.ret x) ρ
    | .s _ => .stuck
  | .ite c a b, ρ => (ev cl mt gv c ρ).bind fun x ρ => match needB x with
    | some true => execs a ρ
    | some false => execs b ρ
    | none => .stuck
  | .for_ t it body, ρ => (evIt cl mt gv it ρ).bind fun xs ρ => loopF t (execs body) xs ρ
  | .while_ c body, ρ => loopW (ev cl mt gv c) (execs body) wf ρ
  | .raise cls, ρ => .exc ⟨cls, none⟩ ρ
  | .dead, _ => .stuck
  | .putD i k e, ρ => (ev cl mt gv e ρ).bind fun x ρ => (esc x ρ).bind fun x ρ => match objAt ρ i with
    | none => .stuck
    | some _ => (ev cl mt gv k ρ).bind fun y ρ => (esc y ρ).bind fun y ρ => match objAt ρ i with
      | some (.dct l) => match dPut l y x with
        | some l' => match putObj ρ i (.dct l') with
          | some ρ => .ok .next ρ
          | none => .stuck
        | none => .stuck
      | _ => .stuck
  | .setL i, ρ => match put ρ i (.o (.dctL [])) with
    | some ρ => .ok .next ρ
    | none => .stuck
  | .putL i k, ρ => match objAt ρ i with
    | none => .stuck
    | some _ => (ev cl mt gv k ρ).bind fun y ρ => (esc y ρ).bind fun y ρ => match objAt ρ i with
      | some (.dctL l) => match dGet l y with
        | some none => match dPut l y [] with
          | some l' => match putObj ρ i (.dctL l') with
            | some ρ => .ok .next ρ
            | none => .stuck
          | none => .stuck
        | _ => .stuck
      | _ => .stuck
  | .appL i k e, ρ => match objAt ρ i with
    | none => .stuck
    | some _ => (ev cl mt gv k ρ).bind fun y ρ => (esc y ρ).bind fun y ρ => (ev cl mt gv e ρ).bind fun x ρ => (esc x ρ).bind fun x ρ => match objAt ρ i with
      | some (.dctL l) => match dGet l y with
        | some (some xs) => if xs.length < lim then match dPut l y (xs ++ [x]) with
          | some l' => match putObj ρ i (.dctL l') with
            | some ρ => .ok .next ρ
            | none => .stuck
          | none => .stuck
          else .stuck
        | _ => .stuck
      | _ => .stuck
  | .gfz i, ρ => match ρ[i]? with
    | some (.o ob) => .ok .next (ρ.set i (.d ob.toD))
    | _ => .stuck
def execs : Sms → Rho → R Flow
  | .nil, ρ => .ok .next ρ
  | .cons s l, ρ => (exec s ρ).bind fun f ρ => match f with
    | .next => execs l ρ
    | .ret x => .ok (.ret x) ρ
end
end

/-! defs -/
structure Df where
  name : String
  names : List String
  np : Nat
  mt : List Bool
  fresh : Bool
  body : Sms
/-- the lent arguments as they are behind the body -/
def outArgs : List SV → Rho → Option (List SV)
  | [], _ => some []
  | .b _ :: as, .b y :: ρ => (outArgs as ρ).map (.b y :: ·)
  | .d x :: as, _ :: ρ => (outArgs as ρ).map (.d x :: ·)
  | _, _ => none
def callDf (cl : Call) (mt : Nat → List Bool) (gv : Nat → PD) (wf : Nat) (d : Df) (args : List SV) : Option (Out × List SV) :=
  match execs cl mt gv wf d.body (args ++ List.replicate (d.names.length - args.length) .un) with
  | .ok (.ret x) ρ => (outArgs args ρ).map fun as => (.ret x, as)
  | .ok .next ρ => (outArgs args ρ).map fun as => (.ret .none, as)
  | .exc e ρ => (outArgs args ρ).map fun as => (.exc e, as)
  | .stuck => none
def mtOf (P : Nat → Option Df) (f : Nat) : List Bool := match P f with
  | some d => d.mt
  | none => []
def run (P : Nat → Option Df) (gv : Nat → PD) (wf : Nat) : Nat → Call
  | 0, _, _ => none
  | n + 1, f, args => match P f with
    | some d => if args.length = d.np then callDf (run P gv wf n) (mtOf P) gv wf d args else none
    | none => none
end Er

set_option Elab.async false
set_option linter.all false
set_option maxRecDepth 100000
set_option maxHeartbeats 4000000
/-! C26: sorted of tuples of which the first is empty (the sort takes them as one type). -/
namespace Er
open PySem PySem.W PySem.Calls PySem.SeqAt PyProof.Rows
theorem call_tuple_lt {prog : Program} {w : World} {A : Around} {s : Shared} {E : Value → Shared → Prop} {Q : Value → Shared → Prop} {l b : Addr} {items items2 : Array Value} {e r : Nat → Bool} (hl : s.heap.IsTuple l items) (hb : s.heap.IsTuple b items2)
    (he : ∀ j (h1 : j < items.size) (h2 : j < items2.size), EqAt A.in1 s items[j] items2[j] (e j)) (hr : ∀ j (h1 : j < items.size) (h2 : j < items2.size), e j = false → RcLt A.in1 s items[j] items2[j] (r j))
    (h : Q (.bool (firstLt e r (decide (items.size < items2.size)) (List.range (min items.size items2.size)))) s) : wpAny (model prog w) A (call (.builtin "tuple.__lt__") [.ref l, .ref b]) Q E s := by
  obtain ⟨⟨cls, dd, data, sl⟩, ho, hc, n, hd⟩ := id hl
  obtain ⟨⟨cls2, dd2, data2, sl2⟩, ho2, hc2, n2, hd2⟩ := id hb
  simp only at hc hd hc2 hd2
  subst hc hd hc2 hd2
  exact call_meets F.slot_tuple_lt ⟨_, ho, rfl⟩ F.entry_tuple_lt (F.args_tuple_lt_2 _ _) (tuple_ltAt l b items items2 n n2 dd dd2 sl sl2 e r) ⟨ho, ho2, he, hr, h⟩
section
variable {prog : Program} {w : World} {A : Around} {E : Value → Shared → Prop} {s : Shared}
/-- a tuple against a tuple, as keys of one type -/
theorem oneLt_tuples {xs ys : List PyData} {a b : Value} {as bs : List Addr} {Q : Bool → Shared → Prop} (ra : Reads s.heap a (.tuple xs) as) (rb : Reads s.heap b (.tuple ys) bs) (h : alike (.tuple xs) (.tuple ys) = true)
    (hu : A.units + min (PyData.tuple xs).depth (PyData.tuple ys).depth < cLine) (hq : Q (dataLt (.tuple xs) (.tuple ys)) s) : wpAny (model prog w) A (oneLt' true a b) Q E s := by
  have hal : alikeAll xs ys = true := by simpa [alike] using h
  cases ra with
  | @tuple l o vs n _ as₁ h1 h2 h3 h4 =>
    cases rb with
    | @tuple l' o' vs' n' _ bs₁ k1 k2 k3 k4 =>
      have n1 : vs.size = xs.length := by simpa using ReadsAll.length _ _ _ h4
      have n2 : vs'.size = ys.length := by simpa using ReadsAll.length _ _ _ k4
      rw [dataLt_tuple, ← firstLt_toks xs ys hal, ← n1, ← n2] at hq
      rw [oneLt'_eq]
      simp only [if_true]
      refine wpAny_bind (wpAny_cRoomFor (room_here hu) ?_)
      refine wpAny_bind (wpAny_callSpecialIfBound?_slot (T := "tuple") ⟨_, h1, h2⟩ F.slot_tuple_lt (call_tuple_lt (e := pairEq xs ys) (r := fun j => dataLt (xs.getD j .none) (ys.getD j .none)) ⟨_, h1, h2, _, h3⟩ ⟨_, k1, k2, _, k3⟩ (fun j j1 j2 => ?_) (fun j j1 j2 hj => ?_) ?_))
      · have := eqAt_alikeAll xs ys A.in1 s vs.toList vs'.toList _ _ h4 k4 hal (room_in hu) j (by simpa using j1) (by simpa using j2)
        simpa using this
      · have := rcLt_alikeAll xs ys A.in1 s vs.toList vs'.toList _ _ h4 k4 hal (room_in hu) j (by simpa using j1) (by simpa using j2) hj
        simpa using this
      · exact wpAny_truthy_bool hq
/-- the first items of tuples, empty ones too -/
theorem firsts_any : ∀ (vs : List Value) (ds : List PySem.PyData) {Q : List (Option Value) → Shared → Prop}, EachIs (fun v d => ∃ as, Reads s.heap v d as) vs ds → (∀ d ∈ ds, ∃ r : List PyData, d = PyData.tuple r) →
    (∀ os : List (Option Value), os.length = vs.length → (∀ ds', ds = .tuple [] :: ds' → ∃ os' : List (Option Value), os = none :: os') → Q os s) → wpAny (model prog w) A (vs.mapM firstOfTuple') Q E s
  | [], _, _, e, _, h => by
    cases e
    rw [List.mapM_nil]
    exact wpAny_pure (h [] rfl fun _ z => nomatch z)
  | v :: vs, _, Q, e, ht, h => by
    cases e with
    | @cons _ d _ ds r1 t =>
      obtain ⟨as, r1⟩ := r1
      obtain ⟨r, rfl⟩ := ht d (List.mem_cons_self ..)
      cases r1 with
      | @tuple a o xs n _ _ ho hc hd hr =>
        rw [List.mapM_cons]
        refine wpAny_bind ?_
        rw [kas_first_eq]
        refine wpAny_bind (Looks.here (show Looks (model prog w) s.heap (typeOf (.ref a)) o.cls from (Looks.ld ho).andThen .now) ?_)
        rw [hc, if_neg (by first | decide | simp)]
        refine wpAny_bind (listItems_at ho hd (wpAny_pure ?_))
        refine wpAny_bind (firsts_any vs ds (Q := fun bs s' => wpAny (model prog w) A (pure (xs[0]? :: bs)) Q E s') t (fun d hd => ht d (List.mem_cons_of_mem _ hd)) fun os ho _ => wpAny_pure (h _ (by simp [ho]) fun ds' e => ?_))
        have e1 := (List.cons.inj e).1
        injection e1 with e1
        subst e1
        have hz : xs.toList = [] := by
          have := ReadsAll.length _ _ _ hr
          simpa using this
        exact ⟨os, by rw [← Array.getElem?_toList, hz]; rfl⟩
theorem kind_empty {vs : List Value} {ds : List PyData} {Q : SortKind → Shared → Prop} (e : EachIs (fun v d => ∃ as, Reads s.heap v d as) vs (.tuple [] :: ds)) (ht : ∀ d ∈ ds, ∃ r, d = .tuple r) (h : Q oneType' s) :
    wpAny (model prog w) A (keyKind' vs.toArray) Q E s := by
  rw [keyKind'_eq, List.mapM_toArray, map_eq_pure_bind]
  have ht' : ∀ d ∈ PyData.tuple [] :: ds, ∃ r : List PyData, d = PyData.tuple r := fun d hd => by
    rcases List.mem_cons.mp hd with rfl | hd
    · exact ⟨_, rfl⟩
    · exact ht d hd
  refine wpAny_bind (wpAny_bind (firsts_any vs _ e ht' fun os _ h0 => wpAny_pure ?_))
  obtain ⟨os', rfl⟩ := h0 ds rfl
  rw [if_neg (by simp), if_neg (by simp)]
  rw [oneTypeOnly'_eq, List.mapM_toArray, map_eq_pure_bind]
  have hT : ∀ v ∈ vs, Looks (model prog w) s.heap (typeOf v) (.type "tuple") := fun v hv => by
    obtain ⟨d, hd, as, r⟩ := e.left v hv
    obtain ⟨z, rfl⟩ := ht' d hd
    exact looks_reads r
  refine wpAny_bind (wpAny_bind (wpAny_bind (kas_mapM (r := Value.type "tuple") _ (fun v hv Q' hq => (hT v hv).here hq) (wpAny_pure ?_))))
  match vs, e with
  | v :: vs, _ =>
    have hall : ((List.map (fun _ => Value.type "tuple") (v :: vs)).toArray.all fun x => x == Value.type "tuple") = true := by
      simp only [List.all_toArray, List.all_map, List.all_eq_true]
      intro _ _
      exact beq_self_eq_true _
    have h0 : (List.map (fun _ => Value.type "tuple") (v :: vs)).toArray[0]? = some (Value.type "tuple") := by simp
    rw [h0]
    simp only [hall, if_true]
    exact wpAny_pure (wpAny_pure h)
/-- tuples, the first of them empty, can be sorted -/
theorem sortsAt_empty {vs : List Value} {ds : List PyData} (e : EachIs (fun v d => ∃ as, Reads s.heap v d as) vs (.tuple [] :: ds)) (hal : AllAlike (.tuple [] :: ds)) (ht : ∀ d ∈ ds, ∃ r, d = .tuple r) (hu : ∀ d, d ∈ (PyData.tuple [] :: ds) → A.units + d.depth < cLine) : SortsAt prog w A s (dataKind s.heap (.tuple [] :: ds)) vs := by
  have ht' : ∀ d ∈ PyData.tuple [] :: ds, ∃ r : List PyData, d = PyData.tuple r := fun d hd => by
    rcases List.mem_cons.mp hd with rfl | hd
    · exact ⟨_, rfl⟩
    · exact ht d hd
  refine ⟨fun v hv => ?_, oneType', ?_, fun h2 E Q hq => kind_empty e ht hq⟩
  · obtain ⟨d, hd, as, r⟩ := e.left v hv
    exact ⟨_, dataKind_some hal hd r⟩
  · intro E x y a b Q ha hb hq
    obtain ⟨d, as, hd, ra, rfl⟩ := dataKind_inv ha
    obtain ⟨d', as', hd', rb, rfl⟩ := dataKind_inv hb
    rw [keyLt'_oneType]
    obtain ⟨r1, rfl⟩ := ht' d hd
    obtain ⟨r2, rfl⟩ := ht' d' hd'
    exact oneLt_tuples ra rb (hal _ hd _ hd') (Nat.lt_of_le_of_lt (Nat.add_le_add_left (Nat.min_le_left _ _) _) (hu _ hd)) hq
/-- sorted(xs) of tuples, the first of them empty -/
theorem sorted_empty {R : Value → PyData → Prop} {l : Addr} {vs : List Value} {ds : List PyData} {Q : Value → Shared → Prop} (hl : s.heap.IsList l vs.toArray) (e : EachIs R vs (.tuple [] :: ds)) (er : EachIs (fun v b => ∃ as, Reads s.heap v b as) vs (.tuple [] :: ds)) (hal : AllAlike (.tuple [] :: ds)) (ht : ∀ d ∈ ds, ∃ r, d = .tuple r) (hL : (PyData.tuple [] :: ds).length ≤ sizeLine)
    (hu : ∀ b, b ∈ (PyData.tuple [] :: ds) → A.units + 2 + b.depth < cLine) (h : ∀ out, out.length = (PyData.tuple [] :: ds).length → EachIs R out ((PyData.tuple [] :: ds).mergeSort (dataLe false id)) → Q (.ref (s.heap.objs.size + 1)) { s with heap := sortedAll s.heap vs (List.toArray out) }) :
    wpAny (model prog w) A (call (.builtin "sorted") [.ref l]) Q E s := by
  have er' : EachIs (fun v b => ∃ as, Reads (sortingHeap (copyHeap s.heap vs) (s.heap.objs.size + 1) vs) v b as) vs (.tuple [] :: ds) := er.mono fun _ _ ⟨as, r⟩ => ⟨as, PyProof.Rows.Reads.keeps (fun _ _ => sorting_copy_old) r⟩
  have hm : (PyData.tuple [] :: ds).map id = PyData.tuple [] :: ds := List.map_id _
  have z := sortVals_data (R := R) (enc := id) (h' := sortingHeap (copyHeap s.heap vs) (s.heap.objs.size + 1) vs) false e er' (by rw [hm]; exact hal)
  rw [hm] at z
  exact sorted_vals hl (sortsAt_empty (s := { s with heap := sortingHeap (copyHeap s.heap vs) (s.heap.objs.size + 1) vs }) er' hal ht fun d hd => hu d hd) (by rw [e.length]; exact hL)
    (h _ (by rw [sortVals_length false rfl]; exact e.length) z)
end
end Er

set_option Elab.async false
set_option linter.all false
set_option maxRecDepth 100000
/-! C2: how data lies in the heap; what a slot holds; steps. -/
namespace Er
open PySem L2
abbrev Frag := PySem.W.Frag

def stable : HO → Bool
  | .tup _ => true
  | .frz _ _ => true
  | _ => false
def Keeps (H H' : Hp) : Prop := ∀ b o, H b = some o → stable o = true → H' b = some o
theorem Keeps.refl (H : Hp) : Keeps H H := fun _ _ h _ => h
theorem Keeps.trans {H H1 H2 : Hp} (a : Keeps H H1) (b : Keeps H1 H2) : Keeps H H2 := fun c o h s => b c o (a c o h s) s
theorem Keeps.of_same {H H' : Hp} (s : Same H H') : Keeps H H' := fun b o h _ => s b o h

/-- the world of a walk: what texts hash to -/
class Wd where
  w : World
variable [Wd]
/-- an entry of a dict with tuples as keys -/
abbrev KE3 : Type := NestedKey × Addr × V
def entW (x : NestedKey × Addr × Value) : DictEntry := ⟨x.1.hash Wd.w, .ref x.2.1, x.2.2⟩
def KRel : List KE3 → List (NestedKey × Addr × Value) → Prop := Paired fun p q => p.1 = q.1 ∧ p.2.1 = q.2.1 ∧ RelV p.2.2 q.2.2
/-- the object at a: a dict with these entries -/
def DTok (a : Addr) (ks : List KE3) (h : Heap) : Prop := ks.length ≤ sizeLine ∧ (a == sysModules) = false ∧ ∃ xs, KRel ks xs ∧ ∃ o es ep, h.get? a = some o ∧ o.ExactDict ∧ o.data = .dict es ep ∧ es.toList = xs.map entW ∧ (xs.map (·.1)).Nodup
def dtO (a : Addr) (ks : List KE3) : HO := .ext (DTok a ks)
mutual
/-- the value v is the data d; what is changeable is frozen -/
inductive RD (K : Frag) (H : Hp) : PD → V → Prop
  | none : RD K H .none .non
  | bool (b : Bool) : RD K H (.bool b) (.bl b)
  | int (i : Int) : RD K H (.int i) (.int i)
  | str (x : Str) : RD K H (.str x) (.str x)
  | tup {a : Addr} {ds : List PD} {xs : List V} : SqT K H a xs → RDs K H ds xs → RD K H (.tuple ds) (.ref a)
  | lst {a : Addr} {o : Obj} {ds : List PD} {xs : List V} : H a = some (.frz o (.lst xs)) → RDs K H ds xs → RD K H (.list ds) (.ref a)
  | dT {a : Addr} {o : Obj} {l : List (PD × PD)} {ks : List KE3} : ks ≠ [] → H a = some (.frz o (dtO a ks)) → RDt K H l ks → RD K H (.dict l) (.ref a)
  | dI {a : Addr} {o : Obj} {l : List (PD × PD)} {kvs : List (Key × V)} : H a = some (.frz o (.dK kvs)) → RDi K H l kvs → RD K H (.dict l) (.ref a)
inductive RDs (K : Frag) (H : Hp) : List PD → List V → Prop
  | nil : RDs K H [] []
  | cons {d : PD} {v : V} {ds : List PD} {xs : List V} : RD K H d v → RDs K H ds xs → RDs K H (d :: ds) (v :: xs)
inductive RDt (K : Frag) (H : Hp) : List (PD × PD) → List KE3 → Prop
  | nil : RDt K H [] []
  | cons {k d : PD} {n : NestedKey} {b : Addr} {v : V} {l : List (PD × PD)} {ks : List KE3} : keyD k = some n → isTup k = true → RD K H k (.ref b) → RD K H d v → RDt K H l ks → RDt K H ((k, d) :: l) ((n, b, v) :: ks)
inductive RDi (K : Frag) (H : Hp) : List (PD × PD) → List (Key × V) → Prop
  | nil : RDi K H [] []
  | cons {i : Int} {d : PD} {v : V} {l : List (PD × PD)} {kvs : List (Key × V)} : RD K H d v → RDi K H l kvs → RDi K H ((.int i, d) :: l) ((.inl i, v) :: kvs)
end
section
variable {K : Frag} {H H' : Hp}
theorem sqT_keeps {a : Addr} {xs : List V} (k : Keeps H H') (h : SqT K H a xs) : SqT K H' a xs := by
  rcases h with (h | ⟨o, h⟩) | h
  · exact .inl (.inl (k _ _ h rfl))
  · exact .inl (.inr ⟨o, k _ _ h rfl⟩)
  · exact .inr h
mutual
theorem RD.mono (k : Keeps H H') : ∀ {d : PD} {v : V}, RD K H d v → RD K H' d v
  | _, _, .none => .none
  | _, _, .bool b => .bool b
  | _, _, .int i => .int i
  | _, _, .str x => .str x
  | _, _, .tup h t => .tup (sqT_keeps k h) (RDs.mono k t)
  | _, _, .lst h t => .lst (k _ _ h rfl) (RDs.mono k t)
  | _, _, .dT nn h t => .dT nn (k _ _ h rfl) (RDt.mono k t)
  | _, _, .dI h t => .dI (k _ _ h rfl) (RDi.mono k t)
theorem RDs.mono (k : Keeps H H') : ∀ {ds : List PD} {xs : List V}, RDs K H ds xs → RDs K H' ds xs
  | _, _, .nil => .nil
  | _, _, .cons h t => .cons (RD.mono k h) (RDs.mono k t)
theorem RDt.mono (k : Keeps H H') : ∀ {l : List (PD × PD)} {ks : List KE3}, RDt K H l ks → RDt K H' l ks
  | _, _, .nil => .nil
  | _, _, .cons h1 h2 r s t => .cons h1 h2 (RD.mono k r) (RD.mono k s) (RDt.mono k t)
theorem RDi.mono (k : Keeps H H') : ∀ {l : List (PD × PD)} {ks : List (Key × V)}, RDi K H l ks → RDi K H' l ks
  | _, _, .nil => .nil
  | _, _, .cons r t => .cons (RD.mono k r) (RDi.mono k t)
end
theorem RDs.length : ∀ {ds : List PD} {xs : List V}, RDs K H ds xs → ds.length = xs.length
  | _, _, .nil => rfl
  | _, _, .cons _ t => by simp [RDs.length t]
theorem RDs.get : ∀ {ds : List PD} {xs : List V} {i : Nat} {d : PD}, RDs K H ds xs → ds[i]? = some d → ∃ v, xs[i]? = some v ∧ RD K H d v
  | _, _, _, _, .nil, e => by simp at e
  | _, _, 0, _, .cons r _, e => by simp at e; subst e; exact ⟨_, rfl, r⟩
  | _, _, i + 1, d, .cons _ t, e => by
    obtain ⟨u, h1, h2⟩ := RDs.get (i := i) (d := d) t (by simpa using e)
    exact ⟨u, by simpa using h1, h2⟩
theorem RDs.getV {ds : List PD} {xs : List V} {i : Nat} {v : V} (r : RDs K H ds xs) (e : xs[i]? = some v) : ∃ d, ds[i]? = some d ∧ RD K H d v := by
  have hi : i < ds.length := by
    rw [r.length]
    exact (List.getElem?_eq_some_iff.mp e).1
  obtain ⟨u, h1, h2⟩ := r.get (List.getElem?_eq_getElem hi)
  rw [e] at h1
  cases h1
  exact ⟨_, List.getElem?_eq_getElem hi, h2⟩
theorem RDs.append : ∀ {ds es : List PD} {xs ys : List V}, RDs K H ds xs → RDs K H es ys → RDs K H (ds ++ es) (xs ++ ys)
  | _, _, _, _, .nil, s => s
  | _, _, _, _, .cons r t, s => .cons r (RDs.append t s)
theorem RDs.take : ∀ {ds : List PD} {xs : List V} (n : Nat), RDs K H ds xs → RDs K H (ds.take n) (xs.take n)
  | _, _, 0, _ => .nil
  | _, _, _ + 1, .nil => .nil
  | _, _, n + 1, .cons r t => .cons r (RDs.take n t)
theorem RDs.drop : ∀ {ds : List PD} {xs : List V} (n : Nat), RDs K H ds xs → RDs K H (ds.drop n) (xs.drop n)
  | _, _, 0, r => r
  | _, _, _ + 1, .nil => .nil
  | _, _, n + 1, .cons _ t => RDs.drop n t
theorem RDs.set {d : PD} {v : V} (h : RD K H d v) : ∀ {ds : List PD} {xs : List V} (n : Nat), RDs K H ds xs → RDs K H (ds.set n d) (xs.set n v)
  | _, _, _, .nil => .nil
  | _, _, 0, .cons _ t => .cons h t
  | _, _, n + 1, .cons r t => .cons r (RDs.set h n t)
theorem RDs.cut {ds : List PD} {xs : List V} (r : RDs K H ds xs) (lo hi : Option Int) : RDs K H (cutD ds lo hi) (cutV xs lo hi) := by
  unfold cutD cutV
  rw [r.length]
  exact (r.drop _).take _
theorem RDs.rep {ds : List PD} {xs : List V} (r : RDs K H ds xs) : ∀ n : Nat, RDs K H (List.replicate n ds).flatten (List.replicate n xs).flatten
  | 0 => .nil
  | n + 1 => by
    rw [List.replicate_succ, List.replicate_succ, List.flatten_cons, List.flatten_cons]
    exact r.append (RDs.rep r n)
theorem RDs.nil_iff {ds : List PD} {xs : List V} (r : RDs K H ds xs) : ds = [] ↔ xs = [] := by
  cases r with
  | nil => simp
  | cons => simp
theorem RDs.isEmpty {ds : List PD} {xs : List V} (r : RDs K H ds xs) : ds.isEmpty = xs.isEmpty := by
  cases r <;> rfl
mutual
/-- as data that is compared -/
theorem RD.dp : ∀ {d : PD} {v : V}, RD K H d v → d.canLay0 = true → Dp K H v d
  | _, _, .none, _ => .non
  | _, _, .bool b, _ => .bl b
  | _, _, .int i, _ => .int i
  | _, _, .str x, _ => .str x
  | _, _, .tup h t, c => .tup h (RDs.dp t (by rw [PyData.canLay0] at c; exact c))
  | _, _, .lst h t, c => .lst (.inl (.inr ⟨_, h⟩)) (RDs.dp t (by rw [PyData.canLay0] at c; exact c))
  | _, _, .dT _ _ _, c => by rw [PyData.canLay0] at c; cases c
  | _, _, .dI _ _, c => by rw [PyData.canLay0] at c; cases c
theorem RDs.dp : ∀ {ds : List PD} {xs : List V}, RDs K H ds xs → PyData.canLayAll0 ds = true → DpAll K H xs ds
  | _, _, .nil, _ => .nil
  | _, _, .cons h t, c => by
    rw [PyData.canLayAll0, Bool.and_eq_true] at c
    exact .cons (RD.dp h c.1) (RDs.dp t c.2)
end
/-- the dict at a, that may be changed -/
def DO (K : Frag) (H : Hp) (a : Addr) (l : List (PD × PD)) : Prop := (∃ ks, ks ≠ [] ∧ H a = some (dtO a ks) ∧ RDt K H l ks) ∨ ∃ kvs, H a = some (.dK kvs) ∧ RDi K H l kvs
/-- .. and as it is read, changeable or not -/
def DRd (K : Frag) (H : Hp) (a : Addr) (l : List (PD × PD)) : Prop := (∃ ks, ks ≠ [] ∧ Rd H a (dtO a ks) ∧ RDt K H l ks) ∨ ∃ kvs, Rd H a (.dK kvs) ∧ RDi K H l kvs
theorem DO.rd {a : Addr} {l : List (PD × PD)} (h : DO K H a l) : DRd K H a l := by
  rcases h with ⟨ks, nn, h, r⟩ | ⟨ks, h, r⟩
  · exact .inl ⟨ks, nn, .inl h, r⟩
  · exact .inr ⟨ks, .inl h, r⟩
theorem DO.mut {a : Addr} {l : List (PD × PD)} (h : DO K H a l) : ∃ o, H a = some o ∧ stable o = false := by
  rcases h with ⟨ks, _, h, _⟩ | ⟨ks, h, _⟩ <;> exact ⟨_, h, rfl⟩
theorem DO.mono {a : Addr} {l : List (PD × PD)} (k : Keeps H H') (h : DO K H a l) (e : ∀ o, H a = some o → H' a = some o) : DO K H' a l := by
  rcases h with ⟨ks, nn, h, r⟩ | ⟨ks, h, r⟩
  · exact .inl ⟨ks, nn, e _ h, r.mono k⟩
  · exact .inr ⟨ks, e _ h, r.mono k⟩
theorem RD.dict {l : List (PD × PD)} {v : V} (h : RD K H (.dict l) v) : ∃ a, v = .ref a ∧ DRd K H a l := by
  cases h with
  | dT nn h r => exact ⟨_, rfl, .inl ⟨_, nn, .inr ⟨_, h⟩, r⟩⟩
  | dI h r => exact ⟨_, rfl, .inr ⟨_, .inr ⟨_, h⟩, r⟩⟩
/-- .. or the list that is being made -/
def RT (K : Frag) (H : Hp) (d : PD) (v : V) : Prop := RD K H d v ∨ (∃ a xs ds, d = .list ds ∧ v = .ref a ∧ H a = some (.lst xs) ∧ RDs K H ds xs) ∨ ∃ a l, d = .dict l ∧ v = .ref a ∧ DO K H a l
theorem RT.dp {d : PD} {v : V} (h : RT K H d v) (c : d.canLay0 = true) : Dp K H v d := by
  rcases h with h | ⟨a, xs, ds, rfl, rfl, h, r⟩ | ⟨a, l, rfl, rfl, _⟩
  · exact h.dp c
  · exact .lst (.inl (.inl h)) (r.dp (by rw [PyData.canLay0] at c; exact c))
  · rw [PyData.canLay0] at c; cases c
theorem RT.dict {l : List (PD × PD)} {v : V} (h : RT K H (.dict l) v) : ∃ a, v = .ref a ∧ DRd K H a l := by
  rcases h with h | ⟨a, xs, ds', e, rfl, h, r⟩ | ⟨a, l', e, rfl, h⟩
  · exact h.dict
  · cases e
  · cases e
    exact ⟨a, rfl, h.rd⟩
/-- a list as it is read -/
theorem RT.list {ds : List PD} {v : V} (h : RT K H (.list ds) v) : ∃ a xs, v = .ref a ∧ SqL K H a xs ∧ RDs K H ds xs := by
  rcases h with h | ⟨a, xs, ds', e, rfl, h, r⟩ | ⟨a, l', e, _⟩
  · cases h with
    | lst h t => exact ⟨_, _, rfl, .inl (.inr ⟨_, h⟩), t⟩
  · cases e
    exact ⟨a, xs, rfl, .inl (.inl h), r⟩
  · cases e
theorem RT.tuple {ds : List PD} {v : V} (h : RT K H (.tuple ds) v) : ∃ a xs, v = .ref a ∧ SqT K H a xs ∧ RDs K H ds xs := by
  rcases h with h | ⟨a, xs, ds', e, rfl, h, r⟩ | ⟨a, l', e, _⟩
  · cases h with
    | tup h t => exact ⟨_, _, rfl, h, t⟩
  · cases e
  · cases e
theorem RT.int {i : Int} {v : V} (h : RT K H (.int i) v) : v = .int i := by
  rcases h with h | ⟨a, xs, ds', e, rfl, h, r⟩ | ⟨a, l', e, _⟩
  · cases h; rfl
  · cases e
  · cases e
theorem RT.str {i : Str} {v : V} (h : RT K H (.str i) v) : v = .str i := by
  rcases h with h | ⟨a, xs, ds', e, rfl, h, r⟩ | ⟨a, l', e, _⟩
  · cases h; rfl
  · cases e
  · cases e
theorem RT.bool {i : Bool} {v : V} (h : RT K H (.bool i) v) : v = .bl i := by
  rcases h with h | ⟨a, xs, ds', e, rfl, h, r⟩ | ⟨a, l', e, _⟩
  · cases h; rfl
  · cases e
  · cases e
theorem RD.bool_eq {i : Bool} {v : V} (h : RD K H (.bool i) v) : v = .bl i := by cases h; rfl
theorem RD.int_eq {i : Int} {v : V} (h : RD K H (.int i) v) : v = .int i := by cases h; rfl
theorem RDs.bools : ∀ {ds : List PD} {xs : List V} {bs : List Bool}, RDs K H ds xs → boolsD ds = some bs → xs = bs.map V.bl
  | _, _, _, .nil, e => by simp [boolsD] at e; subst e; rfl
  | _, _, bs, .cons (d := d) h t, e => by
    cases d with
    | bool b =>
      simp only [boolsD, Option.map_eq_some_iff] at e
      obtain ⟨cs, e1, rfl⟩ := e
      cases h
      rw [RDs.bools t e1]
      rfl
    | _ => simp [boolsD] at e
theorem RDs.ints : ∀ {ds : List PD} {xs : List V} {ns : List Int}, RDs K H ds xs → intsD ds = some ns → xs = ns.map V.int
  | _, _, _, .nil, e => by simp [intsD] at e; subst e; rfl
  | _, _, bs, .cons (d := d) h t, e => by
    cases d with
    | int b =>
      simp only [intsD, Option.map_eq_some_iff] at e
      obtain ⟨cs, e1, rfl⟩ := e
      cases h
      rw [RDs.ints t e1]
      rfl
    | _ => simp [intsD] at e
end

/-! ### objects of slots -/
/-- the entries of a dict whose values are lists, each with its own; the lists' addresses -/
inductive RLt (K : Frag) (H : Hp) : List (PD × List PD) → List KE3 → List Addr → Prop
  | nil : RLt K H [] [] []
  | cons {k : PD} {ds : List PD} {n : NestedKey} {b p : Addr} {xs : List V} {l : List (PD × List PD)} {ks : List KE3} {ps : List Addr} : keyD k = some n → isTup k = true → RD K H k (.ref b) → H p = some (.lst xs) → RDs K H ds xs → RLt K H l ks ps → RLt K H ((k, ds) :: l) ((n, b, .ref p) :: ks) (p :: ps)
theorem RLt.mono {K : Frag} {H H' : Hp} (k : Keeps H H') : ∀ {l : List (PD × List PD)} {ks : List KE3} {ps : List Addr}, RLt K H l ks ps → (∀ b ∈ ps, ∀ o, H b = some o → H' b = some o) → RLt K H' l ks ps
  | _, _, _, .nil, _ => .nil
  | _, _, _, .cons h1 h2 h3 h4 h5 t, e => .cons h1 h2 (h3.mono k) (e _ (by simp) _ h4) (h5.mono k) (t.mono k fun b hb => e b (by simp [hb]))
theorem RLt.at {K : Frag} {H : Hp} : ∀ {l : List (PD × List PD)} {ks : List KE3} {ps : List Addr}, RLt K H l ks ps → ∀ b ∈ ps, ∃ xs, H b = some (.lst xs)
  | _, _, _, .cons _ _ _ h4 _ t, b, hb => by
    rcases List.mem_cons.mp hb with e | hb
    · rw [e]; exact ⟨_, h4⟩
    · exact t.at b hb
/-- a dict of lists that is empty yet may become one of either kind -/
def dlO (a : Addr) : List KE3 → HO
  | [] => .dK []
  | x :: r => dtO a (x :: r)
theorem dlO_mut (a : Addr) (ks : List KE3) : stable (dlO a ks) = false := by cases ks <;> rfl
def RO (K : Frag) (H : Hp) (a : Addr) : OB → List Addr → Prop
  | .lst l, L => L = [a] ∧ ∃ xs, H a = some (.lst xs) ∧ RDs K H l xs
  | .dct l, L => L = [a] ∧ DO K H a l
  | .dctL l, L => ∃ ks ps, L = a :: ps ∧ (a :: ps).Nodup ∧ H a = some (dlO a ks) ∧ RLt K H l ks ps
theorem RO.mut {K : Frag} {H : Hp} {a b : Addr} {x : OB} {L : List Addr} (h : RO K H a x L) (hb : b ∈ L) : ∃ o, H b = some o ∧ stable o = false := by
  cases x with
  | lst l =>
    obtain ⟨rfl, xs, e, _⟩ := h
    have : b = a := by simpa using hb
    subst this
    exact ⟨_, e, rfl⟩
  | dct l =>
    obtain ⟨rfl, h⟩ := h
    have : b = a := by simpa using hb
    subst this
    exact h.mut
  | dctL l =>
    obtain ⟨ks, ps, rfl, _, h, r⟩ := h
    rcases List.mem_cons.mp hb with e | hb
    · rw [e]; exact ⟨_, h, dlO_mut a ks⟩
    · obtain ⟨xs, e⟩ := r.at b hb
      exact ⟨_, e, rfl⟩
theorem RO.mono {K : Frag} {H H' : Hp} {a : Addr} {x : OB} {L : List Addr} (k : Keeps H H') (h : RO K H a x L) (e : ∀ b ∈ L, ∀ o, H b = some o → H' b = some o) : RO K H' a x L := by
  cases x with
  | lst l =>
    obtain ⟨rfl, xs, e1, r⟩ := h
    exact ⟨rfl, xs, e a (by simp) _ e1, r.mono k⟩
  | dct l =>
    obtain ⟨rfl, h⟩ := h
    exact ⟨rfl, h.mono k fun o => e a (by simp) o⟩
  | dctL l =>
    obtain ⟨ks, ps, rfl, nd, h, r⟩ := h
    exact ⟨ks, ps, rfl, nd, e a (by simp) _ h, r.mono k fun b hb => e b (by simp [hb])⟩
theorem RO.self {K : Frag} {H : Hp} {a : Addr} {x : OB} {L : List Addr} (h : RO K H a x L) : a ∈ L := by
  cases x with
  | lst l =>
    obtain ⟨rfl, _⟩ := h
    simp
  | dct l =>
    obtain ⟨rfl, _⟩ := h
    simp
  | dctL l =>
    obtain ⟨ks, ps, rfl, _⟩ := h
    simp
/-- the object, read as data -/
theorem RO.rt {K : Frag} {H : Hp} {a : Addr} {x : OB} {L : List Addr} {d : PD} (h : RO K H a x L) (e : x.rd = some d) : RT K H d (.ref a) := by
  cases x with
  | lst l =>
    cases e
    obtain ⟨rfl, xs, e, r⟩ := h
    exact .inr (.inl ⟨a, xs, l, rfl, rfl, e, r⟩)
  | dct l =>
    cases e
    obtain ⟨rfl, h⟩ := h
    exact .inr (.inr ⟨a, l, rfl, rfl, h⟩)
  | dctL l => cases e

structure RepW (K : Frag) (σ0 σ : St) (ρ : Rho) (H : Hp) (W : Nat → List Addr) : Prop where
  len : σ.length = ρ.length
  dat : ∀ (i : Nat) (x : PD), ρ[i]? = some (SV.d x) → ∃ v, σ[i]? = some (some v) ∧ RD K H x v
  obj : ∀ (i : Nat) (x : OB), objAt ρ i = some x → ∃ a, σ[i]? = some (some (.ref a)) ∧ RO K H a x (W i)
  bor : ∀ (i : Nat) (x : OB), ρ[i]? = some (SV.b x) → σ[i]? = σ0[i]?
  sep : ∀ (i j : Nat) (b : Addr), i ≠ j → (objAt ρ i).isSome = true → (objAt ρ j).isSome = true → b ∈ W i → b ∈ W j → False
def SOf (ρ : Rho) (W : Nat → List Addr) : Addr → Prop := fun b => ∃ i, (objAt ρ i).isSome = true ∧ b ∈ W i
/-- the slots σ over the heap H hold what ρ says; S: the addresses that they own -/
def Rep (K : Frag) (σ0 σ : St) (ρ : Rho) (H : Hp) (S : Addr → Prop) : Prop := ∃ W, RepW K σ0 σ ρ H W ∧ ∀ b, S b ↔ SOf ρ W b
structure Step (S : Addr → Prop) (H : Hp) (S' : Addr → Prop) (H' : Hp) : Prop where
  keep : ∀ b o, H b = some o → ¬ S b → H' b = some o
  own : ∀ b, S' b → S b ∨ H b = none
theorem Step.refl (S : Addr → Prop) (H : Hp) : Step S H S H := ⟨fun _ _ h _ => h, fun _ h => .inl h⟩
theorem Step.trans {S S1 S2 : Addr → Prop} {H H1 H2 : Hp} (a : Step S H S1 H1) (b : Step S1 H1 S2 H2) : Step S H S2 H2 := by
  refine ⟨fun c o h n => b.keep c o (a.keep c o h n) fun z => ?_, fun c h => ?_⟩
  · rcases a.own c z with z | z
    · exact n z
    · rw [z] at h; cases h
  · rcases b.own c h with z | z
    · exact a.own c z
    · cases e : H c with
      | none => exact .inr rfl
      | some o =>
        by_cases n : S c
        · exact .inl n
        · rw [a.keep c o e n] at z; cases z
section
variable {K : Frag} {σ0 σ : St} {ρ : Rho} {H H' : Hp} {S S' : Addr → Prop}
theorem Rep.mut (r : Rep K σ0 σ ρ H S) {b : Addr} (h : S b) : ∃ o, H b = some o ∧ stable o = false := by
  obtain ⟨W, r, e⟩ := r
  obtain ⟨i, h1, h2⟩ := (e b).mp h
  obtain ⟨x, hx⟩ := Option.isSome_iff_exists.mp h1
  obtain ⟨a, _, ro⟩ := r.obj i x hx
  exact ro.mut h2
theorem Rep.keeps (r : Rep K σ0 σ ρ H S) (s : Step S H S' H') : Keeps H H' := fun b o h st => s.keep b o h fun z => by
  obtain ⟨o', e, n⟩ := r.mut z
  rw [h] at e
  cases e
  rw [st] at n
  cases n
theorem Rep.notin (r : Rep K σ0 σ ρ H S) {b : Addr} (h : H b = none) : ¬ S b := fun z => by
  obtain ⟨o, e, _⟩ := r.mut z
  rw [h] at e; cases e
/-- the heap has grown, or objects that no slot holds have changed -/
theorem Rep.grow (r : Rep K σ0 σ ρ H S) (k : Keeps H H') (ks : ∀ b o, S b → H b = some o → H' b = some o) : Rep K σ0 σ ρ H' S := by
  obtain ⟨W, r, e⟩ := r
  refine ⟨W, ⟨r.len, fun i x hx => ?_, fun i x hx => ?_, r.bor, r.sep⟩, e⟩
  · obtain ⟨v, h1, h2⟩ := r.dat i x hx
    exact ⟨v, h1, h2.mono k⟩
  · obtain ⟨a, h1, h2⟩ := r.obj i x hx
    exact ⟨a, h1, h2.mono k fun b hb o ho => ks b o ((e b).mpr ⟨i, by rw [hx]; rfl, hb⟩) ho⟩
theorem Rep.same (r : Rep K σ0 σ ρ H S) (k : Same H H') : Rep K σ0 σ ρ H' S := r.grow (Keeps.of_same k) fun b o _ h => k b o h
theorem Step.same (k : Same H H') : Step S H S H' := ⟨fun b o h _ => k b o h, fun _ h => .inl h⟩
theorem same_upd {p : Addr} {o : HO} (h : H p = none) : Same H (upd H p o) := fun b x e => by
  rw [upd_ne (ne_of_none e h)]
  exact e
end
end Er

set_option Elab.async false
set_option linter.all false
set_option maxRecDepth 100000
set_option maxHeartbeats 2000000
/-! D1: dicts by keys: what is read and written. -/
namespace Er
open PySem L2
variable [Wd]
theorem keyEq_of {k : PD} {n m : NestedKey} (h : keyD k = some n) : keyEq m k = decide (n = m) := by
  unfold keyEq
  rw [h]
  simp
def nv (ks : List KE3) : List (NestedKey × V) := ks.map fun x => (x.1, x.2.2)
section
variable {K : Frag} {H : Hp}
def RelD (K : Frag) (H : Hp) : Option PD → Option V → Prop
  | none, none => True
  | some d, some v => RD K H d v
  | _, _ => False
theorem RDt.val : ∀ {l : List (PD × PD)} {ks : List KE3}, RDt K H l ks → ∀ n, RelD K H (getK l n) (valV (nv ks) n)
  | _, _, .nil, n => True.intro
  | _, _, .cons (n := m) (l := l) (ks := ks) h1 h2 h3 h4 t, n => by
    have ih := RDt.val t n
    unfold getK at ih ⊢
    rw [List.find?_cons, keyEq_of h1]
    by_cases e : m = n
    · rw [show (nv ((m, _, _) :: ks)) = (m, _) :: nv ks from rfl, valV_pos e, decide_eq_true e]
      exact h4
    · rw [show (nv ((m, _, _) :: ks)) = (m, _) :: nv ks from rfl, valV_neg (by exact e), decide_eq_false e]
      exact ih
theorem RDi.val : ∀ {l : List (PD × PD)} {ks : List (Key × V)}, RDi K H l ks → ∀ i : Int, RelD K H (getK l (.num i)) (valV ks (.inl i))
  | _, _, .nil, n => True.intro
  | _, _, .cons (i := j) (l := l) (kvs := ks) h4 t, i => by
    have ih := RDi.val t i
    unfold getK at ih ⊢
    rw [List.find?_cons, keyEq_of (k := .int j) (n := .num j) rfl]
    by_cases e : j = i
    · subst e
      rw [valV_pos rfl, decide_eq_true rfl]
      exact h4
    · rw [valV_neg (by simpa using e), decide_eq_false (by simpa using e)]
      exact ih
theorem RDt.length : ∀ {l : List (PD × PD)} {ks : List KE3}, RDt K H l ks → l.length = ks.length
  | _, _, .nil => rfl
  | _, _, .cons _ _ _ _ t => by simp [t.length]
theorem RDi.length : ∀ {l : List (PD × PD)} {ks : List (Key × V)}, RDi K H l ks → l.length = ks.length
  | _, _, .nil => rfl
  | _, _, .cons _ t => by simp [t.length]
theorem RDt.any : ∀ {l : List (PD × PD)} {ks : List KE3}, RDt K H l ks → ∀ n, (l.any fun p => keyEq n p.1) = ks.any fun x => decide (x.1 = n)
  | _, _, .nil, n => rfl
  | _, _, .cons h1 _ _ _ t, n => by rw [List.any_cons, List.any_cons, keyEq_of h1, t.any n]
theorem RDi.any : ∀ {l : List (PD × PD)} {ks : List (Key × V)}, RDi K H l ks → ∀ i : Int, (l.any fun p => keyEq (.num i) p.1) = ks.any fun x => decide (x.1 = .inl i)
  | _, _, .nil, n => rfl
  | _, _, .cons (i := j) _ t, i => by
    rw [List.any_cons, List.any_cons, keyEq_of (k := .int j) (n := .num j) rfl, t.any i]
    congr 1
    simp
theorem RDt.app : ∀ {l m : List (PD × PD)} {ks us : List KE3}, RDt K H l ks → RDt K H m us → RDt K H (l ++ m) (ks ++ us)
  | _, _, _, _, .nil, s => s
  | _, _, _, _, .cons h1 h2 h3 h4 t, s => .cons h1 h2 h3 h4 (t.app s)
theorem RDi.app : ∀ {l m : List (PD × PD)} {ks us : List (Key × V)}, RDi K H l ks → RDi K H m us → RDi K H (l ++ m) (ks ++ us)
  | _, _, _, _, .nil, s => s
  | _, _, _, _, .cons h4 t, s => .cons h4 (t.app s)
def storeE (ks : List KE3) (n : NestedKey) (b : Addr) (v : V) : List KE3 := if (ks.any fun x => decide (x.1 = n)) = true then ks.map (fun x => if x.1 = n then (x.1, x.2.1, v) else x) else ks ++ [(n, b, v)]
theorem RDt.repl {n : NestedKey} {d : PD} {v : V} (hv : RD K H d v) : ∀ {l : List (PD × PD)} {ks : List KE3}, RDt K H l ks → RDt K H (l.map fun p => if keyEq n p.1 = true then (p.1, d) else p) (ks.map fun x => if x.1 = n then (x.1, x.2.1, v) else x)
  | _, _, .nil => .nil
  | _, _, .cons (n := m) h1 h2 h3 h4 t => by
    rw [List.map_cons, List.map_cons]
    by_cases e : m = n
    · simp only [keyEq_of h1, e, decide_true, if_true]
      exact .cons (e ▸ h1) h2 h3 hv (t.repl hv)
    · simp only [keyEq_of h1, decide_eq_false e, if_neg e, Bool.false_eq_true, if_false]
      exact .cons h1 h2 h3 h4 (t.repl hv)
theorem RDi.repl {i : Int} {d : PD} {v : V} (hv : RD K H d v) : ∀ {l : List (PD × PD)} {ks : List (Key × V)}, RDi K H l ks → RDi K H (l.map fun p => if keyEq (.num i) p.1 = true then (p.1, d) else p) (ks.map fun x => if x.1 = .inl i then (x.1, v) else x)
  | _, _, .nil => .nil
  | _, _, .cons (i := j) h4 t => by
    rw [List.map_cons, List.map_cons]
    by_cases e : j = i
    · subst e
      simp only [keyEq_of (k := .int j) (n := .num j) rfl, decide_true, if_true]
      exact .cons hv (t.repl hv)
    · have e2 : ¬ (NestedKey.num j = .num i) := fun z => e (by cases z; rfl)
      have e3 : ¬ ((.inl j : Key) = .inl i) := fun z => e (by cases z; rfl)
      simp only [keyEq_of (k := .int j) (n := .num j) rfl, decide_eq_false e2, if_neg e3, Bool.false_eq_true, if_false]
      exact .cons h4 (t.repl hv)
theorem RDt.put {l : List (PD × PD)} {ks : List KE3} {n : NestedKey} {k d : PD} {b : Addr} {v : V} (r : RDt K H l ks) (hk : keyD k = some n) (ht : isTup k = true) (rk : RD K H k (.ref b)) (rv : RD K H d v) : RDt K H (putKD l n k d) (storeE ks n b v) := by
  unfold putKD storeE
  rw [r.any n]
  split
  · exact r.repl rv
  · exact r.app (.cons hk ht rk rv .nil)
theorem RDi.put {l : List (PD × PD)} {ks : List (Key × V)} {i : Int} {d : PD} {v : V} (r : RDi K H l ks) (rv : RD K H d v) : RDi K H (putKD l (.num i) (.int i) d) (putK ks (.inl i) v) := by
  unfold putKD putK
  rw [r.any i]
  split
  · exact r.repl rv
  · exact r.app (.cons rv .nil)
theorem KRel.length {ks : List KE3} {xs : List (NestedKey × Addr × Value)} (r : KRel ks xs) : ks.length = xs.length := Paired.length r
theorem KRel.find : ∀ {ks : List KE3} {xs : List (NestedKey × Addr × Value)}, KRel ks xs → ∀ n, RelO (valV (nv ks) n) ((atKey xs n).map (·.2)) ∧ (ks.any fun x => decide (x.1 = n)) = (atKey xs n).isSome
  | _, _, .nil, n => ⟨True.intro, rfl⟩
  | _, _, .cons (a := p) (b := q) (l₁ := ks) (l₂ := xs) h t, n => by
    obtain ⟨i1, i2⟩ := KRel.find t n
    obtain ⟨e1, e2, e3⟩ := h
    by_cases e : p.1 = n
    · rw [show nv (p :: ks) = (p.1, p.2.2) :: nv ks from rfl, valV_pos e]
      have hq : q.1 = n := e1 ▸ e
      refine ⟨?_, ?_⟩
      · simp only [atKey, List.find?_cons, hq, decide_true, Option.map_some]
        exact e3
      · simp [atKey, List.find?_cons, hq, e]
    · have hq : ¬ q.1 = n := e1 ▸ e
      rw [show nv (p :: ks) = (p.1, p.2.2) :: nv ks from rfl, valV_neg (by exact e)]
      unfold atKey at i1 i2 ⊢
      rw [List.find?_cons, decide_eq_false hq, List.any_cons, decide_eq_false e]
      exact ⟨i1, by simpa using i2⟩
theorem KRel.replE {n : NestedKey} {v : V} {u : Value} (ry : RelV v u) : ∀ {ks : List KE3} {xs : List (NestedKey × Addr × Value)}, KRel ks xs → KRel (ks.map fun x => if x.1 = n then (x.1, x.2.1, v) else x) (xs.map (putAt n u))
  | _, _, .nil => .nil
  | _, _, .cons ⟨e1, e2, e3⟩ t => by
    rw [List.map_cons, List.map_cons]
    refine .cons ?_ (KRel.replE ry t)
    unfold putAt
    rw [e1]
    split
    · exact ⟨rfl, e2, ry⟩
    · exact ⟨e1, e2, e3⟩
theorem KRel.app : ∀ {ks us : List KE3} {xs ys : List (NestedKey × Addr × Value)}, KRel ks xs → KRel us ys → KRel (ks ++ us) (xs ++ ys)
  | _, _, _, _, .nil, s => s
  | _, _, _, _, .cons h t, s => .cons h (KRel.app t s)
theorem KRel.store {ks : List KE3} {xs : List (NestedKey × Addr × Value)} {n : NestedKey} {b : Addr} {v : V} {u : Value} (r : KRel ks xs) (ry : RelV v u) : KRel (storeE ks n b v) (storedH xs n b u) := by
  unfold storeE storedH
  rw [(r.find n).2]
  split
  · exact r.replE ry
  · exact r.app (.cons ⟨rfl, rfl, ry⟩ .nil)
theorem length_storeE (ks : List KE3) (n : NestedKey) (b : Addr) (v : V) : (storeE ks n b v).length ≤ ks.length + 1 := by
  unfold storeE
  split <;> simp
end
section
variable {X : Cx} {pins : List (Addr × Obj)} {σ : L2.St} {H : Hp} {s : Shared} {a : Addr}
mutual
/-- data that lies, as a key -/
theorem nest_of (I : Inv X pins σ H s) : ∀ {d : PD} {v : V}, RD X.K H d v → ∀ {n : NestedKey} {u : Value}, keyN d = some n → RelV v u → NestedIs s.heap n u
  | _, _, .none, n, u, e, r => by
    rw [keyN] at e
    cases e
    cases r
    exact .none
  | _, _, .bool b, n, u, e, r => by
    rw [keyN] at e
    cases e
    cases r
    exact .bool rfl
  | _, _, .int i, n, u, e, r => by
    rw [keyN] at e
    cases e
    obtain ⟨t, rfl⟩ := r
    exact .int i t
  | _, _, .str i, n, u, e, r => by
    rw [keyN] at e
    cases e
    obtain ⟨t, rfl⟩ := r
    exact .text i t
  | _, _, .tup h t, n, u, e, r => by
    rw [keyN] at e
    obtain ⟨ns, e1, rfl⟩ := Option.map_eq_some_iff.mp e
    cases r
    obtain ⟨its, rv, ⟨⟨cls, dd, data, sl⟩, ho, hc, m, hd⟩, hs⟩ := I.tuple h
    simp only at hc hd
    subst hc hd
    exact .tup ho rfl rfl (nests_of I t e1 rv)
  | _, _, .lst _ _, n, u, e, r => by rw [keyN] at e <;> first | cases e | simp
  | _, _, .dT _ _ _, n, u, e, r => by rw [keyN] at e <;> first | cases e | simp
  | _, _, .dI _ _, n, u, e, r => by rw [keyN] at e <;> first | cases e | simp
theorem nests_of (I : Inv X pins σ H s) : ∀ {ds : List PD} {xs : List V}, RDs X.K H ds xs → ∀ {ns : List NestedKey} {us : List Value}, keyNs ds = some ns → Vals xs us → NestedAll s.heap ns us
  | _, _, .nil, ns, us, e, r => by
    rw [keyNs] at e
    cases e
    cases r
    exact .nil
  | _, _, .cons h t, ns, us, e, r => by
    rw [keyNs] at e
    obtain ⟨m, e1, e2⟩ := Option.bind_eq_some_iff.mp e
    obtain ⟨ms, e3, rfl⟩ := Option.map_eq_some_iff.mp e2
    cases r with
    | cons r1 r2 => exact .cons (nest_of I h e1 r1) (nests_of I t e3 r2)
end
theorem key_is (I : Inv X pins σ H s) {k : PD} {n : NestedKey} {b : Addr} (hk : keyD k = some n) (ht : isTup k = true) (r : RD X.K H k (.ref b)) : (nestedKind X.prog X.w).is s.heap n b := by
  cases k with
  | tuple l =>
    unfold keyD at hk
    obtain ⟨m, e1, e2⟩ := Option.bind_eq_some_iff.mp hk
    split at e2
    · rename_i hd
      cases e2
      exact ⟨nest_of I r e1 rfl, hd⟩
    · cases e2
  | _ => cases ht
theorem keys_are (I : Inv X pins σ H s) : ∀ {l : List (PD × PD)} {ks : List KE3} {xs : List (NestedKey × Addr × Value)}, RDt X.K H l ks → KRel ks xs → ∀ x ∈ xs, (nestedKind X.prog X.w).is s.heap x.1 x.2.1
  | _, _, _, .nil, .nil, x, hx => nomatch hx
  | _, _, _, .cons h1 h2 h3 h4 r, .cons h t, x, hx => by
    rcases List.mem_cons.mp hx with e | hx
    · subst e
      obtain ⟨e1, e2, _⟩ := h
      rw [← e1, ← e2]
      exact key_is I h1 h2 h3
    · exact keys_are I r t x hx
theorem dto_rd (I : Inv X pins σ H s) (wd : X.w = Wd.w) {l : List (PD × PD)} {ks : List KE3} (h : Rd H a (dtO a ks)) (r : RDt X.K H l ks) :
    ks.length ≤ sizeLine ∧ (a == sysModules) = false ∧ ∃ xs, KRel ks xs ∧ s.heap.DictOfH (nestedKind X.prog X.w) a xs := by
  obtain ⟨⟨z, hs, xs, kr, o, es, ep, ho, hx, hd, he, hn⟩, _, _⟩ := h.ok I.hok
  refine ⟨z, hs, xs, kr, o, es, ep, ho, hx, hd, ?_, ?_, hn⟩
  · rw [he]
    refine List.map_congr_left fun x _ => ?_
    unfold entW entryOfKey
    rw [← wd]
    rfl
  · exact keys_are I r kr
theorem drd_t (I : Inv X pins σ H s) (wd : X.w = Wd.w) {l : List (PD × PD)} (h : DRd X.K H a l) (ok : okKey true l = true) :
    (a == sysModules) = false ∧ ∃ ks xs, ks.length ≤ sizeLine ∧ RDt X.K H l ks ∧ KRel ks xs ∧ s.heap.DictOfH (nestedKind X.prog X.w) a xs := by
  rcases h with ⟨ks, nn, h, r⟩ | ⟨kvs, h, r⟩
  · obtain ⟨z, hs, xs, kr, dd⟩ := dto_rd I wd h r
    exact ⟨hs, ks, xs, z, r, kr, dd⟩
  · cases r with
    | nil =>
      obtain ⟨z, hs, vs, rel, o, es, ep, ho, hx, hd, hk, hp, hn⟩ := dk_rd I.hok h
      cases rel
      refine ⟨hs, [], [], z, .nil, .nil, o, es, ep, ho, hx, hd, ?_, fun x hx => (nomatch hx), List.nodup_nil⟩
      have e2 : es.toList = [] := by
        generalize es.toList = q at hp
        cases hp
        rfl
      exact e2
    | cons h t =>
      unfold okKey at ok
      simp [isTup] at ok
theorem drd_i (I : Inv X pins σ H s) (wd : X.w = Wd.w) {l : List (PD × PD)} (h : DRd X.K H a l) (ok : okKey false l = true) :
    (a == sysModules) = false ∧ ∃ kvs vs, kvs.length ≤ sizeLine ∧ RDi X.K H l kvs ∧ KV kvs vs ∧ s.heap.DictOf (mixKind X.prog X.w) a vs := by
  rcases h with ⟨ks, nn, h, r⟩ | ⟨kvs, h, r⟩
  · cases r with
    | nil => exact absurd rfl nn
    | cons h1 h2 h3 h4 t =>
      unfold okKey at ok
      rw [List.all_cons] at ok
      simp [h2] at ok
  · obtain ⟨z, hs, vs, rel, dd⟩ := dk_rd I.hok h
    exact ⟨hs, kvs, vs, z, r, rel, dd⟩
end
end Er

set_option Elab.async false
set_option linter.all false
set_option maxRecDepth 100000
set_option maxHeartbeats 2000000
/-! D2: dicts: the operations. -/
namespace Er
open PySem L2
variable [Wd]
section
variable {X : Cx} {pins : List (Addr × Obj)} {σ : L2.St} {H : Hp} {s : Shared} {a : Addr} {A : Around} {E : Value → Shared → Prop}
/-- what is known where a dict is asked for a key -/
def DKT (X : Cx) (H : Hp) (s : Shared) (a : Addr) (l : List (PD × PD)) (k : PD) (y : V) (u : Value) : Prop :=
  ∃ b n ks xs, y = .ref b ∧ u = .ref b ∧ keyD k = some n ∧ isTup k = true ∧ (nestedKind X.prog X.w).is s.heap n b ∧ ks.length ≤ sizeLine ∧ RDt X.K H l ks ∧ KRel ks xs ∧ s.heap.DictOfH (nestedKind X.prog X.w) a xs
def DKI (X : Cx) (H : Hp) (s : Shared) (a : Addr) (l : List (PD × PD)) (k : PD) (y : V) (u : Value) : Prop :=
  ∃ i t kvs vs, k = .int i ∧ y = .int i ∧ u = .int i t ∧ kvs.length ≤ sizeLine ∧ RDi X.K H l kvs ∧ KV kvs vs ∧ s.heap.DictOf (mixKind X.prog X.w) a vs
theorem D_key (I : Inv X pins σ H s) (wd : X.w = Wd.w) {l : List (PD × PD)} {k : PD} {n : NestedKey} {y : V} {u : Value} (h : DRd X.K H a l) (rk : RD X.K H k y) (ry : RelV y u) (hk : keyD k = some n) (ok : okKey (isTup k) l = true) :
    (a == sysModules) = false ∧ s.TypeIs (.ref a) "dict" ∧ (DKT X H s a l k y u ∨ DKI X H s a l k y u) := by
  cases k with
  | tuple ds =>
    obtain ⟨hs, ks, xs, z, r, kr, dd⟩ := drd_t I wd h ok
    cases rk with
    | tup h1 h2 =>
      cases ry
      exact ⟨hs, dd.typeIs, .inl ⟨_, n, ks, xs, rfl, rfl, hk, rfl, key_is I hk rfl (.tup h1 h2), z, r, kr, dd⟩⟩
  | int i =>
    obtain ⟨hs, kvs, vs, z, r, kr, dd⟩ := drd_i I wd h ok
    cases rk
    obtain ⟨t, rfl⟩ := ry
    exact ⟨hs, dd.typeIs, .inr ⟨i, t, kvs, vs, rfl, rfl, rfl, z, r, kr, dd⟩⟩
  | _ => cases hk
theorem dGet_some {α : Type} {l : List (PD × α)} {k : PD} {o : Option α} (e : dGet l k = some o) : ∃ n, keyD k = some n ∧ okKey (isTup k) l = true ∧ o = getK l n := by
  unfold dGet at e
  split at e
  · rename_i n hn
    split at e
    · rename_i ok
      cases e
      exact ⟨n, hn, ok, rfl⟩
    · cases e
  · cases e
theorem dPut_some {α : Type} {l l' : List (PD × α)} {k : PD} {x : α} (e : dPut l k x = some l') : ∃ n, keyD k = some n ∧ okKey (isTup k) l = true ∧ l.length < lim ∧ l' = putKD l n k x := by
  unfold dPut at e
  split at e
  · rename_i n hn
    split at e
    · rename_i ok
      cases e
      exact ⟨n, hn, ok.1, ok.2, rfl⟩
    · cases e
  · cases e
theorem relD_cases {K : Frag} {o : Option PD} {x : Option V} {y : Option Value} (h : RelD K H o x) (r : RelO x y) : (o = none ∧ x = none ∧ y = none) ∨ ∃ d v u, o = some d ∧ x = some v ∧ y = some u ∧ RD K H d v ∧ RelV v u := by
  cases o with
  | none =>
    cases x with
    | none =>
      cases y with
      | none => exact .inl ⟨rfl, rfl, rfl⟩
      | some u => exact r.elim
    | some v => exact h.elim
  | some d =>
    cases x with
    | none => exact h.elim
    | some v =>
      cases y with
      | none => exact r.elim
      | some u => exact .inr ⟨d, v, u, rfl, rfl, rfl, h, r⟩
theorem relD_isSome {K : Frag} {o : Option PD} {x : Option V} {y : Option Value} (h : RelD K H o x) (r : RelO x y) : y.isSome = o.isSome := by
  rcases relD_cases h r with ⟨rfl, _, rfl⟩ | ⟨_, _, _, rfl, _, rfl, _⟩ <;> rfl
/-- y in d -/
theorem D_in {Q : Value → Shared → Prop} (hu : A.units + 20 < cLine) (I : Inv X pins σ H s) (wd : X.w = Wd.w) {l : List (PD × PD)} {k : PD} {o : Option PD} {y : V} {u : Value} (h : DRd X.K H a l) (rk : RD X.K H k y) (ry : RelV y u) (e : dGet l k = some o)
    (q : ∀ s', Inv X pins σ H s' → Q (.bool o.isSome) s') : wpAny (model X.prog X.w) A (compareOp .In u (.ref a)) Q E s := by
  obtain ⟨n, hk, ok, rfl⟩ := dGet_some e
  obtain ⟨hs, ht, ⟨b, n', ks, xs, rfl, rfl, hk', _, hb, z, r, kr, dd⟩ | ⟨i, t, kvs, vs, rfl, rfl, rfl, z, r, kr, dd⟩⟩ := D_key I wd h rk ry hk ok
  · rw [hk] at hk'
    cases hk'
    have hr : (nestedKind X.prog X.w).room A.in1 := show A.units + 1 + 8 < cLine by omega
    refine wpAny_in_heap hr hb hs dd ?_
    have := relD_isSome (r.val n) (kr.find n).1
    rw [Option.isSome_map] at this
    rw [this]
    exact q _ (I.tok _)
  · cases hk
    refine wpAny_in_of (kV_is (k := .inl i) ⟨t, rfl⟩) hs dd.mapOf ?_
    rw [relD_isSome (r.val i) (kr.val (.inl i))]
    exact q _ (I.tok _)
theorem D_notIn {Q : Value → Shared → Prop} (hu : A.units + 20 < cLine) (I : Inv X pins σ H s) (wd : X.w = Wd.w) {l : List (PD × PD)} {k : PD} {o : Option PD} {y : V} {u : Value} (h : DRd X.K H a l) (rk : RD X.K H k y) (ry : RelV y u) (e : dGet l k = some o)
    (q : ∀ s', Inv X pins σ H s' → Q (.bool (!o.isSome)) s') : wpAny (model X.prog X.w) A (compareOp .NotIn u (.ref a)) Q E s := by
  obtain ⟨n, hk, ok, rfl⟩ := dGet_some e
  obtain ⟨hs, ht, ⟨b, n', ks, xs, rfl, rfl, hk', _, hb, z, r, kr, dd⟩ | ⟨i, t, kvs, vs, rfl, rfl, rfl, z, r, kr, dd⟩⟩ := D_key I wd h rk ry hk ok
  · rw [hk] at hk'
    cases hk'
    have hr : (nestedKind X.prog X.w).room A.in1 := show A.units + 1 + 8 < cLine by omega
    show wpAny _ _ (do return .bool (!(← contains (.ref a) (.ref b)))) Q E s
    refine wpAny_bind (wpAny_contains_heap hr hb hs dd (wpAny_pure ?_))
    have := relD_isSome (r.val n) (kr.find n).1
    rw [Option.isSome_map] at this
    rw [this]
    exact q _ (I.tok _)
  · cases hk
    refine wpAny_notIn_of (kV_is (k := .inl i) ⟨t, rfl⟩) hs dd.mapOf ?_
    rw [relD_isSome (r.val i) (kr.val (.inl i))]
    exact q _ (I.tok _)
/-- d[y] -/
theorem D_getItem {Q : Value → Shared → Prop} (hu : A.units + 20 < cLine) (I : Inv X pins σ H s) (wd : X.w = Wd.w) {l : List (PD × PD)} {k d : PD} {y : V} {u : Value} (h : DRd X.K H a l) (rk : RD X.K H k y) (ry : RelV y u) (e : dGet l k = some (some d))
    (q : ∀ v w' s', Inv X pins σ H s' → RD X.K H d v → RelV v w' → Q w' s') : wpAny (model X.prog X.w) A (getItem (.ref a) u) Q E s := by
  obtain ⟨n, hk, ok, hg⟩ := dGet_some e
  obtain ⟨hs, ht, ⟨b, n', ks, xs, rfl, rfl, hk', _, hb, z, r, kr, dd⟩ | ⟨i, t, kvs, vs, rfl, rfl, rfl, z, r, kr, dd⟩⟩ := D_key I wd h rk ry hk ok
  · rw [hk] at hk'
    cases hk'
    have hr : (nestedKind X.prog X.w).room A.in1 := show A.units + 1 + 8 < cLine by omega
    rcases relD_cases (r.val n) (kr.find n).1 with ⟨e1, _⟩ | ⟨d', v, w', e1, _, e2, rd, rv⟩
    · rw [← hg] at e1
      cases e1
    · rw [← hg] at e1
      cases e1
      obtain ⟨p, hp, rfl⟩ := Option.map_eq_some_iff.mp e2
      exact wpAny_getItem_heap hr hb dd hp (q v _ _ (I.tok _) rd rv)
  · cases hk
    rcases relD_cases (r.val i) (kr.val (.inl i)) with ⟨e1, _⟩ | ⟨d', v, w', e1, _, e2, rd, rv⟩
    · rw [← hg] at e1
      cases e1
    · rw [← hg] at e1
      cases e1
      exact wpAny_getItem_of (kV_is (k := .inl i) ⟨t, rfl⟩) dd.mapOf e2 (q v w' _ (I.tok _) rd rv)
theorem relD_getD {K : Frag} {o : Option PD} {x : Option V} {y : Option Value} (h : RelD K H o x) (r : RelO x y) {d0 : PD} {v0 : V} {u0 : Value} (h0 : RD K H d0 v0) (r0 : RelV v0 u0) : ∃ v, RD K H (o.getD d0) v ∧ RelV v (y.getD u0) := by
  rcases relD_cases h r with ⟨rfl, _, rfl⟩ | ⟨d, v, u, rfl, _, rfl, hd, hr⟩
  · exact ⟨v0, h0, r0⟩
  · exact ⟨v, hd, hr⟩
/-- d.get(y) -/
theorem D_get1 {Q : Value → Shared → Prop} (hu : A.units + 20 < cLine) (I : Inv X pins σ H s) (wd : X.w = Wd.w) {l : List (PD × PD)} {k : PD} {o : Option PD} {y : V} {u : Value} (h : DRd X.K H a l) (rk : RD X.K H k y) (ry : RelV y u) (e : dGet l k = some o)
    (q : ∀ v w' s', Inv X pins σ H s' → RD X.K H (o.getD .none) v → RelV v w' → Q w' s') : wpAny (model X.prog X.w) A (call (.builtin "dict.get") [.ref a, u]) Q E s := by
  obtain ⟨n, hk, ok, rfl⟩ := dGet_some e
  obtain ⟨hs, ht, ⟨b, n', ks, xs, rfl, rfl, hk', _, hb, z, r, kr, dd⟩ | ⟨i, t, kvs, vs, rfl, rfl, rfl, z, r, kr, dd⟩⟩ := D_key I wd h rk ry hk ok
  · rw [hk] at hk'
    cases hk'
    have hr : (nestedKind X.prog X.w).room A.in1 := show A.units + 1 + 8 < cLine by omega
    obtain ⟨v, h1, h2⟩ := relD_getD (r.val n) (kr.find n).1 (.none) (show RelV .non .none from rfl)
    exact call_meetsIn PySem.F.slot_dict_get ht PySem.F.entry_dict_get (PySem.F.args_dict_get_2 _ _) (meetsH_dict_get (nestedKind X.prog X.w) a b hs) ⟨hr, n, xs, hb, dd, q v _ _ (I.tok _) h1 h2⟩
  · cases hk
    obtain ⟨v, h1, h2⟩ := relD_getD (r.val i) (kr.val (.inl i)) (.none) (show RelV .non .none from rfl)
    exact call_meetsIn PySem.F.slot_dict_get dd.typeIs PySem.F.entry_dict_get (PySem.F.args_dict_get_2 _ _) (meets_dict_get (mixKind X.prog X.w) a (kV_is (k := .inl i) ⟨t, rfl⟩) hs) ⟨_, dd.mapOf, q v _ _ (I.tok _) h1 h2⟩
theorem D_get2 {Q : Value → Shared → Prop} (hu : A.units + 20 < cLine) (I : Inv X pins σ H s) (wd : X.w = Wd.w) {l : List (PD × PD)} {k d0 : PD} {o : Option PD} {y v0 : V} {u u0 : Value} (h : DRd X.K H a l) (rk : RD X.K H k y) (ry : RelV y u) (e : dGet l k = some o) (h0 : RD X.K H d0 v0) (r0 : RelV v0 u0)
    (q : ∀ v w' s', Inv X pins σ H s' → RD X.K H (o.getD d0) v → RelV v w' → Q w' s') : wpAny (model X.prog X.w) A (call (.builtin "dict.get") [.ref a, u, u0]) Q E s := by
  obtain ⟨n, hk, ok, rfl⟩ := dGet_some e
  obtain ⟨hs, ht, ⟨b, n', ks, xs, rfl, rfl, hk', _, hb, z, r, kr, dd⟩ | ⟨i, t, kvs, vs, rfl, rfl, rfl, z, r, kr, dd⟩⟩ := D_key I wd h rk ry hk ok
  · rw [hk] at hk'
    cases hk'
    have hr : (nestedKind X.prog X.w).room A.in1 := show A.units + 1 + 8 < cLine by omega
    obtain ⟨v, h1, h2⟩ := relD_getD (r.val n) (kr.find n).1 h0 r0
    exact call_meetsIn PySem.F.slot_dict_get ht PySem.F.entry_dict_get (PySem.F.args_dict_get_3 _ _ _) (meetsH_dict_get_default (nestedKind X.prog X.w) a b hs u0) ⟨hr, n, xs, hb, dd, q v _ _ (I.tok _) h1 h2⟩
  · cases hk
    obtain ⟨v, h1, h2⟩ := relD_getD (r.val i) (kr.val (.inl i)) h0 r0
    exact call_meetsIn PySem.F.slot_dict_get dd.typeIs PySem.F.entry_dict_get (PySem.F.args_dict_get_3 _ _ _) (meets_dict_get_default (mixKind X.prog X.w) a (kV_is (k := .inl i) ⟨t, rfl⟩) hs u0) ⟨_, dd.mapOf, q v _ _ (I.tok _) h1 h2⟩
theorem keeps_upd {o o' : HO} (h : H a = some o) (n : stable o = false) : Keeps H (upd H a o') := fun b u hb su => by
  rw [upd_ne (fun z => by
    rw [z, h] at hb
    cases hb
    rw [n] at su
    cases su)]
  exact hb
theorem dto_new {P : Program} {w : World} {H' : Hp} {h : Heap} {ks : List KE3} {xs : List (NestedKey × Addr × Value)} (wd : w = Wd.w) (z : ks.length ≤ sizeLine) (hs : (a == sysModules) = false) (kr : KRel ks xs) (dd : h.DictOfH (nestedKind P w) a xs) : ObjOk P w H' h a (dtO a ks) := by
  obtain ⟨o, es, ep, ho, hx, hd, he, _, hn⟩ := dd
  refine ⟨⟨z, hs, xs, kr, o, es, ep, ho, hx, hd, ?_, hn⟩, ⟨o, ho⟩, ?_⟩
  · rw [he]
    refine List.map_congr_left fun x _ => ?_
    unfold entW entryOfKey
    rw [← wd]
    rfl
  · rintro h1 h2 ⟨z, hs, xs, kr, o, es, ep, ho, r⟩ k
    exact ⟨z, hs, xs, kr, o, es, ep, k _ ho, r⟩
theorem storeE_ne (ks : List KE3) (n : NestedKey) (b : Addr) (v : V) : storeE ks n b v ≠ [] := by
  unfold storeE
  split
  · rename_i h
    intro z
    cases ks with
    | nil => simp at h
    | cons x r => cases z
  · simp
/-- d[y] = v -/
theorem D_setItem {Q : Unit → Shared → Prop} (hu : A.units + 20 < cLine) (I : Inv X pins σ H s) (wd : X.w = Wd.w) {l l' : List (PD × PD)} {k d : PD} {y v : V} {u w' : Value} (h : DO X.K H a l) (rk : RD X.K H k y) (ry : RelV y u) (rd : RD X.K H d v) (rv : RelV v w') (e : dPut l k d = some l')
    (q : ∀ o s', Inv X pins σ (upd H a o) s' → DO X.K (upd H a o) a l' → Q () s') : wpAny (model X.prog X.w) A (setItem (.ref a) u w') Q E s := by
  obtain ⟨n, hk, ok, hl, rfl⟩ := dPut_some e
  have mu : Mut (H a) := by
    rcases h with ⟨ks, _, h, _⟩ | ⟨ks, h, _⟩ <;> rw [h] <;> exact True.intro
  obtain ⟨o0, ho0, hst⟩ := h.mut
  obtain ⟨hs, ht, ⟨b, n', ks, xs, rfl, rfl, hk', htu, hb, z, r, kr, dd⟩ | ⟨i, t, kvs, vs, rfl, rfl, rfl, z, r, kr, dd⟩⟩ := D_key I wd h.rd rk ry hk ok
  · rw [hk] at hk'
    cases hk'
    have hr : (nestedKind X.prog X.w).room A.in1 := show A.units + 1 + 8 < cLine by omega
    refine wpAny_setItem_heap (hsz := by rw [← kr.length]; exact z) hr hb dd fun h' dd' hs' => ?_
    have hz : (storeE ks n b v).length ≤ sizeLine := by
      have := length_storeE ks n b v
      have h2 : ks.length < sizeLine := by rw [← r.length]; exact hl
      omega
    have he : ∃ q, h'.get? a = some q := let ⟨q, _, _, hq, _⟩ := dd'; ⟨q, hq⟩
    refine q (dtO a (storeE ks n b v)) _ (d_write I mu hs' he (dto_new wd hz hs (kr.store rv) dd')) (.inl ⟨_, storeE_ne _ _ _ _, upd_same, ?_⟩)
    have kp : Keeps H (upd H a (dtO a (storeE ks n b v))) := keeps_upd ho0 hst
    exact (r.mono kp).put hk htu (rk.mono kp) (rd.mono kp)
  · cases hk
    have hz : vs.length ≤ sizeLine := by rw [← kr.length]; exact z
    have hl2 : (putK kvs (.inl i) v).length ≤ sizeLine := by
      have := length_putK kvs (.inl i) v
      have h2 : kvs.length < sizeLine := by rw [← r.length]; exact hl
      omega
    refine wpAny_setItem_pairs (hsz := hz) (kV_is (k := .inl i) ⟨t, rfl⟩) dd fun h' dd' hs' => ?_
    have he : ∃ q, h'.get? a = some q := let ⟨q, _, _, hq, _⟩ := dd'; ⟨q, hq⟩
    refine q (.dK (putK kvs (.inl i) v)) _ (d_write I mu hs' he (dk_new hl2 hs (kr.put (.inl i) rv) dd')) (.inr ⟨_, upd_same, ?_⟩)
    have kp : Keeps H (upd H a (.dK (putK kvs (.inl i) v))) := keeps_upd ho0 hst
    exact (r.mono kp).put (rd.mono kp)
/-- a dict, however it is read: what its object is -/
theorem D_raw (I : Inv X pins σ H s) {l : List (PD × PD)} (h : DRd X.K H a l) : (a == sysModules) = false ∧ l.length ≤ sizeLine ∧ ∃ o es ep ys, s.heap.get? a = some o ∧ o.ExactDict ∧ o.data = .dict es ep ∧ es.size = l.length ∧ RDs X.K H (l.map (·.1)) ys ∧ Vals ys (es.toList.map (·.key)) ∧
    ∃ vs, RDs X.K H (l.map (·.2)) vs ∧ Vals vs (es.toList.map (·.val)) := by
  rcases h with ⟨ks, nn, h, r⟩ | ⟨kvs, h, r⟩
  · obtain ⟨⟨z, hs, xs, kr, o, es, ep, ho, hx, hd, he, hn⟩, z1, z2⟩ := h.ok I.hok
    clear z1 z2 nn
    refine ⟨hs, by rw [r.length]; exact z, o, es, ep, ks.map fun x => .ref x.2.1, ho, hx, hd, ?_, ?_, ?_, ks.map fun x => x.2.2, ?_, ?_⟩
    · have e := congrArg List.length he
      rw [List.length_map, Array.length_toList] at e
      rw [e, r.length, kr.length]
    · clear h z he hn hd hx ho kr
      induction ks generalizing l with
      | nil => cases r; exact .nil
      | cons x ks ih =>
        cases r with
        | cons h1 h2 h3 h4 t => exact .cons h3 (ih t)
    · rw [he, List.map_map]
      clear h z he hn hd hx ho r
      induction kr with
      | nil => exact .nil
      | cons h t ih => exact .cons (show Value.ref _ = Value.ref _ by rw [h.2.1]) ih
    · clear h z he hn hd hx ho kr
      induction ks generalizing l with
      | nil => cases r; exact .nil
      | cons x ks ih =>
        cases r with
        | cons h1 h2 h3 h4 t => exact .cons h4 (ih t)
    · rw [he, List.map_map]
      clear h z he hn hd hx ho r
      induction kr with
      | nil => exact .nil
      | cons h t ih => exact .cons h.2.2 ih
  · obtain ⟨z, hs, vs, rel, o, es, ep, ho, hx, hd, hk, hp, hn⟩ := dk_rd I.hok h
    refine ⟨hs, by rw [r.length]; exact z, o, es, ep, kvs.map fun x => kV x.1, ho, hx, hd, ?_, ?_, ?_, kvs.map fun x => x.2, ?_, ?_⟩
    · have e := hp.length
      rw [Array.length_toList] at e
      rw [e, r.length, rel.length]
    · clear h z hp hn hd hx ho rel hk
      induction kvs generalizing l with
      | nil => cases r; exact .nil
      | cons x ks ih =>
        cases r with
        | cons h4 t => exact .cons (.int _) (ih t)
    · clear h z hn hd hx ho r hk
      generalize es.toList = el at hp
      induction rel generalizing el with
      | nil => cases hp; exact .nil
      | cons h t ih =>
        cases hp with
        | cons h1 h2 hp =>
          refine .cons ?_ (ih _ hp)
          have := keyIs_rel h1
          rw [← h.1] at this
          exact this
    · clear h z hp hn hd hx ho rel hk
      induction kvs generalizing l with
      | nil => cases r; exact .nil
      | cons x ks ih =>
        cases r with
        | cons h4 t => exact .cons h4 (ih t)
    · clear h z hn hd hx ho r hk
      generalize es.toList = el at hp
      induction rel generalizing el with
      | nil => cases hp; exact .nil
      | cons h t ih =>
        cases hp with
        | cons h1 h2 hp =>
          refine .cons ?_ (ih _ hp)
          have := h.2
          rw [← h2] at this
          exact this
/-- len(d) -/
theorem D_len {Q : Value → Shared → Prop} (I : Inv X pins σ H s) (wd : X.w = Wd.w) {l : List (PD × PD)} (h : DRd X.K H a l) (q : ∀ t s', Inv X pins σ H s' → Q (.int l.length t) s') : wpAny (model X.prog X.w) A (call (.builtin "len") [.ref a]) Q E s := by
  have hf : ∀ n : Nat, n ≤ sizeLine → (n : Int) < 2 ^ 63 := fun n hn => by
    have := sizeLine_eq
    omega
  rcases h with ⟨ks, nn, h, r⟩ | ⟨kvs, h, r⟩
  · obtain ⟨z, hs, xs, kr, dd⟩ := dto_rd I wd h r
    refine PySem.call_len_dictH hs dd (hf _ (by rw [← kr.length]; exact z)) ?_
    rw [← kr.length, ← r.length]
    exact q _ _ (I.tok _)
  · rw [r.length] at q
    obtain ⟨z, hd, vs, rel, dd⟩ := dk_rd I.hok h
    refine call_len_dict hd dd (hf _ (by rw [← rel.length]; exact z)) ?_
    rw [← rel.length]
    exact q _ _ (I.tok _)
end
end Er

set_option Elab.async false
set_option linter.all false
set_option maxRecDepth 100000
/-! C3: readings by meaning; freezing; operators by values. -/
namespace Er
open PySem L2
variable [Wd]

theorem pe_conseq {X : Cx} {e : Expr} {t t' : TE} (h : PE X e t) (i : ∀ σ H Q, t' σ H Q → t σ H Q) : PE X e t' :=
  ⟨fun pins s σ H Q I q => h.run pins s σ H Q I (i σ H Q q)⟩
theorem pt_conseq {X : Cx} {e : Expr} {t t' : TT} (h : PT X e t) (i : ∀ σ H Q, t' σ H Q → t σ H Q) : PT X e t' :=
  ⟨fun pins s σ H Q I q => h.run pins s σ H Q I (i σ H Q q)⟩
theorem pa_conseq {X : Cx} {e : List Expr} {t t' : TA} (h : PA X e t) (i : ∀ σ H Q, t' σ H Q → t σ H Q) : PA X e t' :=
  ⟨fun pos pins s σ H Q I q => h.run pos pins s σ H Q I (i σ H Q q)⟩
theorem ps_conseq {X : Cx} {e : Stmt} {t t' : TS} (h : PS X e t) (i : ∀ D σ H, t' D σ H → t D σ H) : PS X e t' :=
  ⟨fun pins s σ H D I q => h.run pins s σ H D I (i D σ H q)⟩
theorem pss_conseq {X : Cx} {e : List Stmt} {t t' : TS} (h : PSs X e t) (i : ∀ D σ H, t' D σ H → t D σ H) : PSs X e t' :=
  ⟨fun pins s σ H D I q => h.run pins s σ H D I (i D σ H q)⟩
theorem pg_conseq {X : Cx} {e : Expr} {t t' : TG} (h : PG X e t) (i : ∀ v σ H Q, t' v σ H Q → t v σ H Q) : PG X e t' :=
  ⟨fun pins s σ H v u Q I r q => h.run pins s σ H v u Q I r (i v σ H Q q)⟩

section
variable (K : Frag) (σ0 : St) (E : Exc → Hp → Prop)
/-- behind an outcome: what is wanted where it ends well, and of what it raises -/
def After (σ : St) (S : Addr → Prop) (H : Hp) {α : Type} (r : R α) (Q : α → Rho → (Addr → Prop) → Hp → Prop) : Prop := match r with
  | .stuck => False
  | .ok x ρ => ∀ S' H', Rep K σ0 σ ρ H' S' → Step S H S' H' → Q x ρ S' H'
  | .exc e ρ => ∀ S' H', Rep K σ0 σ ρ H' S' → Step S H S' H' → E e H'
/-- the value v is the outcome x -/
def OVok (σ : St) (H : Hp) : OV → V → Prop
  | .d y, v => RD K H y v
  | .s i, v => σ[i]? = some (some v)
/-- .. where it has been made here, and is changeable yet -/
def FRok (S : Addr → Prop) (H : Hp) (S' : Addr → Prop) (H' : Hp) : OV → V → Prop
  | .d (.list l), v => ∃ p xs, v = .ref p ∧ H' p = some (.lst xs) ∧ RDs K H' l xs ∧ ¬ S' p ∧ (S p ∨ H p = none)
  | .d (.dict l), v => ∃ p, v = .ref p ∧ DO K H' p l ∧ ¬ S' p ∧ (S p ∨ H p = none)
  | .d y, v => RD K H' y v
  | .s i, v => False
def tE (f : Rho → R OV) : TE := fun σ H Q => ∃ ρ S, Rep K σ0 σ ρ H S ∧ After K σ0 E σ S H (f ρ) fun x _ _ H' => ∀ v, OVok K σ H' x v → Q v H'
def tF (f : Rho → R OV) : TE := fun σ H Q => ∃ ρ S, Rep K σ0 σ ρ H S ∧ After K σ0 E σ S H (f ρ) fun x _ S' H' => ∀ v, FRok K S H S' H' x v → Q v H'
def tB (f : Rho → R OV) : TT := fun σ H Q => ∃ ρ S, Rep K σ0 σ ρ H S ∧ After K σ0 E σ S H (f ρ) fun x _ _ H' => ∃ b, needB x = some b ∧ Q b H'
end
section
variable {K : Frag} {σ0 : St} {E : Exc → Hp → Prop} {σ : St} {S : Addr → Prop} {H : Hp} {α β : Type}
theorem After.mono {r : R α} {Q Q' : α → Rho → (Addr → Prop) → Hp → Prop} (h : After K σ0 E σ S H r Q)
    (i : ∀ x ρ S' H', Rep K σ0 σ ρ H' S' → Step S H S' H' → Q x ρ S' H' → Q' x ρ S' H') : After K σ0 E σ S H r Q' := by
  cases r with
  | stuck => exact h
  | ok x ρ => exact fun S' H' a b => i x ρ S' H' a b (h S' H' a b)
  | exc e ρ => exact h
theorem After.then {S1 : Addr → Prop} {H1 : Hp} {r : R α} {Q : α → Rho → (Addr → Prop) → Hp → Prop} (st : Step S H S1 H1) (h : After K σ0 E σ S H r Q) : After K σ0 E σ S1 H1 r Q := by
  cases r with
  | stuck => exact h
  | ok x ρ => exact fun S' H' a b => h S' H' a (st.trans b)
  | exc e ρ => exact fun S' H' a b => h S' H' a (st.trans b)
theorem After.bind {r : R α} {g : α → Rho → R β} {Q : β → Rho → (Addr → Prop) → Hp → Prop} (h : After K σ0 E σ S H (r.bind g) Q) :
    After K σ0 E σ S H r fun x ρ S' H' => After K σ0 E σ S' H' (g x ρ) Q := by
  cases r with
  | stuck => exact h
  | ok x ρ => exact fun S' H' _ b => After.then b (show After K σ0 E σ S H (g x ρ) Q from h)
  | exc e ρ => exact h
theorem After.ofO {x : Option α} {ρ : Rho} {Q : α → Rho → (Addr → Prop) → Hp → Prop} (h : After K σ0 E σ S H (ofO x ρ) Q) (r : Rep K σ0 σ ρ H S) : ∃ y, x = some y ∧ Q y ρ S H ∧ ∀ S' H', Rep K σ0 σ ρ H' S' → Step S H S' H' → Q y ρ S' H' := by
  cases x with
  | none => exact h.elim
  | some y => exact ⟨y, rfl, h S H r (Step.refl S H), h⟩
theorem After.ok {x : α} {ρ : Rho} {Q : α → Rho → (Addr → Prop) → Hp → Prop} (h : After K σ0 E σ S H (.ok x ρ) Q) (r : Rep K σ0 σ ρ H S) : Q x ρ S H := h S H r (Step.refl S H)
theorem Step.free {S1 : Addr → Prop} {H1 : Hp} (st : Step S H S1 H1) {p : Addr} (h : H1 p = none) : S p ∨ H p = none := by
  cases e : H p with
  | none => exact .inr rfl
  | some o =>
    by_cases n : S p
    · exact .inl n
    · rw [st.keep p o e n] at h; cases h
end

/-! ### freezing -/
section
variable {X : Cx} {pins : List (Addr × Obj)} {σ : St} {H : Hp} {s : Shared}
def Frzs (u : HO) : Prop := (∃ xs, u = .lst xs) ∨ (∃ kvs, u = .dK kvs) ∨ ∃ φ, u = .ext φ
theorem inv_frz {a : Addr} {u : HO} (I : Inv X pins σ H s) (h : H a = some u) (hu : Frzs u) : ∃ o, Inv X pins σ (upd H a (.frz o u)) s := by
  have ok := I.hok a _ h
  obtain ⟨o, e⟩ : ∃ o, s.heap.get? a = some o := by
    rcases hu with ⟨xs, rfl⟩ | ⟨kvs, rfl⟩ | ⟨φ, rfl⟩
    · obtain ⟨z, its, n, r, e⟩ := ok
      exact ⟨_, e⟩
    · obtain ⟨z, y, vs, r, o, es, ep, e, _⟩ := ok
      exact ⟨o, e⟩
    · obtain ⟨_, ⟨o, e⟩, _⟩ := ok
      exact ⟨o, e⟩
  have n1 : ∀ ys, u ≠ .tup ys := by rcases hu with ⟨xs, rfl⟩ | ⟨kvs, rfl⟩ | ⟨φ, rfl⟩ <;> exact fun _ z => nomatch z
  have n2 : ∀ o v, u ≠ .frz o v := by rcases hu with ⟨xs, rfl⟩ | ⟨kvs, rfl⟩ | ⟨φ, rfl⟩ <;> exact fun _ _ z => nomatch z
  have n3 : ∀ o, u ≠ .tbl o := by rcases hu with ⟨xs, rfl⟩ | ⟨kvs, rfl⟩ | ⟨φ, rfl⟩ <;> exact fun _ z => nomatch z
  have n4 : ∀ o, u ≠ .own o := by rcases hu with ⟨xs, rfl⟩ | ⟨kvs, rfl⟩ | ⟨φ, rfl⟩ <;> exact fun _ z => nomatch z
  refine ⟨o, I.ok, I.os, I.bare, I.base.trans ⟨fun b o q _ _ _ => q, fun b o q _ _ _ => ⟨o.slots, q⟩, fun b o q n' _ => ?_, fun b o q _ => ⟨o, q⟩, fun b ys q => ?_, fun b o u q => ?_, fun b ps q => ?_⟩, I.loc, I.cell, ?_, fun x c q => ?_, fun p hp => ?_, fun b v q => ?_, I.len⟩
  · rw [upd_ne (fun z => by rw [z, h] at n'; cases n')]
    exact n'
  · rw [upd_ne (fun z => by rw [z, h] at q; exact n1 _ (Option.some.inj q))]
    exact q
  · rw [upd_ne (fun z => by rw [z, h] at q; exact n2 _ _ (Option.some.inj q))]
    exact q
  · refine ⟨#[], ?_⟩
    rw [upd_ne (fun z => by rw [z, h] at q; exact n3 _ (Option.some.inj q)), q]
    simp
  · rw [upd_ne (fun z => by
      have f := I.free
      rw [z, h] at f
      cases f)]
    exact I.free
  · rw [upd_ne (fun z => by
      have f := I.freeC x c q
      rw [z, h] at f
      cases f)]
    exact I.freeC x c q
  · obtain ⟨q1, q2, q3⟩ := I.pin p hp
    exact ⟨q1, by rw [upd_ne (fun z => by rw [z, h] at q2; cases q2)]; exact q2, q3⟩
  · have st : ∀ {b v}, ObjOk X.prog X.w H s.heap b v → ObjOk X.prog X.w (upd H a (.frz o u)) s.heap b v := fun {b v} ok => by
      refine ok.stay (fun c w _ y => y) (fun c y => ?_) fun c ys y => ?_
      · rw [upd_ne (fun z => by rw [z, h] at y; exact n4 _ (Option.some.inj y))]
        exact y
      · rw [upd_ne (fun z => by rw [z, h] at y; exact n1 _ (Option.some.inj y))]
        exact y
    by_cases hb : b = a
    · subst hb
      rw [upd_same] at q
      cases q
      exact ⟨e, st ok⟩
    · rw [upd_ne hb] at q
      exact st (I.hok b v q)
theorem frzs_lst (xs : List V) : Frzs (.lst xs) := .inl ⟨xs, rfl⟩
theorem frzs_dK (xs : List (Key × V)) : Frzs (.dK xs) := .inr (.inl ⟨xs, rfl⟩)
theorem frzs_dtO (a : Addr) (xs : List KE3) : Frzs (dtO a xs) := .inr (.inr ⟨_, rfl⟩)
/-- a dict is frozen: it is data -/
theorem do_frz {K : Frag} {a : Addr} {l : List (PD × PD)} (h : DO K H a l) : ∃ u, H a = some u ∧ Frzs u ∧ stable u = false ∧ ∀ o, RD K (upd H a (.frz o u)) (.dict l) (.ref a) := by
  rcases h with ⟨ks, nn, h, r⟩ | ⟨kvs, h, r⟩
  · exact ⟨_, h, frzs_dtO _ _, rfl, fun o => .dT nn upd_same (r.mono (keeps_upd h rfl))⟩
  · exact ⟨_, h, frzs_dK _, rfl, fun o => .dI upd_same (r.mono (keeps_upd h rfl))⟩
theorem DO.mono2 {K : Frag} {H H' : Hp} {a : Addr} {l : List (PD × PD)} (h : DO K H a l) (k : Keeps H H') (e : H' a = H a) : DO K H' a l := h.mono k fun o q => by rw [e]; exact q
end
end Er

set_option Elab.async false
set_option linter.all false
set_option maxRecDepth 100000
set_option maxHeartbeats 2000000
/-! C4: operators, comparisons, built-ins by values. -/
namespace Er
section
open PySem PySem.Spec PyProof.Rows
theorem tup_mul_same (l : Addr) (items : Array Value) (n : Nat) (dd : Option Addr) (sl : Array (Option Value)) (u : Tok) :
    Meets (Builtin.«tuple.__mul__» ⟨[.ref l, .int 1 u], []⟩) (fun _ R s => s.heap.get? l = some { cls := .type "tuple", dict := dd, data := .seq items n, slots := sl } ∧ R (.ok (.ret (Value.ref l))) s) :=
  .of_wp fun prog w A R s h => by
    obtain ⟨hp, g, d, tk, os⟩ := s
    obtain ⟨hl, h⟩ := h
    have f1 := AutoSeq1.idx_int
    wp_walk using AutoSeq1.wpAny_loadPart' hl
    exact ⟨_, rfl, h⟩
theorem tup_mul_zero (l : Addr) (items : Array Value) (hi : items.isEmpty = false) (n : Nat) (dd : Option Addr) (sl : Array (Option Value)) (u : Tok) :
    Meets (Builtin.«tuple.__mul__» ⟨[.ref l, .int 0 u], []⟩) (fun _ R s => s.heap.get? l = some { cls := .type "tuple", dict := dd, data := .seq items n, slots := sl } ∧
      R (.ok (.ret (Value.ref s.heap.objs.size))) { s with heap := s.heap.push { cls := Value.type "tuple", data := Data.seq #[] }, toks := s.toks }) :=
  .of_wp fun prog w A R s h => by
    obtain ⟨hp, g, d, tk, os⟩ := s
    obtain ⟨hl, h⟩ := h
    have f1 := AutoSeq1.idx_int
    have c1 : (items.isEmpty || (0 : Int) == 1) = false := by rw [hi]; rfl
    wp_walk using AutoSeq1.wpAny_loadPart' hl
    exact ⟨_, rfl, h⟩
end
open PySem L2
variable [Wd]
section
variable {X : Cx} {pins : List (Addr × Obj)} {σ : L2.St} {H : Hp} {s : Shared}
theorem lstR {l : Addr} {xs : List V} (I : Inv X pins σ H s) (h : Rd H l (.lst xs)) : xs.length ≤ sizeLine ∧ ∃ (its : List Value) (n : Nat), Vals xs its ∧ xs.length = its.length ∧ s.heap.get? l = some { cls := .type "list", data := .seq its.toArray n } := by
  obtain ⟨z, its, n, r, e⟩ := h.ok I.hok
  exact ⟨z, its, n, r, r.length, e⟩
end
/-- what a new value is: a list is new and changeable -/
def NewD (K : Frag) (H H' : Hp) (d : PD) (v : V) : Prop := match d with
  | .list l => ∃ p xs, v = .ref p ∧ H p = none ∧ H' p = some (.lst xs) ∧ RDs K H' l xs
  | .dict l => ∃ p, v = .ref p ∧ H p = none ∧ DO K H' p l
  | d => RD K H' d v
theorem RT.listR {K : Frag} {H : Hp} {ds : List PD} {v : V} (h : RT K H (.list ds) v) : ∃ a xs, v = .ref a ∧ Rd H a (.lst xs) ∧ RDs K H ds xs := by
  rcases h with h | ⟨a, xs, ds', e, rfl, h, r⟩ | ⟨_, _, e, _⟩
  · cases h with
    | lst h t => exact ⟨_, _, rfl, .inr ⟨_, h⟩, t⟩
  · cases e
    exact ⟨a, xs, rfl, .inl h, r⟩
  · cases e
section
open PyProof.Rows
variable {X : Cx}
theorem list_cat : OpR X (binaryOp .Add) (fun x y H Q => ∃ l b xs zs, x = .ref l ∧ y = .ref b ∧ Rd H l (.lst xs) ∧ Rd H b (.lst zs) ∧ xs.length + zs.length ≤ sizeLine ∧ ∀ p, H p = none → Q (.ref p) (upd H p (.lst (xs ++ zs)))) := by
  intro pins s σ H x y v u Q I rx ry h
  obtain ⟨l, b, xs, zs, rfl, rfl, hH, hB, hz, q⟩ := h
  cases rx; cases ry
  obtain ⟨_, its, n, r, hl, e⟩ := lstR I hH
  obtain ⟨_, its2, n2, r2, hl2, e2⟩ := lstR I hB
  refine PySem.P.add_list e e2 ?_ (by simp only [List.size_toArray]; omega)
  rw [show its.toArray ++ its2.toArray = (its ++ its2).toArray by simp]
  have hn : (xs ++ zs).length ≤ sizeLine := by rw [List.length_append]; omega
  exact ⟨.ref _, _, I.lnew (t' := s.toks) (r.append r2) hn, rfl, q _ I.fresh⟩
theorem list_rep : OpR X (binaryOp .Mult) (fun x y H Q => ∃ l k xs, x = .ref l ∧ y = .int k ∧ Rd H l (.lst xs) ∧ 0 ≤ k ∧ k ≤ 1000 ∧ xs.length ≤ 1000 ∧ ∀ p, H p = none → Q (.ref p) (upd H p (.lst (List.replicate k.toNat xs).flatten))) := by
  intro pins s σ H x y v u Q I rx ry h
  obtain ⟨l, k, xs, rfl, rfl, hH, h1, h2, hz, q⟩ := h
  cases rx
  obtain ⟨t, rfl⟩ := ry
  obtain ⟨_, its, n, r, hl, e⟩ := lstR I hH
  have hm : its.toArray.size * k.toNat ≤ 1000000 := by
    rw [List.size_toArray, ← hl]
    exact Nat.le_trans (Nat.mul_le_mul hz (by omega : k.toNat ≤ 1000)) (by decide)
  have hline : (1000000 : Nat) ≤ sizeLine := by rw [sizeLine_eq]; decide
  have hcap : ¬ its.toArray.size * k.toNat > (2 ^ 63 - 1) / 8 := by omega
  have hfit : ¬ (!Builtin.List.listFitsIndex k) = true := by
    rw [fitsIndex_both (by omega) (by omega)]
    decide
  have hlong : ¬ Builtin.List.listTooLong (its.toArray.size * k.toNat) = true := by
    rw [notLongL (by omega)]
    decide
  have f0 : ∀ m : Nat, List.foldl (fun x1 x2 => x1 ++ x2) #[] (List.replicate m its.toArray) = (List.replicate m its).flatten.toArray := fun m => by simpa using foldl_rep its m []
  have hnew : List.foldl (fun x1 x2 => x1 ++ x2) #[] (List.replicate (if its.toArray.isEmpty = true then 0 else k.toNat) its.toArray) = (List.replicate k.toNat its).flatten.toArray := by
    rw [f0]
    cases its with
    | nil => simp
    | cons a r' => rw [if_neg (by simp)]
  refine wpAny_binaryOp_repeat_ref (T := "list") (U := "int") (by decide) ⟨_, e, rfl⟩ (fun s' => typeIs_int s' k t) noFill_list_mul PySem.F.fills_int_mul PySem.F.slot_int_rmul repeat_list PySem.F.slot_int_index.lookup
    (call_meets PySem.F.slot_int_rmul (typeIs_int s k t) PySem.F.entry_int_rmul (PySem.F.args_int_rmul_2 _ _) (int___rmul___int_list k t l its.toArray n)
      ⟨e, rfl, ⟨_, e, rfl⟩, call_meets PySem.F.slot_list_mul ⟨_, e, rfl⟩ PySem.F.entry_list_mul (PySem.F.args_list_mul_2 _ _) (AutoListH.list___mul___list_int_3 l its.toArray n k t hfit hcap hlong) ⟨e, ?_⟩⟩)
  rw [hnew]
  have hlen : (List.replicate k.toNat xs).flatten.length ≤ sizeLine := by
    rw [lm_len_rep_flat, hl, Nat.mul_comm]
    simp only [List.size_toArray] at hm
    omega
  exact ⟨.ref _, _, I.lnew (t' := s.toks) (r.rep k.toNat) hlen, rfl, q _ I.fresh⟩
theorem tup_rep01 : OpR X (binaryOp .Mult) (fun x y H Q => ∃ l k xs, x = .ref l ∧ y = .int k ∧ SqT X.K H l xs ∧ xs ≠ [] ∧ ((k = 1 ∧ Q (.ref l) H) ∨ (k = 0 ∧ ∀ p, H p = none → Q (.ref p) (upd H p (.tup []))))) := by
  intro pins s σ H x y v u Q I rx ry h
  obtain ⟨l, k, xs, rfl, rfl, hT, hne, q⟩ := h
  cases rx
  obtain ⟨t, rfl⟩ := ry
  obtain ⟨its, r, ⟨⟨cls, dd, data, sl⟩, ho, hc, n, hd⟩, hs⟩ := I.tuple hT
  simp only at hc hd
  subst hc hd
  have hi : its.toArray.isEmpty = false := by
    cases its with
    | nil => exact absurd (List.eq_nil_of_length_eq_zero (by rw [r.length]; rfl)) hne
    | cons a b => rfl
  rcases q with ⟨rfl, q⟩ | ⟨rfl, q⟩
  · exact wpAny_binaryOp_repeat_ref (T := "tuple") (U := "int") (by decide) ⟨_, ho, rfl⟩ (fun s' => typeIs_int s' 1 t) noFill_tuple_mul PySem.F.fills_int_mul PySem.F.slot_int_rmul repeat_tuple PySem.F.slot_int_index.lookup
      (call_meets PySem.F.slot_int_rmul (typeIs_int s 1 t) PySem.F.entry_int_rmul (PySem.F.args_int_rmul_2 _ _) (int_rmul_tuple 1 t l its.toArray n dd sl)
        ⟨ho, rfl, ⟨_, ho, rfl⟩, call_meets PySem.F.slot_tuple_mul ⟨_, ho, rfl⟩ PySem.F.entry_tuple_mul (PySem.F.args_tuple_mul_2 _ _) (tup_mul_same l its.toArray n dd sl t) ⟨ho, .ref l, H, I, rfl, q⟩⟩)
  · exact wpAny_binaryOp_repeat_ref (T := "tuple") (U := "int") (by decide) ⟨_, ho, rfl⟩ (fun s' => typeIs_int s' 0 t) noFill_tuple_mul PySem.F.fills_int_mul PySem.F.slot_int_rmul repeat_tuple PySem.F.slot_int_index.lookup
      (call_meets PySem.F.slot_int_rmul (typeIs_int s 0 t) PySem.F.entry_int_rmul (PySem.F.args_int_rmul_2 _ _) (int_rmul_tuple 0 t l its.toArray n dd sl)
        ⟨ho, rfl, ⟨_, ho, rfl⟩, call_meets PySem.F.slot_tuple_mul ⟨_, ho, rfl⟩ PySem.F.entry_tuple_mul (PySem.F.args_tuple_mul_2 _ _) (tup_mul_zero l its.toArray hi n dd sl t) ⟨ho,
          .ref s.heap.objs.size, _, I.laid (t' := s.toks) (o := .tup []) (fun b ob q => Heap.get?_push_of_some _ q) (Nat.le_refl _) ⟨Nat.zero_le _, [], .nil, IsTup.new _ _⟩, rfl, q _ I.fresh⟩⟩)
end
def opOf : BOp → Operator
  | .add => .Add
  | .sub => .Sub
  | .mul => .Mult
  | .fdiv => .FloorDiv
  | .mod => .Mod
  | .pow => .Pow
theorem op_impl {X : Cx} {f : Value → Value → Sem Value} {r : R2} (h : OpR X f r) {pins : List (Addr × Obj)} {s : Shared} {σ : L2.St} {H : Hp} {x y : V} {v u : Value} {Q : VK} (I : Inv X pins σ H s) (rx : RelV x v) (ry : RelV y u) (q : r x y H Q) :
    wpAny (model X.prog X.w) X.A (f v u) (EP X pins σ Q) X.xe s := h pins s σ H x y v u Q I rx ry q
def rBin (K : Frag) (o : BOp) : R2 := fun x y H Q => ∃ d1 d2 d, RT K H d1 x ∧ RT K H d2 y ∧ binD o d1 d2 = some d ∧ ∀ v H', Same H H' → NewD K H H' d v → Q v H'
theorem op_bin {X : Cx} (o : BOp) : OpR X (binaryOp (opOf o)) (rBin X.K o) := by
  intro pins s σ H x y v u Q I rx ry h
  obtain ⟨d1, d2, d, r1, r2, e, q⟩ := h
  unfold binD at e
  split at e
  · cases e
    rw [r1.int] at rx
    rw [r2.int] at ry
    exact op_impl op_add I rx ry ⟨_, _, rfl, rfl, q _ H (Same.refl H) (.int _)⟩
  · cases e
    rw [r1.int] at rx
    rw [r2.int] at ry
    exact op_impl op_sub I rx ry ⟨_, _, rfl, rfl, q _ H (Same.refl H) (.int _)⟩
  · split at e
    · rename_i hc
      cases e
      rw [r1.int] at rx
      rw [r2.int] at ry
      exact op_impl op_mul I rx ry ⟨_, _, rfl, rfl, hc.imp (fun h => ⟨by omega, by omega⟩) (fun h => ⟨by omega, by omega⟩), q _ H (Same.refl H) (.int _)⟩
    · cases e
  · split at e
    · rename_i hc
      cases e
      rw [r1.int] at rx
      rw [r2.int] at ry
      exact op_impl op_fdivN I rx ry ⟨_, _, rfl, rfl, hc, q _ H (Same.refl H) (.int _)⟩
    · cases e
  · split at e
    · rename_i hc
      cases e
      rw [r1.int] at rx
      rw [r2.int] at ry
      exact op_impl op_modN I rx ry ⟨_, _, rfl, rfl, hc, q _ H (Same.refl H) (.int _)⟩
    · cases e
  · split at e
    · rename_i hc
      cases e
      rw [r1.int] at rx
      rw [r2.int] at ry
      exact op_impl op_pow I rx ry ⟨_, _, rfl, rfl, hc, q _ H (Same.refl H) (.int _)⟩
    · cases e
  · split at e
    · rename_i hc
      cases e
      obtain ⟨a, xs, rfl, ha, da⟩ := r1.tuple
      obtain ⟨b, ys, rfl, hb, db⟩ := r2.tuple
      have hl : xs.length + ys.length ≤ sizeLine := by
        rw [← da.length, ← db.length]
        exact hc
      refine op_impl op_catA I rx ry ⟨a, b, xs, ys, rfl, rfl, ha, hb, hl, fun z => ?_, fun z1 z => ?_, fun _ _ p hp => ?_⟩
      · refine q _ H (Same.refl H) (.tup hb ?_)
        rw [(da.nil_iff).mpr z]
        exact db
      · refine q _ H (Same.refl H) (.tup ha ?_)
        rw [(db.nil_iff).mpr z, List.append_nil]
        exact da
      · exact q _ _ (same_upd hp) (.tup (SqT.of upd_same) ((da.append db).mono (Keeps.of_same (same_upd hp))))
    · cases e
  · split at e
    · rename_i hc
      cases e
      obtain ⟨a, xs, rfl, ha, da⟩ := r1.listR
      obtain ⟨b, ys, rfl, hb, db⟩ := r2.listR
      have hl : xs.length + ys.length ≤ sizeLine := by
        rw [← da.length, ← db.length]
        exact hc
      exact op_impl list_cat I rx ry ⟨a, b, xs, ys, rfl, rfl, ha, hb, hl, fun p hp => q _ _ (same_upd hp) ⟨p, _, rfl, hp, upd_same, (da.append db).mono (Keeps.of_same (same_upd hp))⟩⟩
    · cases e
  · split at e
    · rename_i k hc
      cases e
      obtain ⟨h0, h1, hz, hn⟩ := hc
      obtain ⟨a, xs, rfl, ha, da⟩ := r1.tuple
      rw [r2.int] at ry
      have hx : xs ≠ [] := fun z => hn (da.nil_iff.mpr z)
      by_cases k0 : k = 0
      · subst k0
        exact op_impl tup_rep01 I rx ry ⟨a, 0, xs, rfl, rfl, ha, hx, .inr ⟨rfl, fun p hp => q _ _ (same_upd hp) (.tup (SqT.of upd_same) .nil)⟩⟩
      · by_cases k1 : k = 1
        · subst k1
          refine op_impl tup_rep01 I rx ry ⟨a, 1, xs, rfl, rfl, ha, hx, .inl ⟨rfl, q _ H (Same.refl H) (.tup ha ?_)⟩⟩
          show RDs X.K H (List.replicate 1 _).flatten xs
          simpa using da
        · exact op_impl op_repT I rx ry ⟨a, k, xs, rfl, rfl, ha, hx, by omega, h1, by rw [← da.length]; exact hz, fun p hp => q _ _ (same_upd hp) (.tup (SqT.of upd_same) ((da.rep _).mono (Keeps.of_same (same_upd hp))))⟩
    · cases e
  · split at e
    · rename_i k hc
      cases e
      obtain ⟨h0, h1, hz⟩ := hc
      obtain ⟨a, xs, rfl, ha, da⟩ := r1.listR
      rw [r2.int] at ry
      exact op_impl list_rep I rx ry ⟨a, k, xs, rfl, rfl, ha, h0, h1, by rw [← da.length]; exact hz, fun p hp => q _ _ (same_upd hp) ⟨p, _, rfl, hp, upd_same, (da.rep _).mono (Keeps.of_same (same_upd hp))⟩⟩
    · cases e
  · cases e
end Er

set_option Elab.async false
set_option linter.all false
set_option maxRecDepth 100000
set_option maxHeartbeats 2000000
/-! C5: comparisons, built-ins, items, slices by values. -/
namespace Er
open PySem L2
variable [Wd]
def cmOf : COp → CmpOp
  | .eq => .Eq
  | .ne => .NotEq
  | .lt => .Lt
  | .le => .LtE
  | .gt => .Gt
  | .ge => .GtE
  | .isin => .In
  | .notin => .NotIn
section
open PyProof.Rows
variable {X : Cx}
/-- x in a tuple of data, not in -/
theorem in_tup (hu : X.A.units + 65 < cLine) : OpR X (compareOp .In) (fun x y H Q => ∃ d ds, Dp X.K H x d ∧ Dp X.K H y (.tuple ds) ∧ SeqAt.shaped d = true ∧ SeqAt.shaped (.tuple ds) = true ∧ Q (.bl (ds.any fun z => PyData.eqv z d)) H) := by
  intro pins s σ H x y v u Q I rx ry ⟨d, ds, hd, he, sd, se, q⟩
  obtain ⟨as, r1⟩ := Dp.reads I d x v hd rx
  obtain ⟨bs, r2⟩ := Dp.reads I (.tuple ds) y u he ry
  have c1 : PyData.canLayAll0 ds = true := SeqAt.canLay_of_shaped se
  exact SeqAt.in_tuple_reads r2 r1 c1 (SeqAt.canLay_of_shaped sd) (room_in_shaped sd hu) ⟨.bl _, H, I, rfl, q⟩
theorem notin_tup (hu : X.A.units + 65 < cLine) : OpR X (compareOp .NotIn) (fun x y H Q => ∃ d ds, Dp X.K H x d ∧ Dp X.K H y (.tuple ds) ∧ SeqAt.shaped d = true ∧ SeqAt.shaped (.tuple ds) = true ∧ Q (.bl (!ds.any fun z => PyData.eqv z d)) H) := by
  intro pins s σ H x y v u Q I rx ry ⟨d, ds, hd, he, sd, se, q⟩
  obtain ⟨as, r1⟩ := Dp.reads I d x v hd rx
  obtain ⟨bs, r2⟩ := Dp.reads I (.tuple ds) y u he ry
  have c1 : PyData.canLayAll0 ds = true := SeqAt.canLay_of_shaped se
  exact SeqAt.notIn_tuple_reads r2 r1 c1 (SeqAt.canLay_of_shaped sd) (room_in_shaped sd hu) ⟨.bl _, H, I, rfl, q⟩
end
theorem RT.key {α : Type} {K : Frag} {H : Hp} {l : List (PD × α)} {d : PD} {v : V} {o : Option α} (h : RT K H d v) (e : dGet l d = some o) : RD K H d v := by
  rcases h with h | ⟨a, xs, ds, rfl, rfl, h, r⟩ | ⟨a, l, rfl, rfl, h⟩
  · exact h
  · obtain ⟨n, hk, _⟩ := dGet_some e
    cases hk
  · obtain ⟨n, hk, _⟩ := dGet_some e
    cases hk
def rCmp (K : Frag) (o : COp) : R2 := fun x y H Q => ∃ d1 d2 b, RT K H d1 x ∧ RT K H d2 y ∧ cmpD o d1 d2 = some b ∧ Q (.bl b) H
theorem op_cmp {X : Cx} (wd : X.w = Wd.w) (hu : X.A.units + 65 < cLine) (o : COp) : OpR X (compareOp (cmOf o)) (rCmp X.K o) := by
  intro pins s σ H x y v u Q I rx ry h
  have hu' : X.A.units + 64 < cLine := by omega
  obtain ⟨d1, d2, b, r1, r2, e, q⟩ := h
  unfold cmpD at e
  split at e
  · split at e
    · rename_i hc
      cases e
      exact op_impl (op_eqD hu') I rx ry ⟨_, _, r1.dp (SeqAt.canLay_of_shaped hc.1), r2.dp (SeqAt.canLay_of_shaped hc.2), hc.1, hc.2, q⟩
    · cases e
  · split at e
    · rename_i hc
      cases e
      exact op_impl (op_neD hu') I rx ry ⟨_, _, r1.dp (SeqAt.canLay_of_shaped hc.1), r2.dp (SeqAt.canLay_of_shaped hc.2), hc.1, hc.2, q⟩
    · cases e
  · cases e
    rw [r1.int] at rx
    rw [r2.int] at ry
    exact op_impl op_lt I rx ry ⟨_, _, rfl, rfl, q⟩
  · cases e
    rw [r1.int] at rx
    rw [r2.int] at ry
    exact op_impl op_le I rx ry ⟨_, _, rfl, rfl, q⟩
  · cases e
    rw [r1.int] at rx
    rw [r2.int] at ry
    exact op_impl op_gt I rx ry ⟨_, _, rfl, rfl, q⟩
  · cases e
    rw [r1.int] at rx
    rw [r2.int] at ry
    exact op_impl op_ge I rx ry ⟨_, _, rfl, rfl, q⟩
  · split at e
    · rename_i hc
      cases e
      exact op_impl (op_inD hu) I rx ry ⟨_, _, r1.dp (SeqAt.canLay_of_shaped hc.1), r2.dp (SeqAt.canLay_of_shaped hc.2), hc.1, hc.2, q⟩
    · cases e
  · split at e
    · rename_i hc
      cases e
      exact op_impl (in_tup hu) I rx ry ⟨_, _, r1.dp (SeqAt.canLay_of_shaped hc.1), r2.dp (SeqAt.canLay_of_shaped hc.2), hc.1, hc.2, q⟩
    · cases e
  · split at e
    · rename_i hc
      cases e
      exact op_impl (op_notInD hu) I rx ry ⟨_, _, r1.dp (SeqAt.canLay_of_shaped hc.1), r2.dp (SeqAt.canLay_of_shaped hc.2), hc.1, hc.2, q⟩
    · cases e
  · obtain ⟨o, e1, rfl⟩ := Option.map_eq_some_iff.mp e
    obtain ⟨p, rfl, hd⟩ := r2.dict
    cases ry
    exact D_in (by omega) I wd hd (r1.key e1) rx e1 fun s' I' => ⟨.bl _, H, I', rfl, q⟩
  · obtain ⟨o, e1, rfl⟩ := Option.map_eq_some_iff.mp e
    obtain ⟨p, rfl, hd⟩ := r2.dict
    cases ry
    exact D_notIn (by omega) I wd hd (r1.key e1) rx e1 fun s' I' => ⟨.bl _, H, I', rfl, q⟩
  · split at e
    · rename_i hc
      cases e
      exact op_impl (notin_tup hu) I rx ry ⟨_, _, r1.dp (SeqAt.canLay_of_shaped hc.1), r2.dp (SeqAt.canLay_of_shaped hc.2), hc.1, hc.2, q⟩
    · cases e
  · cases e

/-! ### built-ins -/
def RTs (K : Frag) (H : Hp) : List PD → List V → Prop := Paired (RT K H)
def biV : Bi → Value
  | .len => .builtin "len"
  | .all => .builtin "all"
  | .sum => .builtin "sum"
  | .max1 => .builtin "max"
  | .max2 => .builtin "max"
  | .min2 => .builtin "min"
  | .int => .type "int"
  | .abs => .builtin "abs"
  | .tuple => .type "tuple"
  | .list => .type "list"
  | .sorted => .builtin "sorted"
theorem rts1 {K : Frag} {H : Hp} {d : PD} {xs : List V} (h : RTs K H [d] xs) : ∃ x, xs = [x] ∧ RT K H d x := by
  cases h with
  | cons r t => cases t; exact ⟨_, rfl, r⟩
theorem rts2 {K : Frag} {H : Hp} {d e : PD} {xs : List V} (h : RTs K H [d, e] xs) : ∃ x y, xs = [x, y] ∧ RT K H d x ∧ RT K H e y := by
  cases h with
  | cons r t =>
    cases t with
    | cons r2 t => cases t; exact ⟨_, _, rfl, r, r2⟩
theorem call_impl {X : Cx} {f : Value} {r : List V → Hp → VK → Prop} (h : CallR X f r) {pins : List (Addr × Obj)} {s : Shared} {σ : L2.St} {H : Hp} {xs : List V} {us : List Value} {Q : VK} (I : Inv X pins σ H s) (rx : Vals xs us) (q : r xs H Q) :
    wpAny (model X.prog X.w) X.A (call f us) (EP X pins σ Q) X.xe s := h pins s σ H xs us Q I rx q
theorem maxI_mem : ∀ (m : Int) (l : List Int), maxI m l ∈ m :: l
  | m, [] => by simp [maxI]
  | m, x :: r => by
    unfold maxI
    have := maxI_mem (if m < x then x else m) r
    split at this <;> rename_i h
    · rw [if_pos h]
      simp only [List.mem_cons] at this ⊢
      rcases this with z | z
      · exact .inr (.inl z)
      · exact .inr (.inr z)
    · rw [if_neg h]
      simp only [List.mem_cons] at this ⊢
      rcases this with z | z
      · exact .inl z
      · exact .inr (.inr z)
theorem maxI_ge : ∀ (m : Int) (l : List Int) (y : Int), y ∈ m :: l → y ≤ maxI m l
  | m, [], y, h => by simp at h; subst h; exact Int.le_refl _
  | m, x :: r, y, h => by
    unfold maxI
    by_cases hm : m < x
    · rw [if_pos hm]
      simp only [List.mem_cons] at h
      rcases h with h | h | h
      · have := maxI_ge x r x (by simp)
        omega
      · exact maxI_ge x r y (by simp [h])
      · exact maxI_ge x r y (by simp [h])
    · rw [if_neg hm]
      simp only [List.mem_cons] at h
      rcases h with h | h | h
      · exact maxI_ge m r y (by simp [h])
      · have := maxI_ge m r m (by simp)
        omega
      · exact maxI_ge m r y (by simp [h])
def rBi (K : Frag) (b : Bi) : List V → Hp → VK → Prop := fun xs H Q => ∃ ds d, RTs K H ds xs ∧ biD b ds = some d ∧ ∀ v H', Same H H' → NewD K H H' d v → Q v H'
section
open PyProof.Rows
variable {X : Cx}
/-- sorted of a list of tuples of data: a stable sort -/
theorem sorted_dat (hu : X.A.units + 20 < cLine) : CallR X (.builtin "sorted") (fun xs H Q => ∃ a ys ds, xs = [.ref a] ∧ Rd H a (.lst ys) ∧ RDs X.K H ds ys ∧ (((∀ d ∈ ds, ∃ x r, d = .tuple (x :: r)) ∨ ∀ d ∈ ds, ∃ i, d = .int i) ∨ ∃ r, ds = .tuple [] :: r ∧ ∀ d ∈ r, ∃ x, d = .tuple x) ∧ (∀ d ∈ ds, d.canLay0 = true) ∧ ds.length ≤ sizeLine ∧
    (∀ d ∈ ds, ∀ e ∈ ds, PySem.W.alike d e = true) ∧ (∀ d ∈ ds, d.depth ≤ 8) ∧ ∀ p zs, H p = none → RDs X.K H (ds.mergeSort (PySem.W.dataLe false id)) zs → Q (.ref p) (upd H p (.lst zs))) := by
  intro pins s σ H xs us Q I r h
  obtain ⟨a, ys, ds, rfl, ha, rd, ht, hcl, hl, hal, hd, q⟩ := h
  obtain ⟨u1, rfl, r1⟩ := vals1 r
  cases r1
  obtain ⟨_, its, n, rv, hl2, e⟩ := lstR I ha
  have each : ∀ {ds : List PD} {ys : List V} {us : List Value}, RDs X.K H ds ys → (∀ d ∈ ds, d.canLay0 = true) → Vals ys us → PySem.W.EachIs (fun u d => ∃ v, RelV v u ∧ RD X.K H d v) us ds ∧ PySem.W.EachIs (fun u d => ∃ as, Reads s.heap u (id d) as) us ds := by
    intro ds ys us h
    induction ds generalizing ys us with
    | nil =>
      intro _ h2
      cases h
      cases h2
      exact ⟨.nil, .nil⟩
    | cons d r ih =>
      intro hc h2
      cases h with
      | cons h t =>
        cases h2 with
        | cons g w =>
          obtain ⟨a1, a2⟩ := ih t (fun d hd => hc d (by simp [hd])) w
          exact ⟨.cons ⟨_, g, h⟩ a1, .cons (Dp.reads I _ _ _ (h.dp (hc _ (by simp))) g) a2⟩
  have back : ∀ {ds : List PD} {us : List Value}, PySem.W.EachIs (fun u d => ∃ v, RelV v u ∧ RD X.K H d v) us ds → ∃ zs, Vals zs us ∧ RDs X.K H ds zs := by
    intro ds us h
    induction h with
    | nil => exact ⟨[], .nil, .nil⟩
    | cons h _ ih =>
      obtain ⟨v, g, h⟩ := h
      obtain ⟨zs, a, b⟩ := ih
      exact ⟨v :: zs, .cons g a, .cons h b⟩
  obtain ⟨e1, e2⟩ := each rd hcl rv
  have key : ∀ out : List Value, out.length = ds.length → PySem.W.EachIs (fun u d => ∃ v, RelV v u ∧ RD X.K H d v) out (ds.mergeSort (PySem.W.dataLe false id)) → EP X pins σ Q (.ref (s.heap.objs.size + 1)) { s with heap := PyProof.Rows.sortedAll s.heap its (List.toArray out) } := fun out ho eo => by
    obtain ⟨zs, a1, a2⟩ := back eo
    have hz : zs.length ≤ sizeLine := by
      rw [a1.length, ho]
      exact hl
    obtain ⟨c, hc⟩ := PyProof.Rows.sortedAll_at s.heap its out.toArray
    have fr : H (s.heap.objs.size + 1) = none := I.hok.fresh (Nat.le_succ _)
    exact ⟨.ref (s.heap.objs.size + 1), _, I.laid (t' := s.toks) (o := .lst zs) (fun _ _ => PyProof.Rows.sortedAll_old) (Nat.le_succ _) ⟨hz, out, c, a1, hc⟩, rfl, q _ zs fr a2⟩
  rcases ht with ht | ⟨r, rfl, ht⟩
  · refine PySem.W.sorted_data (enc := id) ⟨_, e, rfl, n, rfl⟩ e1 e2 ?_ ?_ hl (fun b hb => ?_) fun out ho eo => key out ho eo
    · intro d hd e he
      rw [List.map_id] at hd he
      exact hal d hd e he
    · rw [List.map_id]
      rcases ht with ht | ht
      · exact .inl ht
      · refine .inr fun d hd => ?_
        obtain ⟨i, rfl⟩ := ht d hd
        exact ⟨(nomatch ·), fun _ z => nomatch z⟩
    · have := hd b hb
      show X.A.units + 2 + b.depth < cLine
      omega
  · refine sorted_empty ⟨_, e, rfl, n, rfl⟩ e1 e2 (fun d hd e he => hal d hd e he) ht hl (fun b hb => ?_) fun out ho eo => key out ho eo
    have := hd b hb
    show X.A.units + 2 + b.depth < cLine
    omega
end
/-- list(d) -/
theorem list_dict {X : Cx} (hc : X.calm = true) : CallR X (.type "list") (fun xs H Q => ∃ a l, xs = [.ref a] ∧ DRd X.K H a l ∧ ∀ p ys, H p = none → RDs X.K H (l.map (·.1)) ys → Q (.ref p) (upd H p (.lst ys))) := by
  intro pins s σ H xs us Q I r h
  obtain ⟨a, l, rfl, hd, q⟩ := h
  obtain ⟨u, rfl, rx⟩ := vals1 r
  cases rx
  obtain ⟨hs, hl, o, es, ep, ys, ho, hx, hdt, hz, rk, vk, _⟩ := D_raw I hd
  refine PySem.W.kdl_call (kdl_raw hs hx hdt) (I.ok.hd hc) ho (by omega) fun h' tk acc' c' kp e it => ?_
  have ea : acc'.toList = es.toList.map (·.key) := by
    apply List.ext_getElem?
    intro j
    rw [List.getElem?_map, show es.toList[j]? = es[j]? from Array.getElem?_toList]
    cases hj : acc'.toList[j]? with
    | none =>
      have h1 := List.getElem?_eq_none_iff.mp hj
      rw [Array.length_toList, it.1] at h1
      rw [Array.getElem?_eq_none h1]
      rfl
    | some v =>
      obtain ⟨en, hen, hv⟩ := it.2 j v (by rw [← Array.getElem?_toList]; exact hj)
      rw [hen, hv]
      rfl
  have hyl : ys.length ≤ sizeLine := by
    rw [← rk.length, List.length_map]
    exact hl
  refine ⟨.ref s.heap.objs.size, _, I.laid (t' := tk) kp (Nat.le_refl _) (show ObjOk X.prog X.w _ _ _ (.lst ys) from ⟨hyl, acc'.toList, c', ea ▸ vk, by rw [Array.toArray_toList]; exact e⟩), rfl, q _ ys (I.hok.fresh (Nat.le_refl _)) rk⟩
theorem sorted_eq_of {α : Type} {le : α → α → Bool} {xs ys : List α} (tr : ∀ a b c, le a b = true → le b c = true → le a c = true) (tot : ∀ a b, (le a b || le b a) = true) (an : ∀ a b, le a b = true → le b a = true → a = b) (h : ys.Perm xs) (p : ys.Pairwise fun a b => le a b = true) : ys = xs.mergeSort le := by
  refine List.Perm.eq_of_pairwise (fun a b _ _ h1 h2 => an a b h1 h2) p (List.pairwise_mergeSort tr tot xs) (h.trans (List.mergeSort_perm xs le).symm)
theorem no_int_tup {k : PD} (h : isInt k = true) : ¬ isTup k = true := by
  cases k <;> first | (cases h; done) | (intro z; cases z)
theorem sorted_dict {X : Cx} (hc : X.calm = true) : CallR X (.builtin "sorted") (fun xs H Q => ∃ a l, xs = [.ref a] ∧ DRd X.K H a l ∧ (∀ p ∈ l, isInt p.1 = true) ∧ l.length < 64 ∧ ∀ p ys, H p = none → RDs X.K H ((l.map (·.1)).mergeSort (PySem.W.dataLe false id)) ys → Q (.ref p) (upd H p (.lst ys))) := by
  intro pins s σ H xs us Q I r h
  obtain ⟨a, l, rfl, hd, hi, hl, q⟩ := h
  rcases hd with ⟨ks, nn, hd, rt⟩ | ⟨kvs, hd, rt⟩
  · cases rt with
    | nil => exact absurd rfl nn
    | cons h1 h2 _ _ _ =>
      have h3 := hi _ List.mem_cons_self
      exact absurd h2 (no_int_tup h3)
  · obtain ⟨is, e1, e2⟩ : ∃ is : List Int, kvs.map (·.1) = is.map Sum.inl ∧ l.map (·.1) = is.map PyData.int := by
      clear hi hl q hd r
      induction kvs generalizing l with
      | nil => cases rt; exact ⟨[], rfl, rfl⟩
      | cons x r ih =>
        cases rt with
        | cons h4 t =>
          obtain ⟨is, e1, e2⟩ := ih _ t
          exact ⟨_ :: is, by rw [List.map_cons, e1]; rfl, by rw [List.map_cons, e2]; rfl⟩
    have hlen : is.length < 64 := by
      have := congrArg List.length e2
      rw [List.length_map, List.length_map] at this
      omega
    refine call_sortedDI hc pins s σ H _ us Q I r ⟨a, kvs, is, rfl, hd, e1, hlen, fun ys p hp pw hn => ?_⟩
    refine q p _ hn ?_
    have e3 : ys = is.mergeSort fun a b => decide (a ≤ b) := sorted_eq_of (fun a b c h1 h2 => by simp at *; omega) (fun a b => by simp; omega) (fun a b h1 h2 => by simp at *; omega) hp (pw.imp fun h => by simpa using h)
    rw [e2, e3, ← List.map_mergeSort (r := fun a b => decide (a ≤ b)) (fun a _ b _ => ?_)]
    · generalize (is.mergeSort fun a b => decide (a ≤ b)) = l
      clear e2
      induction l with
      | nil => exact .nil
      | cons x r ih => exact .cons (.int x) ih
    · show decide (a ≤ b) = PySem.W.dataLe false (fun i : Int => PyData.int i) a b
      rw [PySem.W.dataLe_int (fun i : Int => i)]
theorem op_bi {X : Cx} (wd : X.w = Wd.w) (hu : X.A.units + 65 < cLine) (hc : X.calm = true) (b : Bi) : CallR X (biV b) (rBi X.K b) := by
  intro pins s σ H xs us Q I r h
  obtain ⟨ds, d, rt, e, q⟩ := h
  unfold biD at e
  split at e
  · cases e
    obtain ⟨x, rfl, r1⟩ := rts1 rt
    obtain ⟨a, ys, rfl, ha, rd⟩ := r1.tuple
    exact call_impl call_len_seq I r ⟨a, ys, rfl, .inr ha, q _ H (Same.refl H) (by rw [rd.length]; exact .int _)⟩
  · cases e
    obtain ⟨x, rfl, r1⟩ := rts1 rt
    obtain ⟨a, ys, rfl, ha, rd⟩ := r1.list
    exact call_impl call_len_seq I r ⟨a, ys, rfl, .inl ha, q _ H (Same.refl H) (by rw [rd.length]; exact .int _)⟩
  · cases e
    obtain ⟨x, rfl, r1⟩ := rts1 rt
    obtain ⟨p, rfl, hd⟩ := r1.dict
    obtain ⟨u, rfl, rx⟩ := vals1 r
    cases rx
    exact D_len I wd hd fun t s' I' => ⟨.int _, H, I', ⟨t, rfl⟩, q _ H (Same.refl H) (.int _)⟩
  · split at e
    · rename_i hs
      cases e
      obtain ⟨x, rfl, r1⟩ := rts1 rt
      have := r1.str
      subst this
      exact call_impl call_len_str I r ⟨_, rfl, hs, q _ H (Same.refl H) (.int _)⟩
    · cases e
  · obtain ⟨bs, e1, e2⟩ := Option.map_eq_some_iff.mp e
    obtain ⟨x, rfl, r1⟩ := rts1 rt
    obtain ⟨a, ys, rfl, ha, rd⟩ := r1.list
    rw [rd.bools e1] at ha
    refine call_impl (cr_all hc) I r ⟨a, bs, rfl, ha, q _ H (Same.refl H) ?_⟩
    rw [← e2]
    exact .bool _
  · obtain ⟨bs, e1, e2⟩ := Option.map_eq_some_iff.mp e
    obtain ⟨x, rfl, r1⟩ := rts1 rt
    obtain ⟨a, ys, rfl, ha, rd⟩ := r1.list
    rw [rd.ints e1] at ha
    refine call_impl (cr_sum hc) I r ⟨a, bs, rfl, ha, q _ H (Same.refl H) ?_⟩
    rw [← e2]
    exact .int _
  · split at e
    · rename_i n ns e1
      cases e
      obtain ⟨x, rfl, r1⟩ := rts1 rt
      obtain ⟨a, ys, rfl, ha, rd⟩ := r1.list
      rw [rd.ints e1] at ha
      refine call_impl (cr_max hc) I r ⟨a, n :: ns, rfl, ha, by simp, fun m hm hle => ?_⟩
      have em : m = maxI n ns := by
        have h1 := hle _ (maxI_mem n ns)
        have h2 := maxI_ge n ns m hm
        omega
      rw [em]
      exact q _ H (Same.refl H) (.int _)
    · cases e
  · cases e
    obtain ⟨x, y, rfl, r1, r2⟩ := rts2 rt
    have := r1.int
    subst this
    have := r2.int
    subst this
    exact call_impl (call_max2 hc) I r ⟨_, _, rfl, q _ H (Same.refl H) (.int _)⟩
  · cases e
    obtain ⟨x, y, rfl, r1, r2⟩ := rts2 rt
    have := r1.int
    subst this
    have := r2.int
    subst this
    exact call_impl (call_min2 hc) I r ⟨_, _, rfl, q _ H (Same.refl H) (.int _)⟩
  · cases e
    obtain ⟨x, rfl, r1⟩ := rts1 rt
    have := r1.int
    subst this
    exact call_impl call_int1 I r (.inl ⟨_, rfl, q _ H (Same.refl H) (.int _)⟩)
  · cases e
    obtain ⟨x, rfl, r1⟩ := rts1 rt
    have := r1.bool
    subst this
    exact call_impl call_int1 I r (.inr ⟨_, rfl, q _ H (Same.refl H) (.int _)⟩)
  · cases e
    obtain ⟨x, rfl, r1⟩ := rts1 rt
    have := r1.int
    subst this
    exact call_impl call_abs I r ⟨_, rfl, q _ H (Same.refl H) (.int _)⟩
  · cases e
    obtain ⟨x, rfl, r1⟩ := rts1 rt
    obtain ⟨a, ys, rfl, ha, rd⟩ := r1.list
    exact call_impl call_tuple_of I r ⟨a, ys, rfl, .inl ⟨ha, fun p hp => q _ _ (same_upd hp) (.tup (SqT.of upd_same) (rd.mono (Keeps.of_same (same_upd hp))))⟩⟩
  · cases e
    obtain ⟨x, rfl, r1⟩ := rts1 rt
    obtain ⟨a, ys, rfl, ha, rd⟩ := r1.tuple
    exact call_impl call_tuple_of I r ⟨a, ys, rfl, .inr ⟨ha, q _ H (Same.refl H) (.tup ha rd)⟩⟩
  · cases e
    obtain ⟨x, rfl, r1⟩ := rts1 rt
    obtain ⟨a, ys, rfl, ha, rd⟩ := r1.list
    exact call_impl call_list_of I r ⟨a, ys, rfl, .inl ha, fun p hp => q _ _ (same_upd hp) ⟨p, _, rfl, hp, upd_same, rd.mono (Keeps.of_same (same_upd hp))⟩⟩
  · cases e
    obtain ⟨x, rfl, r1⟩ := rts1 rt
    obtain ⟨a, ys, rfl, ha, rd⟩ := r1.tuple
    exact call_impl call_list_of I r ⟨a, ys, rfl, .inr ha, fun p hp => q _ _ (same_upd hp) ⟨p, _, rfl, hp, upd_same, rd.mono (Keeps.of_same (same_upd hp))⟩⟩
  · cases e
    obtain ⟨x, rfl, r1⟩ := rts1 rt
    obtain ⟨p, rfl, hd⟩ := r1.dict
    exact call_impl (list_dict hc) I r ⟨p, _, rfl, hd, fun p ys hp hz => q _ _ (same_upd hp) ⟨p, _, rfl, hp, upd_same, hz.mono (Keeps.of_same (same_upd hp))⟩⟩
  · split at e
    · rename_i l hs
      cases e
      obtain ⟨x, rfl, r1⟩ := rts1 rt
      obtain ⟨p, rfl, hd⟩ := r1.dict
      exact call_impl (sorted_dict hc) I r ⟨p, _, rfl, hd, fun d hd => List.all_eq_true.mp hs.1 d hd, hs.2, fun p ys hp hz => q _ _ (same_upd hp) ⟨p, _, rfl, hp, upd_same, hz.mono (Keeps.of_same (same_upd hp))⟩⟩
    · cases e
  · split at e
    · rename_i l hs
      cases e
      obtain ⟨h1, h5, h2, h3, h4⟩ := hs
      obtain ⟨x, rfl, r1⟩ := rts1 rt
      obtain ⟨a, ys, rfl, ha, rd⟩ := r1.listR
      refine call_impl (sorted_dat (by omega)) I r ⟨a, ys, l, rfl, ha, rd, ?_, fun d hd => List.all_eq_true.mp h5 d hd, h2, fun d hd e he => ?_, fun d hd => ?_, fun p zs hp hz => q _ _ (same_upd hp) ⟨p, _, rfl, hp, upd_same, hz.mono (Keeps.of_same (same_upd hp))⟩⟩
      · unfold srtOk at h1
        rw [Bool.or_eq_true, Bool.or_eq_true] at h1
        rcases h1 with (h1 | h1) | h1
        · refine .inl (.inl fun d hd => ?_)
          have := List.all_eq_true.mp h1 d hd
          match d, this with
          | .tuple (x :: r), _ => exact ⟨x, r, rfl⟩
        · refine .inl (.inr fun d hd => ?_)
          have := List.all_eq_true.mp h1 d hd
          match d, this with
          | .int i, _ => exact ⟨i, rfl⟩
        · refine .inr ?_
          split at h1
          · rename_i r
            refine ⟨r, rfl, fun d hd => ?_⟩
            have := List.all_eq_true.mp h1 d hd
            match d, this with
            | .tuple x, _ => exact ⟨x, rfl⟩
          · cases h1
      · exact List.all_eq_true.mp (List.all_eq_true.mp h3 d hd) e he
      · exact of_decide_eq_true (List.all_eq_true.mp h4 d hd)
    · cases e
  · cases e

/-! ### items, slices -/
def rIdx (K : Frag) : R2 := fun x y H Q => ∃ d1 d2 d, RT K H d1 x ∧ RT K H d2 y ∧ idxD d1 d2 = some d ∧ ∀ v, RD K H d v → Q v H
theorem RDs.at {K : Frag} {H : Hp} {ds : List PD} {xs : List V} {i : Int} {d : PD} (r : RDs K H ds xs) (e : atI ds i = some d) : ∃ v, atI xs i = some v ∧ RD K H d v := by
  unfold atI at e ⊢
  obtain ⟨j, h1, h2⟩ := Option.bind_eq_some_iff.mp e
  obtain ⟨v, h3, h4⟩ := r.get h2
  refine ⟨v, ?_, h4⟩
  rw [← r.length, h1]
  exact h3
section
open PySem.Spec PyProof.Rows
theorem ix_dict {X : Cx} (wd : X.w = Wd.w) (hu : X.A.units + 65 < cLine) : IxR X (fun x y H Q => ∃ a l k d, x = .ref a ∧ DRd X.K H a l ∧ RD X.K H k y ∧ dGet l k = some (some d) ∧ ∀ v, RD X.K H d v → Q v H) := by
  intro value slice pins s σ H x y v u Q I rx ry h hs
  obtain ⟨a, l, k, d, rfl, hd, rk, e, q⟩ := h
  cases rx
  have hT : s.TypeIs (.ref a) "dict" := by
    obtain ⟨_, _, o, es, ep, ys, ho, hx, _⟩ := D_raw I hd
    exact ⟨o, ho, hx.1⟩
  unfold subscriptTail
  refine wpAny_bind ?_
  rw [getitemInPython_of_ne hT.not_modules]
  refine wpAny_bind (wpAny_specialOf hT PySem.F.slot_dict_getitem.lookup ?_)
  have fin : wpAny (model X.prog X.w) X.A (subscripted slice false (.ref a) u) (fun r s₃ => wpAny (model X.prog X.w) X.A (letTemporaryGo value (.ref a) r >>= fun _ => pure r) (EP X pins σ Q) X.xe s₃) X.xe s := by
    rw [hs]
    exact wpAny_operating (D_getItem (by omega) I wd hd rk ry e fun v w' s' I' hv rv => wpAny_bind (wpAny_letTemporaryGo (wpAny_pure ⟨v, H, I', rv, q v hv⟩)))
  first
    | exact wpAny_pure (wpAny_bind fin)
    | exact wpAny_bind (wpAny_pure (wpAny_bind fin))
    | exact wpAny_bind fin
end
theorem op_idx {X : Cx} (wd : X.w = Wd.w) (hu : X.A.units + 65 < cLine) : IxR X (rIdx X.K) := by
  intro value slice pins s σ H x y v u Q I rx ry h hs
  obtain ⟨d1, d2, d, r1, r2, e, q⟩ := h
  unfold idxD at e
  split at e
  · obtain ⟨a, ys, rfl, ha, rd⟩ := r1.tuple
    have := r2.int
    subst this
    obtain ⟨v, h1, h2⟩ := rd.at e
    exact ix_tup value slice pins s σ H _ _ _ _ Q I rx ry ⟨a, ys, _, v, rfl, rfl, ha, h1, q v h2⟩ hs
  · obtain ⟨a, ys, rfl, ha, rd⟩ := r1.list
    have := r2.int
    subst this
    obtain ⟨v, h1, h2⟩ := rd.at e
    exact ix_list value slice pins s σ H _ _ _ _ Q I rx ry ⟨a, ys, _, v, rfl, rfl, ha, h1, q v h2⟩ hs
  · obtain ⟨o, e1, e2⟩ := Option.bind_eq_some_iff.mp e
    obtain ⟨a, rfl, hd⟩ := r1.dict
    exact ix_dict wd hu value slice pins s σ H _ _ _ _ Q I rx ry ⟨a, _, _, _, rfl, hd, r2.key e1, by rw [e1]; exact congrArg some e2, q⟩ hs
  · cases e
def rSlc (K : Frag) : V → Option Int → Option Int → Hp → VK → Prop := fun x lo hi H Q => ∃ d1 d, RT K H d1 x ∧ slcD d1 lo hi = some d ∧ ∀ v H', Same H H' → NewD K H H' d v → Q v H'
theorem op_slc {X : Cx} : SlR X (rSlc X.K) := by
  intro pins s σ H x v vl vu lo hi sl Q I rx hs pl pu h
  obtain ⟨d1, d, r1, e, q⟩ := h
  unfold slcD at e
  split at e
  · cases e
    obtain ⟨p, ys, rfl, hp, rd⟩ := r1.tuple
    refine sl_tupA pins s σ H _ _ _ _ lo hi sl Q I rx hs pl pu ⟨p, ys, rfl, hp, fun hw => ?_, fun _ z hz => ?_⟩
    · refine q _ H (Same.refl H) (.tup hp ?_)
      have hl := rd.length
      unfold cutD
      rw [hl, hw.1, hw.2, List.drop_zero, ← hl, Nat.sub_zero, List.take_length]
      exact rd
    · exact q _ _ (same_upd hz) (.tup (SqT.of upd_same) ((rd.cut lo hi).mono (Keeps.of_same (same_upd hz))))
  · cases e
    obtain ⟨p, ys, rfl, hp, rd⟩ := r1.list
    exact sl_list pins s σ H _ _ _ _ lo hi sl Q I rx hs pl pu ⟨p, ys, rfl, hp, fun z hz => q _ _ (same_upd hz) ⟨z, _, rfl, hz, upd_same, (rd.cut lo hi).mono (Keeps.of_same (same_upd hz))⟩⟩
  · cases e

/-! ### isinstance -/
def tyN : Ty → String
  | .int => "int"
  | .bool => "bool"
  | .str => "str"
  | .tuple => "tuple"
  | .list => "list"
  | .dict => "dict"
/-- the name of the type of data -/
def tyD : PD → String
  | .none => "NoneType"
  | .bool _ => "bool"
  | .int _ => "int"
  | .str _ => "str"
  | .tuple _ => "tuple"
  | .list _ => "list"
  | .dict _ => "dict"
inductive TyY (K : Frag) (H : Hp) : V → Value → Prop
  | x {v : V} {t : Value} : TyX K H v t → TyY K H v t
  | d {a : Addr} {l : List (PD × PD)} : DRd K H a l → TyY K H (.ref a) (.type "dict")
theorem kit_ofY {X : Cx} {pins : List (Addr × Obj)} {σ : L2.St} {H : Hp} {s : Shared} {x : V} {u t : Value} (I : Inv X pins σ H s) (rx : RelV x u) (ty : TyY X.K H x t) : ∃ P : Heap → Prop, PySem.W.KitX X.K u t P ∧ P s.heap ∧ u ≠ .builtin "__main__.__loader__#opaque" := by
  cases ty with
  | x h => exact kit_of I rx h
  | d h =>
    cases rx
    obtain ⟨_, _, o, es, ep, ys, ho, hx, _⟩ := D_raw I h
    exact ⟨_, PySem.W.kitx_dict, ⟨o, ho, hx.1⟩, fun z => nomatch z⟩
def rIsiY (K : Frag) : List V → Hp → VK → Prop := fun xs H Q => ∃ (x c : V) (t u : Value) (b : Bool), xs = [x, c] ∧ ClsV c u ∧ TyY K H x t ∧ PySem.W.kitOne K t u = some b ∧ Q (.bl b) H
def rIsiTY (K : Frag) : List V → Hp → VK → Prop := fun xs H Q => ∃ (x : V) (tp : Addr) (cs : List V) (t : Value) (us : List Value) (b : Bool), xs = [x, .ref tp] ∧ H tp = some (.tup cs) ∧ Paired ClsV cs us ∧ TyY K H x t ∧ PySem.W.kitAny K t us = some b ∧ Q (.bl b) H
theorem call_isiY {X : Cx} : CallR X (.builtin "isinstance") (rIsiY X.K) := by
  intro pins s σ H xs us Q I r h
  obtain ⟨x, c, t, u, b, rfl, k, ty, e, q⟩ := h
  obtain ⟨u1, u2, rfl, r1, r2⟩ := vals2 r
  have e2 := k.eq r2
  subst e2
  obtain ⟨P, Z, p, hx⟩ := kit_ofY I r1 ty
  exact PySem.W.kia_one Z I.kIn p e hx fun tk => ⟨.bl b, H, I.tok tk, rfl, q⟩
theorem call_isiTY {X : Cx} : CallR X (.builtin "isinstance") (rIsiTY X.K) := by
  intro pins s σ H xs us Q I r h
  obtain ⟨x, tp, cs, t, ws, b, rfl, hT, k, ty, e, q⟩ := h
  obtain ⟨u1, u2, rfl, r1, r2⟩ := vals2 r
  cases (show u2 = Value.ref tp from r2)
  obtain ⟨P, Z, p, hx⟩ := kit_ofY I r1 ty
  obtain ⟨_, its, rv, o, h1, h2, n, h3⟩ := (show ObjOk X.prog X.w H s.heap tp (.tup cs) from I.hok tp _ hT)
  have e3 := ClsV.all k rv
  subst e3
  obtain ⟨oc, od, dt, sl⟩ := o
  simp only at h2 h3
  subst h2 h3
  exact PySem.W.kia_tup Z I.kIn p h1 e hx fun tk => ⟨.bl b, H, I.tok tk, rfl, q⟩
theorem RT.ty {K : Frag} {H : Hp} {d : PD} {v : V} (h : RT K H d v) : TyY K H v (.type (tyD d)) := by
  rcases h with h | ⟨a, xs, ds, rfl, rfl, h, _⟩ | ⟨a, l, rfl, rfl, h⟩
  · cases h with
    | none => exact .x (.base .non)
    | bool b => exact .x (.base (.bl b))
    | int b => exact .x (.base (.int b))
    | str b => exact .x (.base (.str b))
    | lst h _ => exact .x (.base (.frz h))
    | dT nn h r => exact .d (.inl ⟨_, nn, .inr ⟨_, h⟩, r⟩)
    | dI h r => exact .d (.inr ⟨_, .inr ⟨_, h⟩, r⟩)
    | tup h _ =>
      rcases h with (h | ⟨o, h⟩) | ⟨o, its, n, h1, h2, _⟩
      · exact .x (.base (.tup h))
      · exact .x (.fTuple h)
      · exact .x (.kTuple h1 h2)
  · exact .x (.base (.lst h))
  · exact .d h.rd
theorem kit_all : ∀ (d : PD) (t : Ty), kitB (tyD d) (tyN t) = some (isTy d t) := by
  intro d t
  cases d <;> cases t <;> (simp only [tyD, tyN, isTy]; decide +kernel)
theorem kit_any {K : Frag} (d : PD) : ∀ ts : List Ty, PySem.W.kitAny K (.type (tyD d)) (ts.map fun t => Value.type (tyN t)) = some (ts.any (isTy d))
  | [] => rfl
  | t :: ts => by
    refine kitAny_cons (b := isTy d t) (kit_ty (kit_all d t)) (fun h => ?_) fun h => ?_
    · rw [kit_any d ts, List.any_cons, h, Bool.false_or]
    · rw [List.any_cons, h, Bool.true_or]
end Er

set_option Elab.async false
set_option linter.all false
set_option maxRecDepth 100000
set_option maxHeartbeats 2000000
/-! C6: expressions: the hand layer's rules, read by meaning. -/
namespace Er
open PySem L2
variable [Wd]
section
variable {X : Cx} {σ0 : L2.St} {E : Exc → Hp → Prop} {pos : Pos}
/-- the value of an outcome, read now -/
theorem OVok.rt {σ : L2.St} {ρ : Rho} {H : Hp} {S : Addr → Prop} {x : OV} {d : PD} {v : V} (r : Rep X.K σ0 σ ρ H S) (h : OVok X.K σ H x v) (e : x.get ρ = some d) : RT X.K H d v := by
  cases x with
  | d y =>
    cases e
    exact .inl h
  | s i =>
    obtain ⟨ob, e1, e3⟩ := Option.bind_eq_some_iff.mp e
    obtain ⟨W, rw, _⟩ := r
    obtain ⟨a, e2, ro⟩ := rw.obj i ob e1
    have h : σ[i]? = some (some v) := h
    rw [e2] at h
    cases h
    exact ro.rt e3
theorem OVok.mono {σ : L2.St} {H H' : Hp} {x : OV} {v : V} (k : Keeps H H') (h : OVok X.K σ H x v) : OVok X.K σ H' x v := by
  cases x with
  | d y => exact RD.mono k h
  | s i => exact h
theorem FRok.new {S S' : Addr → Prop} {H H1 H' : Hp} {d : PD} {v : V} (st : Step S H S' H1) (hs : ∀ p, H1 p = none → ¬ S' p) (n : NewD X.K H1 H' d v) : FRok X.K S H S' H' (.d d) v := by
  cases d with
  | list l =>
    obtain ⟨p, xs, rfl, hp, h1, h2⟩ := n
    exact ⟨p, xs, rfl, h1, h2, hs p hp, st.free hp⟩
  | dict l =>
    obtain ⟨p, rfl, hp, h1⟩ := n
    exact ⟨p, rfl, h1, hs p hp, st.free hp⟩
  | none => exact n
  | bool _ => exact n
  | int _ => exact n
  | str _ => exact n
  | tuple _ => exact n

theorem se_c {e : Expr} {d : PD} {v : V} (h : PE X e (tC v)) (hd : ∀ H, RD X.K H d v) : PE X e (tE X.K σ0 E fun ρ => .ok (.d d) ρ) := by
  refine pe_conseq h fun σ H Q ⟨ρ, S, r, q⟩ => ?_
  exact q.ok r v (hd H)
theorem se_v {i : Nat} {x : Str} (hN : X.N[i]? = some x) (hv : Vis X.env.scope x) (hd : (x == ("__debug__" : Str)) = false) (hcd : (x == ("__classdict__" : Str)) = false) :
    PE X (.Name x pos) (tE X.K σ0 E fun ρ => match ρ[i]? with
      | some (.d x) => .ok (.d x) ρ
      | _ => .stuck) := by
  refine pe_conseq (pe_var hN hv hd hcd) fun σ H Q ⟨ρ, S, r, q⟩ => ?_
  try dsimp only at q
  split at q
  · rename_i d e
    obtain ⟨W, rw, _⟩ := id r
    obtain ⟨v, e1, e2⟩ := rw.dat i d e
    exact ⟨v, e1, q.ok r v e2⟩
  · exact q.elim
theorem se_s {i : Nat} {x : Str} (hN : X.N[i]? = some x) (hv : Vis X.env.scope x) (hd : (x == ("__debug__" : Str)) = false) (hcd : (x == ("__classdict__" : Str)) = false) :
    PE X (.Name x pos) (tE X.K σ0 E fun ρ => match objAt ρ i with
      | some _ => .ok (.s i) ρ
      | none => .stuck) := by
  refine pe_conseq (pe_var hN hv hd hcd) fun σ H Q ⟨ρ, S, r, q⟩ => ?_
  try dsimp only at q
  split at q
  · rename_i ob e
    obtain ⟨W, rw, _⟩ := id r
    obtain ⟨a, e1, e2⟩ := rw.obj i ob e
    exact ⟨_, e1, q.ok r _ e1⟩
  · exact q.elim

/-! two operands and an operator of values -/
theorem se_two {e : Expr} {fa fb : Rho → R OV} {r : R2} {g : PD → PD → Option PD} (h : PE X e (tOp r (tE X.K σ0 E fa) (tE X.K σ0 E fb)))
    (hr : ∀ x y d1 d2 d H Q, RT X.K H d1 x → RT X.K H d2 y → g d1 d2 = some d → (∀ v H', Same H H' → NewD X.K H H' d v → Q v H') → r x y H Q) :
    PE X e (tF X.K σ0 E fun ρ => (fa ρ).bind fun x ρ => (fb ρ).bind fun y ρ => match x.get ρ, y.get ρ with
      | some x, some y => ofO ((g x y).map .d) ρ
      | _, _ => .stuck) := by
  refine pe_conseq h fun σ H Q ⟨ρ, S, rp, q⟩ => ?_
  refine ⟨ρ, S, rp, q.bind.mono fun x ρ1 S1 H1 r1 s1 q1 v1 o1 => ?_⟩
  refine ⟨ρ1, S1, r1, q1.bind.mono fun y ρ2 S2 H2 r2 s2 q2 v2 o2 => ?_⟩
  try dsimp only at q2
  split at q2
  · rename_i d1 d2 e1 e2
    obtain ⟨z, e3, _, q3⟩ := q2.ofO r2
    obtain ⟨d, e4, rfl⟩ := Option.map_eq_some_iff.mp e3
    refine hr v1 v2 d1 d2 d H2 Q ((o1.mono (r1.keeps s2)).rt r2 e1) (o2.rt r2 e2) e4 fun v H3 sm nd => ?_
    exact q3 S2 H3 (r2.same sm) (Step.same sm) v (FRok.new ((s1.trans s2)) (fun p hp => r2.notin hp) nd)
  · exact q2.elim
theorem se_bin {o : BOp} {a b : Expr} {fa fb : Rho → R OV} (ha : PE X a (tE X.K σ0 E fa)) (hb : PE X b (tE X.K σ0 E fb)) :
    PE X (.BinOp a (opOf o) b pos) (tF X.K σ0 E fun ρ => (fa ρ).bind fun x ρ => (fb ρ).bind fun y ρ => match x.get ρ, y.get ρ with
      | some x, some y => ofO ((binD o x y).map .d) ρ
      | _, _ => .stuck) :=
  se_two (pe_op (op_bin o) ha hb) fun x y d1 d2 d H Q r1 r2 e q => ⟨d1, d2, d, r1, r2, e, q⟩
/-- .. whose answer is data that stood already, or flat -/
theorem se_twoE {e : Expr} {fa fb : Rho → R OV} {r : R2} {g : PD → PD → Option PD} (h : PE X e (tOp r (tE X.K σ0 E fa) (tE X.K σ0 E fb)))
    (hr : ∀ x y d1 d2 d H Q, RT X.K H d1 x → RT X.K H d2 y → g d1 d2 = some d → (∀ v, RD X.K H d v → Q v H) → r x y H Q) :
    PE X e (tE X.K σ0 E fun ρ => (fa ρ).bind fun x ρ => (fb ρ).bind fun y ρ => match x.get ρ, y.get ρ with
      | some x, some y => ofO ((g x y).map .d) ρ
      | _, _ => .stuck) := by
  refine pe_conseq h fun σ H Q ⟨ρ, S, rp, q⟩ => ?_
  refine ⟨ρ, S, rp, q.bind.mono fun x ρ1 S1 H1 r1 s1 q1 v1 o1 => ?_⟩
  refine ⟨ρ1, S1, r1, q1.bind.mono fun y ρ2 S2 H2 r2 s2 q2 v2 o2 => ?_⟩
  try dsimp only at q2
  split at q2
  · rename_i d1 d2 e1 e2
    obtain ⟨z, e3, q3, _⟩ := q2.ofO r2
    obtain ⟨d, e4, rfl⟩ := Option.map_eq_some_iff.mp e3
    exact hr v1 v2 d1 d2 d H2 Q ((o1.mono (r1.keeps s2)).rt r2 e1) (o2.rt r2 e2) e4 q3
  · exact q2.elim
theorem se_cmp {o : COp} {a b : Expr} {fa fb : Rho → R OV} (wd : X.w = Wd.w) (hu : X.A.units + 65 < cLine) (hm : behindInMarks (cmOf o) b = false) (ha : PE X a (tE X.K σ0 E fa)) (hb : PE X b (tE X.K σ0 E fb)) :
    PE X (.Compare a [cmOf o] [b] pos) (tE X.K σ0 E fun ρ => (fa ρ).bind fun x ρ => (fb ρ).bind fun y ρ => match x.get ρ, y.get ρ with
      | some x, some y => ofO ((cmpD o x y).map fun b => .d (.bool b)) ρ
      | _, _ => .stuck) := by
  have := se_twoE (σ0 := σ0) (E := E) (g := fun x y => (cmpD o x y).map PyData.bool) (pe_cmpR (pos := pos) (op_cmp wd hu o) ha hb hm) fun x y d1 d2 d H Q r1 r2 e q => by
    obtain ⟨b, e1, rfl⟩ := Option.map_eq_some_iff.mp e
    exact ⟨d1, d2, b, r1, r2, e1, q _ (.bool b)⟩
  simp only [Option.map_map] at this
  exact this
theorem se_idx {a b : Expr} {fa fb : Rho → R OV} (wd : X.w = Wd.w) (hu : X.A.units + 65 < cLine) (hp : PlainIx b) (ha : PE X a (tE X.K σ0 E fa)) (hb : PE X b (tE X.K σ0 E fb)) :
    PE X (.Subscript a b pos) (tE X.K σ0 E fun ρ => (fa ρ).bind fun x ρ => (fb ρ).bind fun y ρ => match x.get ρ, y.get ρ with
      | some x, some y => ofO ((idxD x y).map .d) ρ
      | _, _ => .stuck) :=
  se_twoE (pe_ix (op_idx wd hu) ha hb hp) fun x y d1 d2 d H Q r1 r2 e q => ⟨d1, d2, d, r1, r2, e, q⟩

/-! tests -/
theorem st_val {e : Expr} {f : Rho → R OV} (h : PE X e (tE X.K σ0 E f)) (he : ∀ whole, isTrue e X.env whole = (do let v ← whole; standAt e.pos; holding [v] (truthy v))) : PT X e (tB X.K σ0 E f) := by
  refine pt_conseq (pt_val h he) fun σ H Q ⟨ρ, S, r, q⟩ => ?_
  refine ⟨ρ, S, r, q.mono fun x ρ1 S1 H1 r1 s1 q1 v o => ?_⟩
  obtain ⟨b, e1, q2⟩ := q1
  match x, e1 with
  | .d (.bool b'), e1 =>
    cases e1
    have o : RD X.K H1 (.bool b) v := o
    cases o
    exact ⟨b, rfl, q2⟩
theorem st_cmp {o : COp} {a b : Expr} {fa fb : Rho → R OV} (wd : X.w = Wd.w) (hu : X.A.units + 65 < cLine) (hm : behindInMarks (cmOf o) b = false) (ha : PE X a (tE X.K σ0 E fa)) (hb : PE X b (tE X.K σ0 E fb)) :
    PT X (.Compare a [cmOf o] [b] pos) (tB X.K σ0 E fun ρ => (fa ρ).bind fun x ρ => (fb ρ).bind fun y ρ => match x.get ρ, y.get ρ with
      | some x, some y => ofO ((cmpD o x y).map fun b => .d (.bool b)) ρ
      | _, _ => .stuck) := by
  refine pt_conseq (pt_cmpR (pos := pos) (op_cmp wd hu o) ha hb hm) fun σ H Q ⟨ρ, S, rp, q⟩ => ?_
  refine ⟨ρ, S, rp, q.bind.mono fun x ρ1 S1 H1 r1 s1 q1 v1 o1 => ?_⟩
  refine ⟨ρ1, S1, r1, q1.bind.mono fun y ρ2 S2 H2 r2 s2 q2 v2 o2 => ?_⟩
  try dsimp only at q2
  split at q2
  · rename_i d1 d2 e1 e2
    obtain ⟨z, e3, q3, _⟩ := q2.ofO r2
    obtain ⟨d, e4, rfl⟩ := Option.map_eq_some_iff.mp e3
    obtain ⟨b, eb, q4⟩ := q3
    cases eb
    exact ⟨d1, d2, _, (o1.mono (r1.keeps s2)).rt r2 e1, o2.rt r2 e2, e4, _, rfl, q4⟩
  · exact q2.elim
/-- a value that is a bool, from the test -/
theorem se_not {a : Expr} {fa : Rho → R OV} (ha : PE X a (tE X.K σ0 E fa)) : PE X (.UnaryOp .Not a pos) (tE X.K σ0 E fun ρ => (fa ρ).bind fun x ρ => match needB x with
    | some b => .ok (.d (.bool (!b))) ρ
    | none => .stuck) := by
  refine pe_conseq (pe_not ha) fun σ H Q ⟨ρ, S, r, q⟩ => ?_
  refine ⟨ρ, S, r, q.bind.mono fun x ρ1 S1 H1 r1 s1 q1 v o => ?_⟩
  match x, o, q1 with
  | .d (.bool b), o, q1 =>
    have o : RD X.K H1 (.bool b) v := o
    cases o
    exact ⟨b, rfl, q1.ok r1 _ (.bool _)⟩
theorem st_not {a : Expr} {fa : Rho → R OV} (ha : PT X a (tB X.K σ0 E fa)) : PT X (.UnaryOp .Not a pos) (tB X.K σ0 E fun ρ => (fa ρ).bind fun x ρ => match needB x with
    | some b => .ok (.d (.bool (!b))) ρ
    | none => .stuck) := by
  refine pt_conseq (pt_not ha) fun σ H Q ⟨ρ, S, r, q⟩ => ?_
  refine ⟨ρ, S, r, q.bind.mono fun x ρ1 S1 H1 r1 s1 q1 => ?_⟩
  try dsimp only at q1
  split at q1
  · rename_i b e
    obtain ⟨b', e', q'⟩ := q1.ok r1
    cases e'
    exact ⟨b, e, q'⟩
  · exact q1.elim
end
end Er

set_option Elab.async false
set_option linter.all false
set_option maxRecDepth 100000
set_option maxHeartbeats 2000000
/-! C7: freezing within readings; lists of expressions; displays; and, or, chains, calls. -/
namespace Er
open PySem L2
variable [Wd]
/-- P holds behind some freezing of lists -/
inductive Fz (P : Hp → Prop) : Hp → Prop
  | here {H : Hp} : P H → Fz P H
  | frz {H : Hp} {a : Addr} {u : HO} : H a = some u → Frzs u → (∀ o, Fz P (upd H a (.frz o u))) → Fz P H
theorem inv_fz {X : Cx} {pins : List (Addr × Obj)} {σ : L2.St} {s : Shared} {P : Hp → Prop} : ∀ {H : Hp}, Fz P H → Inv X pins σ H s → ∃ H', Inv X pins σ H' s ∧ P H' := by
  intro H h
  induction h with
  | here p => exact fun I => ⟨_, I, p⟩
  | frz h hu _ ih =>
    intro I
    obtain ⟨o, I2⟩ := inv_frz I h hu
    exact ih o I2
theorem pe_fz {X : Cx} {e : Expr} {t : TE} (h : PE X e t) : PE X e (fun σ H Q => t σ H fun v H1 => Fz (Q v) H1) := by
  refine ⟨fun pins s σ H Q I q => thn (h.run pins s σ H _ I q) fun u s1 ⟨v, H1, I1, r1, q1⟩ => ?_⟩
  obtain ⟨H2, I2, q2⟩ := inv_fz q1 I1
  exact ⟨v, H2, I2, r1, q2⟩
theorem pa_fz {X : Cx} {e : List Expr} {t : TA} (h : PA X e t) : PA X e (fun σ H Q => t σ H fun v H1 => Fz (Q v) H1) := by
  refine ⟨fun pos pins s σ H Q I q => thn (h.run pos pins s σ H _ I q) fun u s1 ⟨v, H1, I1, r1, q1⟩ => ?_⟩
  obtain ⟨H2, I2, q2⟩ := inv_fz q1 I1
  exact ⟨v, H2, I2, r1, q2⟩
section
variable {K : Frag} {σ0 : L2.St} {E : Exc → Hp → Prop} {σ : L2.St}
/-- these objects are frozen -/
def FrzAll (L : List Addr) (H H' : Hp) : Prop := (∀ b, b ∉ L → H' b = H b) ∧ ∀ b ∈ L, ∃ u o, H b = some u ∧ Frzs u ∧ H' b = some (.frz o u)
theorem fz_all {P : Hp → Prop} : ∀ {L : List Addr} {H : Hp}, L.Nodup → (∀ b ∈ L, ∃ u, H b = some u ∧ Frzs u) → (∀ H', FrzAll L H H' → P H') → Fz P H
  | [], H, _, _, q => .here (q H ⟨fun _ _ => rfl, fun _ h => nomatch h⟩)
  | a :: L, H, nd, hf, q => by
    obtain ⟨u, h1, h2⟩ := hf a (by simp)
    obtain ⟨n1, n2⟩ := List.nodup_cons.mp nd
    refine .frz h1 h2 fun o => fz_all n2 (fun b hb => ?_) fun H' ⟨g1, g2⟩ => q H' ⟨fun b hb => ?_, fun b hb => ?_⟩
    · obtain ⟨v, h3, h4⟩ := hf b (by simp [hb])
      exact ⟨v, by rw [upd_ne (fun z : b = a => n1 (by rw [← z]; exact hb))]; exact h3, h4⟩
    · simp only [List.mem_cons, not_or] at hb
      rw [g1 b hb.2, upd_ne hb.1]
    · rcases List.mem_cons.mp hb with e | hb
      · subst e
        exact ⟨u, o, h1, h2, by rw [g1 _ n1, upd_same]⟩
      · obtain ⟨v, o', h3, h4, h5⟩ := g2 b hb
        exact ⟨v, o', by rw [upd_ne (fun z : b = a => n1 (by rw [← z]; exact hb))] at h3; exact h3, h4, h5⟩
theorem frzs_dlO (a : Addr) (ks : List KE3) : Frzs (dlO a ks) := by
  cases ks with
  | nil => exact frzs_dK []
  | cons x r => exact frzs_dtO a _
theorem RO.frzs {H : Hp} {a : Addr} {x : OB} {L : List Addr} (h : RO K H a x L) : L.Nodup ∧ ∀ b ∈ L, ∃ u, H b = some u ∧ Frzs u := by
  cases x with
  | lst l =>
    obtain ⟨rfl, xs, h, _⟩ := h
    refine ⟨by simp, fun b hb => ?_⟩
    have : b = a := by simpa using hb
    subst this
    exact ⟨_, h, frzs_lst xs⟩
  | dct l =>
    obtain ⟨rfl, h⟩ := h
    refine ⟨by simp, fun b hb => ?_⟩
    have : b = a := by simpa using hb
    subst this
    obtain ⟨u, h1, h2, _⟩ := do_frz h
    exact ⟨u, h1, h2⟩
  | dctL l =>
    obtain ⟨ks, ps, rfl, nd, h, r⟩ := h
    refine ⟨nd, fun b hb => ?_⟩
    rcases List.mem_cons.mp hb with e | hb
    · rw [e]; exact ⟨_, h, frzs_dlO a ks⟩
    · obtain ⟨xs, e⟩ := r.at b hb
      exact ⟨_, e, frzs_lst xs⟩
theorem RLt.frz {H H' : Hp} (k : Keeps H H') : ∀ {l : List (PD × List PD)} {ks : List KE3} {ps : List Addr}, RLt K H l ks ps → (∀ b ∈ ps, ∃ u o, H b = some u ∧ Frzs u ∧ H' b = some (.frz o u)) → RDt K H' (l.map fun p => (p.1, .list p.2)) ks
  | _, _, _, .nil, _ => .nil
  | _, _, _, .cons (p := p) h1 h2 h3 h4 h5 t, e => by
    obtain ⟨u, o, e1, _, e2⟩ := e p (by simp)
    rw [h4] at e1
    cases e1
    exact .cons h1 h2 (h3.mono k) (.lst e2 (h5.mono k)) (t.frz k fun b hb => e b (by simp [hb]))
theorem RO.toD {H H' : Hp} {a : Addr} {x : OB} {L : List Addr} (h : RO K H a x L) (k : Keeps H H') (f : FrzAll L H H') : RD K H' x.toD (.ref a) := by
  obtain ⟨_, f⟩ := f
  cases x with
  | lst l =>
    obtain ⟨rfl, xs, h, r⟩ := h
    obtain ⟨u, o, e1, _, e2⟩ := f a (by simp)
    rw [h] at e1
    cases e1
    exact .lst e2 (r.mono k)
  | dct l =>
    obtain ⟨rfl, h⟩ := h
    obtain ⟨u, o, e1, _, e2⟩ := f a (by simp)
    rcases h with ⟨ks, nn, h, r⟩ | ⟨kvs, h, r⟩
    · rw [h] at e1
      cases e1
      exact .dT nn e2 (r.mono k)
    · rw [h] at e1
      cases e1
      exact .dI e2 (r.mono k)
  | dctL l =>
    obtain ⟨ks, ps, rfl, nd, h, r⟩ := h
    obtain ⟨u, o, e1, _, e2⟩ := f a (by simp)
    rw [h] at e1
    cases e1
    have r2 := r.frz k fun b hb => f b (by simp [hb])
    cases ks with
    | nil =>
      cases r with
      | nil => exact .dI e2 .nil
    | cons x ks => exact .dT (by simp) e2 r2
/-- the object of a slot is frozen -/
theorem Rep.frz {ρ : Rho} {H : Hp} {S : Addr → Prop} {i : Nat} {ob : OB} (r : Rep K σ0 σ ρ H S) (hi : ρ[i]? = some (SV.o ob)) :
    ∃ a, σ[i]? = some (some (.ref a)) ∧ ∀ P : Hp → Prop, (∀ H' S', Rep K σ0 σ (ρ.set i (.d ob.toD)) H' S' → Step S H S' H' → RD K H' ob.toD (.ref a) → P H') → Fz P H := by
  obtain ⟨W, rw, eS⟩ := r
  have hob : objAt ρ i = some ob := by unfold objAt; rw [hi]
  obtain ⟨a, e1, ro⟩ := rw.obj i ob hob
  obtain ⟨nd, fr⟩ := ro.frzs
  refine ⟨a, e1, fun P q => fz_all nd fr fun H' fa => ?_⟩
  have inS : ∀ b ∈ W i, S b := fun b hb => (eS b).mpr ⟨i, by rw [hob]; rfl, hb⟩
  have offS : ∀ b, b ∉ W i → H' b = H b := fa.1
  have kp : Keeps H H' := fun b u hb su => by
    by_cases h : b ∈ W i
    · obtain ⟨o, e, n⟩ := ro.mut h
      rw [hb] at e
      cases e
      rw [n] at su
      cases su
    · rw [offS b h]
      exact hb
  have rdn : RD K H' ob.toD (.ref a) := ro.toD kp fa
  have hil : i < ρ.length := (List.getElem?_eq_some_iff.mp hi).1
  have oset : ∀ j, j ≠ i → objAt (ρ.set i (.d ob.toD)) j = objAt ρ j := fun j hj => by
    unfold objAt
    rw [List.getElem?_set_ne (Ne.symm hj)]
  have oi : objAt (ρ.set i (.d ob.toD)) i = none := by
    unfold objAt
    rw [List.getElem?_set_self hil]
  refine q H' (SOf (ρ.set i (.d ob.toD)) W) ⟨W, ⟨by rw [List.length_set]; exact rw.len, fun j x hx => ?_, fun j x hx => ?_, fun j x hx => ?_, fun j k b hjk h1 h2 h3 h4 => ?_⟩, fun b => Iff.rfl⟩ ⟨fun b u hb nb => ?_, fun b hb => ?_⟩ rdn
  · by_cases hj : j = i
    · subst hj
      rw [List.getElem?_set_self hil] at hx
      cases hx
      exact ⟨_, e1, rdn⟩
    · rw [List.getElem?_set_ne (Ne.symm hj)] at hx
      obtain ⟨v, h1, h2⟩ := rw.dat j x hx
      exact ⟨v, h1, h2.mono kp⟩
  · by_cases hj : j = i
    · subst hj
      rw [oi] at hx
      cases hx
    · rw [oset j hj] at hx
      obtain ⟨c, h1, h2⟩ := rw.obj j x hx
      refine ⟨c, h1, h2.mono kp fun b hb u hu => ?_⟩
      rw [offS b (fun z => rw.sep j i b hj (by rw [hx]; rfl) (by rw [hob]; rfl) hb z)]
      exact hu
  · by_cases hj : j = i
    · subst hj
      rw [List.getElem?_set_self hil] at hx
      cases hx
    · rw [List.getElem?_set_ne (Ne.symm hj)] at hx
      exact rw.bor j x hx
  · by_cases hj : j = i
    · subst hj
      rw [oi] at h1
      cases h1
    · by_cases hk : k = i
      · subst hk
        rw [oi] at h2
        cases h2
      · rw [oset j hj] at h1
        rw [oset k hk] at h2
        exact rw.sep j k b hjk h1 h2 h3 h4
  · rw [offS b (fun z => nb (inS b z))]
    exact hb
  · obtain ⟨j, h1, h2⟩ := hb
    by_cases hj : j = i
    · subst hj
      rw [oi] at h1
      cases h1
    · rw [oset j hj] at h1
      exact .inl ((eS b).mpr ⟨j, h1, h2⟩)
/-- what was made here is frozen -/
theorem tF_of {f : Rho → R OV} {H : Hp} {Q : VK} (q : tE K σ0 E f σ H Q) : tF K σ0 E f σ H fun v H1 => Fz (Q v) H1 := by
  obtain ⟨ρ, S, r, q⟩ := q
  refine ⟨ρ, S, r, ?_⟩
  revert q
  cases hf : f ρ with
  | stuck => exact fun q => q
  | exc e ρ' => exact fun q => q
  | ok x ρ' =>
    intro q S' H' r' st v fr
    match x, fr with
    | .d (.list l), fr =>
      obtain ⟨p, xs, rfl, hp, rs, n, fs⟩ := fr
      refine .frz hp (frzs_lst xs) fun o => .here ?_
      have kp : Keeps H' (upd H' p (.frz o (.lst xs))) := fun b u hb su => by
        rw [upd_ne (fun z => by
          rw [z, hp] at hb
          cases hb
          cases su)]
        exact hb
      refine q S' _ (r'.grow kp fun b u hb q' => ?_) ⟨fun b u hb nb => ?_, st.own⟩ _ (.lst upd_same (rs.mono kp))
      · rw [upd_ne (fun z => n (by rw [← z]; exact hb))]
        exact q'
      · rw [upd_ne (fun z => by
          rcases fs with fs | fs
          · exact nb (by rw [z]; exact fs)
          · rw [z, fs] at hb
            cases hb)]
        exact st.keep b u hb nb
    | .d (.dict l), fr =>
      obtain ⟨p, rfl, hd, n, fs⟩ := fr
      obtain ⟨u, hp, hu, nu, f⟩ := do_frz hd
      refine .frz hp hu fun o => .here ?_
      have kp : Keeps H' (upd H' p (.frz o u)) := keeps_upd hp nu
      refine q S' _ (r'.grow kp fun b u hb q' => ?_) ⟨fun b u hb nb => ?_, st.own⟩ _ (f o)
      · rw [upd_ne (fun z => n (by rw [← z]; exact hb))]
        exact q'
      · rw [upd_ne (fun z => by
          rcases fs with fs | fs
          · exact nb (by rw [z]; exact fs)
          · rw [z, fs] at hb
            cases hb)]
        exact st.keep b u hb nb
    | .d .none, fr => exact .here (q S' H' r' st v fr)
    | .d (.bool _), fr => exact .here (q S' H' r' st v fr)
    | .d (.int _), fr => exact .here (q S' H' r' st v fr)
    | .d (.str _), fr => exact .here (q S' H' r' st v fr)
    | .d (.tuple _), fr => exact .here (q S' H' r' st v fr)
/-- an outcome goes out -/
theorem esc_ok {ρ : Rho} {H : Hp} {S : Addr → Prop} {x : OV} {v : V} {P : Prop} (r : Rep K σ0 σ ρ H S) (o : OVok K σ H x v)
    (q : After K σ0 E σ S H (esc x ρ) fun y ρ' S' H' => ρ' = ρ → S' = S → H' = H → RD K H y v → P) : P := by
  cases x with
  | d y => exact q.ok r rfl rfl rfl o
  | s i => exact q.elim
end
section
variable (K : Frag) (σ0 : L2.St) (E : Exc → Hp → Prop)
/-- readings by data -/
def tD (f : Rho → R PD) : TE := fun σ H Q => ∃ ρ S, Rep K σ0 σ ρ H S ∧ After K σ0 E σ S H (f ρ) fun x _ _ H' => ∀ v, RD K H' x v → Q v H'
def tAS (f : Rho → R (List PD)) : TA := fun σ H Q => ∃ ρ S, Rep K σ0 σ ρ H S ∧ After K σ0 E σ S H (f ρ) fun x _ _ H' => ∀ v, RDs K H' x v → Q v H'
abbrev OVs (σ : L2.St) (H : Hp) : List OV → List V → Prop := Paired (OVok K σ H)
def tAO (f : Rho → R (List OV)) : TA := fun σ H Q => ∃ ρ S, Rep K σ0 σ ρ H S ∧ After K σ0 E σ S H (f ρ) fun x _ _ H' => ∀ v, OVs K σ H' x v → Q v H'
end
section
variable {X : Cx} {σ0 : L2.St} {E : Exc → Hp → Prop} {pos : Pos}
theorem se_frz {e : Expr} {f : Rho → R OV} (h : PE X e (tF X.K σ0 E f)) : PE X e (tE X.K σ0 E f) := pe_conseq (pe_fz h) fun σ H Q q => tF_of q
theorem se_esc {e : Expr} {f : Rho → R OV} (h : PE X e (tE X.K σ0 E f)) : PE X e (tD X.K σ0 E fun ρ => (f ρ).bind esc) := by
  refine pe_conseq h fun σ H Q ⟨ρ, S, r, q⟩ => ?_
  refine ⟨ρ, S, r, q.bind.mono fun x ρ1 S1 H1 r1 s1 q1 v o => ?_⟩
  cases x with
  | d y => exact q1.ok r1 v o
  | s i => exact q1.elim
theorem se_fz {i : Nat} {x : Str} (hN : X.N[i]? = some x) (hv : Vis X.env.scope x) (hd : (x == ("__debug__" : Str)) = false) (hcd : (x == ("__classdict__" : Str)) = false) :
    PE X (.Name x pos) (tE X.K σ0 E fun ρ => match ρ[i]? with
      | some (.o ob) => .ok (.d ob.toD) (ρ.set i (.d ob.toD))
      | _ => .stuck) := by
  refine pe_conseq (pe_fz (pe_var hN hv hd hcd)) fun σ H Q ⟨ρ, S, r, q⟩ => ?_
  try dsimp only at q
  split at q
  · rename_i ob hi
    obtain ⟨a, e1, f⟩ := r.frz hi
    exact ⟨_, e1, f _ fun H' S' r' st rd => q S' _ r' st _ rd⟩
  · exact q.elim
theorem OVs.mono {σ : L2.St} {H H' : Hp} (k : Keeps H H') : ∀ {xs : List OV} {vs : List V}, OVs X.K σ H xs vs → OVs X.K σ H' xs vs
  | _, _, .nil => .nil
  | _, _, .cons h t => .cons (OVok.mono k h) (OVs.mono k t)
theorem sa_nil : PA X [] (tAS X.K σ0 E fun ρ => .ok [] ρ) := pa_conseq pa_nil fun σ H Q ⟨ρ, S, r, q⟩ => q.ok r [] .nil
theorem sa_cons {e : Expr} {es : List Expr} {f : Rho → R OV} {g : Rho → R (List PD)} (hs : starEach (e :: es) X.env = (false, eval e X.env) :: starEach es X.env) (h : PE X e (tE X.K σ0 E f)) (hr : PA X es (tAS X.K σ0 E g)) :
    PA X (e :: es) (tAS X.K σ0 E fun ρ => (f ρ).bind fun x ρ => (esc x ρ).bind fun x ρ => (g ρ).bind fun xs ρ => .ok (x :: xs) ρ) := by
  refine pa_conseq (pa_cons h hr hs) fun σ H Q ⟨ρ, S, r, q⟩ => ?_
  refine ⟨ρ, S, r, q.bind.mono fun x ρ1 S1 H1 r1 s1 q1 v o => ?_⟩
  cases x with
  | s i => exact q1.elim
  | d y =>
    refine ⟨ρ1, S1, r1, (After.bind (r := g ρ1) q1).mono fun ys ρ3 S3 H3 r3 s3 q3 vs rds => ?_⟩
    exact q3.ok r3 (v :: vs) (.cons (RD.mono (r1.keeps s3) o) rds)
theorem so_nil : PA X [] (tAO X.K σ0 E fun ρ => .ok [] ρ) := pa_conseq pa_nil fun σ H Q ⟨ρ, S, r, q⟩ => q.ok r [] .nil
theorem so_cons {e : Expr} {es : List Expr} {f : Rho → R OV} {g : Rho → R (List OV)} (hs : starEach (e :: es) X.env = (false, eval e X.env) :: starEach es X.env) (h : PE X e (tE X.K σ0 E f)) (hr : PA X es (tAO X.K σ0 E g)) :
    PA X (e :: es) (tAO X.K σ0 E fun ρ => (f ρ).bind fun x ρ => (g ρ).bind fun xs ρ => .ok (x :: xs) ρ) := by
  refine pa_conseq (pa_cons h hr hs) fun σ H Q ⟨ρ, S, r, q⟩ => ?_
  refine ⟨ρ, S, r, q.bind.mono fun x ρ1 S1 H1 r1 s1 q1 v o => ?_⟩
  refine ⟨ρ1, S1, r1, q1.bind.mono fun ys ρ3 S3 H3 r3 s3 q3 vs rds => ?_⟩
  exact q3.ok r3 (v :: vs) (.cons (o.mono (r1.keeps s3)) rds)
theorem se_tup {es : List Expr} {k : Nat} {f : Rho → R (List PD)} (h : PA X es (tAS X.K σ0 E f)) : PE X (.Tuple es k pos) (tE X.K σ0 E fun ρ => (f ρ).bind fun xs ρ => if xs.length ≤ lim then .ok (.d (.tuple xs)) ρ else .stuck) := by
  refine pe_conseq (pe_tup h) fun σ H Q ⟨ρ, S, r, q⟩ => ?_
  refine ⟨ρ, S, r, q.bind.mono fun xs ρ1 S1 H1 r1 s1 q1 vs rds => ?_⟩
  try dsimp only at q1
  split at q1
  · rename_i hl
    refine ⟨by rw [← rds.length]; exact hl, fun p hp => ?_⟩
    exact q1 S1 _ (r1.same (same_upd hp)) (Step.same (same_upd hp)) _ (RD.tup (SqT.of upd_same) (rds.mono (Keeps.of_same (same_upd hp))))
  · exact q1.elim
theorem sf_lst {es : List Expr} {f : Rho → R (List PD)} (h : PA X es (tAS X.K σ0 E f)) : PE X (.List es pos) (tF X.K σ0 E fun ρ => (f ρ).bind fun xs ρ => if xs.length ≤ lim then .ok (.d (.list xs)) ρ else .stuck) := by
  refine pe_conseq (pe_lst h) fun σ H Q ⟨ρ, S, r, q⟩ => ?_
  refine ⟨ρ, S, r, q.bind.mono fun xs ρ1 S1 H1 r1 s1 q1 vs rds => ?_⟩
  try dsimp only at q1
  split at q1
  · rename_i hl
    refine ⟨by rw [← rds.length]; exact hl, fun p hp => ?_⟩
    exact q1 S1 _ (r1.same (same_upd hp)) (Step.same (same_upd hp)) _ ⟨p, vs, rfl, upd_same, rds.mono (Keeps.of_same (same_upd hp)), r1.notin hp, s1.free hp⟩
  · exact q1.elim
theorem se_bi {b : Bi} {x : Str} {p : Pos} {e : Expr} {es : List Expr} {f : Rho → R (List OV)} (wd : X.w = Wd.w) (h : PA X (e :: es) (tAO X.K σ0 E f)) (hu : X.A.units + 65 < cLine) (hc : X.calm = true)
    (hpe : ∀ {t : TA}, PA X (e :: es) t → PE X (.Call (.Name x p) (e :: es) [] pos) (tCB (rBi X.K b) t)) :
    PE X (.Call (.Name x p) (e :: es) [] pos) (tF X.K σ0 E fun ρ => (f ρ).bind fun xs ρ => match xs.mapM (OV.get ρ) with
      | some ys => ofO ((biD b ys).map .d) ρ
      | none => .stuck) := by
  refine pe_conseq (hpe h) fun σ H Q ⟨ρ, S, r, q⟩ => ?_
  refine ⟨ρ, S, r, q.bind.mono fun xs ρ1 S1 H1 r1 s1 q1 vs o => ?_⟩
  try dsimp only at q1
  split at q1
  · rename_i ys e1
    obtain ⟨z, e3, _, q3⟩ := q1.ofO r1
    obtain ⟨d, e4, rfl⟩ := Option.map_eq_some_iff.mp e3
    have rts : RTs X.K H1 ys vs := by
      clear q1 q3 e3 e4
      induction o generalizing ys with
      | nil =>
        simp at e1
        subst e1
        exact .nil
      | cons h _ ih =>
        simp only [List.mapM_cons, Option.bind_eq_bind, Option.bind_eq_some_iff, Option.pure_def, Option.some.injEq] at e1
        obtain ⟨a, h1, b, h2, rfl⟩ := e1
        exact .cons (h.rt r1 h1) (ih b h2)
    exact ⟨ys, d, rts, e4, fun v H' sm nd => q3 S1 H' (r1.same sm) (Step.same sm) v (FRok.new s1 (fun p hp => r1.notin hp) nd)⟩
  · exact q1.elim
theorem Paired.imp {α β : Type} {F G : α → β → Prop} (f : ∀ a b, F a b → G a b) : ∀ {xs : List α} {ys : List β}, Paired F xs ys → Paired G xs ys
  | _, _, .nil => .nil
  | _, _, .cons h t => .cons (f _ _ h) (Paired.imp f t)
end
end Er

set_option Elab.async false
set_option linter.all false
set_option maxRecDepth 100000
set_option maxHeartbeats 2000000
/-! C8: and, or, chains, conditional expressions, slices, isinstance, picks, calls. -/
namespace Er
open PySem L2
variable [Wd]
section
variable {X : Cx} {σ0 : L2.St} {E : Exc → Hp → Prop} {pos : Pos}
theorem needB_rd {K : Frag} {σ : L2.St} {H : Hp} {x : OV} {b : Bool} {v : V} (e : needB x = some b) (o : OVok K σ H x v) : v = .bl b := by
  match x, e with
  | .d (.bool c), e =>
    cases e
    exact RD.bool_eq o
theorem se_one {op : BoolOp} {a : Expr} {f : Rho → R OV} (h : PE X a (tE X.K σ0 E f)) : PE X (.BoolOp op [a] pos) (tE X.K σ0 E f) := pe_one h
theorem se_and {a b : Expr} {l : List Expr} {fa fb : Rho → R OV} (ha : PE X a (tE X.K σ0 E fa)) (hb : PE X (.BoolOp .And (b :: l) pos) (tE X.K σ0 E fb)) :
    PE X (.BoolOp .And (a :: b :: l) pos) (tE X.K σ0 E fun ρ => (fa ρ).bind fun x ρ => match needB x with
      | some true => fb ρ
      | some false => .ok (.d (.bool false)) ρ
      | none => .stuck) := by
  refine pe_conseq (pe_and ha hb) fun σ H Q ⟨ρ, S, r, q⟩ => ?_
  refine ⟨ρ, S, r, q.bind.mono fun x ρ1 S1 H1 r1 s1 q1 v o => ?_⟩
  try dsimp only at q1
  split at q1
  · rename_i e
    exact ⟨true, needB_rd e o, iteT ⟨ρ1, S1, r1, q1⟩⟩
  · rename_i e
    exact ⟨false, needB_rd e o, iteF (q1.ok r1 _ (.bool _))⟩
  · exact q1.elim
theorem se_or {a b : Expr} {l : List Expr} {fa fb : Rho → R OV} (ha : PE X a (tE X.K σ0 E fa)) (hb : PE X (.BoolOp .Or (b :: l) pos) (tE X.K σ0 E fb)) :
    PE X (.BoolOp .Or (a :: b :: l) pos) (tE X.K σ0 E fun ρ => (fa ρ).bind fun x ρ => match needB x with
      | some true => .ok (.d (.bool true)) ρ
      | some false => fb ρ
      | none => .stuck) := by
  refine pe_conseq (pe_or ha hb) fun σ H Q ⟨ρ, S, r, q⟩ => ?_
  refine ⟨ρ, S, r, q.bind.mono fun x ρ1 S1 H1 r1 s1 q1 v o => ?_⟩
  try dsimp only at q1
  split at q1
  · rename_i e
    exact ⟨true, needB_rd e o, iteT (q1.ok r1 _ (.bool _))⟩
  · rename_i e
    exact ⟨false, needB_rd e o, iteF ⟨ρ1, S1, r1, q1⟩⟩
  · exact q1.elim
theorem sw_one {op : BoolOp} {a : Expr} {f : Rho → R OV} (h : PT X a (tB X.K σ0 E f)) (ho : op = .And ∨ op = .Or) : PW X (.BoolOp op [a] pos) (tB X.K σ0 E f) := by
  rcases ho with rfl | rfl
  · exact pw_and1 h
  · exact pw_or1 h
theorem pw_conseq {X : Cx} {e : Expr} {t t' : TT} (h : PW X e t) (i : ∀ σ H Q, t' σ H Q → t σ H Q) : PW X e t' :=
  ⟨fun w pins s σ H Q I q => h.run w pins s σ H Q I (i σ H Q q)⟩
theorem sw_and {a b : Expr} {l : List Expr} {fa fb : Rho → R OV} (ha : PT X a (tB X.K σ0 E fa)) (hb : PW X (.BoolOp .And (b :: l) pos) (tB X.K σ0 E fb)) :
    PW X (.BoolOp .And (a :: b :: l) pos) (tB X.K σ0 E fun ρ => (fa ρ).bind fun x ρ => match needB x with
      | some true => fb ρ
      | some false => .ok (.d (.bool false)) ρ
      | none => .stuck) := by
  refine pw_conseq (pw_and ha hb) fun σ H Q ⟨ρ, S, r, q⟩ => ?_
  refine ⟨ρ, S, r, q.bind.mono fun x ρ1 S1 H1 r1 s1 q1 => ?_⟩
  try dsimp only at q1
  split at q1
  · rename_i e
    exact ⟨true, e, iteT ⟨ρ1, S1, r1, q1⟩⟩
  · rename_i e
    obtain ⟨b', e', q2⟩ := q1.ok r1
    cases e'
    exact ⟨false, e, iteF q2⟩
  · exact q1.elim
theorem sw_or {a b : Expr} {l : List Expr} {fa fb : Rho → R OV} (ha : PT X a (tB X.K σ0 E fa)) (hb : PW X (.BoolOp .Or (b :: l) pos) (tB X.K σ0 E fb)) :
    PW X (.BoolOp .Or (a :: b :: l) pos) (tB X.K σ0 E fun ρ => (fa ρ).bind fun x ρ => match needB x with
      | some true => .ok (.d (.bool true)) ρ
      | some false => fb ρ
      | none => .stuck) := by
  refine pw_conseq (pw_or ha hb) fun σ H Q ⟨ρ, S, r, q⟩ => ?_
  refine ⟨ρ, S, r, q.bind.mono fun x ρ1 S1 H1 r1 s1 q1 => ?_⟩
  try dsimp only at q1
  split at q1
  · rename_i e
    obtain ⟨b', e', q2⟩ := q1.ok r1
    cases e'
    exact ⟨true, e, iteT q2⟩
  · rename_i e
    exact ⟨false, e, iteF ⟨ρ1, S1, r1, q1⟩⟩
  · exact q1.elim
theorem se_ite {c a b : Expr} {fc fa fb : Rho → R OV} (hc : PT X c (tB X.K σ0 E fc)) (ha : PE X a (tE X.K σ0 E fa)) (hb : PE X b (tE X.K σ0 E fb)) :
    PE X (.IfExp c a b pos) (tE X.K σ0 E fun ρ => (fc ρ).bind fun x ρ => match needB x with
      | some true => fa ρ
      | some false => fb ρ
      | none => .stuck) := by
  refine pe_conseq (pe_ifExp hc ha hb) fun σ H Q ⟨ρ, S, r, q⟩ => ?_
  refine ⟨ρ, S, r, q.bind.mono fun x ρ1 S1 H1 r1 s1 q1 => ?_⟩
  try dsimp only at q1
  split at q1
  · rename_i e
    exact ⟨true, e, iteT ⟨ρ1, S1, r1, q1⟩⟩
  · rename_i e
    exact ⟨false, e, iteF ⟨ρ1, S1, r1, q1⟩⟩
  · exact q1.elim
theorem FRok.back {K : Frag} {S S1 S' : Addr → Prop} {H H1 H' : Hp} {x : OV} {v : V} (st : Step S H S1 H1) (h : FRok K S1 H1 S' H' x v) : FRok K S H S' H' x v := by
  match x, h with
  | .d (.list l), h =>
    obtain ⟨p, xs, h1, h2, h3, h4, h5⟩ := h
    refine ⟨p, xs, h1, h2, h3, h4, ?_⟩
    rcases h5 with h5 | h5
    · rcases st.own p h5 with z | z
      · exact .inl z
      · exact .inr z
    · exact st.free h5
  | .d (.dict l), h =>
    obtain ⟨p, h1, h2, h4, h5⟩ := h
    refine ⟨p, h1, h2, h4, ?_⟩
    rcases h5 with h5 | h5
    · rcases st.own p h5 with z | z
      · exact .inl z
      · exact .inr z
    · exact st.free h5
  | .d .none, h => exact h
  | .d (.bool _), h => exact h
  | .d (.int _), h => exact h
  | .d (.str _), h => exact h
  | .d (.tuple _), h => exact h
theorem sf_ite {c a b : Expr} {fc fa fb : Rho → R OV} (hc : PT X c (tB X.K σ0 E fc)) (ha : PE X a (tF X.K σ0 E fa)) (hb : PE X b (tF X.K σ0 E fb)) :
    PE X (.IfExp c a b pos) (tF X.K σ0 E fun ρ => (fc ρ).bind fun x ρ => match needB x with
      | some true => fa ρ
      | some false => fb ρ
      | none => .stuck) := by
  refine pe_conseq (pe_ifExp hc ha hb) fun σ H Q ⟨ρ, S, r, q⟩ => ?_
  refine ⟨ρ, S, r, q.bind.mono fun x ρ1 S1 H1 r1 s1 q1 => ?_⟩
  try dsimp only at q1
  split at q1
  · rename_i e
    exact ⟨true, e, iteT ⟨ρ1, S1, r1, q1.mono fun y ρ2 S2 H2 r2 s2 q2 v f => q2 v (f.back s1)⟩⟩
  · rename_i e
    exact ⟨false, e, iteF ⟨ρ1, S1, r1, q1.mono fun y ρ2 S2 H2 r2 s2 q2 v f => q2 v (f.back s1)⟩⟩
  · exact q1.elim
theorem st_ite {c a b : Expr} {fc fa fb : Rho → R OV} (hc : PT X c (tB X.K σ0 E fc)) (ha : PT X a (tB X.K σ0 E fa)) (hb : PT X b (tB X.K σ0 E fb))
    (rule : ∀ {tc ta tb : TT}, PT X c tc → PT X a ta → PT X b tb → PT X (.IfExp c a b pos) (fun σ H Q => tc σ H fun d H1 => if d = true then ta σ H1 Q else tb σ H1 Q)) :
    PT X (.IfExp c a b pos) (tB X.K σ0 E fun ρ => (fc ρ).bind fun x ρ => match needB x with
      | some true => fa ρ
      | some false => fb ρ
      | none => .stuck) := by
  refine pt_conseq (rule hc ha hb) fun σ H Q ⟨ρ, S, r, q⟩ => ?_
  refine ⟨ρ, S, r, q.bind.mono fun x ρ1 S1 H1 r1 s1 q1 => ?_⟩
  try dsimp only at q1
  split at q1
  · rename_i e
    exact ⟨true, e, iteT ⟨ρ1, S1, r1, q1⟩⟩
  · rename_i e
    exact ⟨false, e, iteF ⟨ρ1, S1, r1, q1⟩⟩
  · exact q1.elim
theorem isN_val {K : Frag} {H : Hp} {x : PD} {v : V} (o : RD K H x v) : decide (v = .non) = (match x with
    | .none => true
    | _ => false) := by
  cases o <;> rfl
theorem se_isN {a : Expr} {f : Rho → R OV} {j : Nat} {p2 : Pos} (h : PE X a (tE X.K σ0 E f)) : PE X (.Compare a [.Is] [.Constant .none j p2] pos) (tE X.K σ0 E fun ρ => (f ρ).bind fun x ρ => match x with
    | .d .none => .ok (.d (.bool true)) ρ
    | .d _ => .ok (.d (.bool false)) ρ
    | .s _ => .stuck) := by
  refine pe_conseq (pe_cmp (pc_isN h) rfl) fun σ H Q ⟨ρ, S, r, q⟩ => ?_
  refine ⟨ρ, S, r, q.bind.mono fun x ρ1 S1 H1 r1 s1 q1 v o => ?_⟩
  match x, o, q1 with
  | .s i, o, q1 => exact q1.elim
  | .d y, o, q1 =>
    have o : RD X.K H1 y v := o
    try dsimp only
    rw [isN_val o]
    cases y <;> exact q1.ok r1 _ (.bool _)
theorem se_notN {a : Expr} {f : Rho → R OV} {j : Nat} {p2 : Pos} (h : PE X a (tE X.K σ0 E f)) : PE X (.Compare a [.IsNot] [.Constant .none j p2] pos) (tE X.K σ0 E fun ρ => (f ρ).bind fun x ρ => match x with
    | .d .none => .ok (.d (.bool false)) ρ
    | .d _ => .ok (.d (.bool true)) ρ
    | .s _ => .stuck) := by
  refine pe_conseq (pe_cmp (pc_notN h) rfl) fun σ H Q ⟨ρ, S, r, q⟩ => ?_
  refine ⟨ρ, S, r, q.bind.mono fun x ρ1 S1 H1 r1 s1 q1 v o => ?_⟩
  match x, o, q1 with
  | .s i, o, q1 => exact q1.elim
  | .d y, o, q1 =>
    have o : RD X.K H1 y v := o
    try dsimp only
    rw [isN_val o]
    cases y <;> exact q1.ok r1 _ (.bool _)
/-- a test by its value, whatever the rule that gives it -/
theorem st_of {e : Expr} {f : Rho → R OV} {t : TE} (h : PT X e (L2.tB t)) (i : ∀ σ H Q, tE X.K σ0 E f σ H Q → t σ H Q) : PT X e (tB X.K σ0 E f) := by
  refine pt_conseq h fun σ H Q ⟨ρ, S, r, q⟩ => i σ H _ ⟨ρ, S, r, q.mono fun x ρ1 S1 H1 r1 s1 q1 v o => ?_⟩
  obtain ⟨b, e1, q2⟩ := q1
  exact ⟨b, needB_rd e1 o, q2⟩
theorem st_isN {a : Expr} {f : Rho → R OV} {j : Nat} {p2 : Pos} (h : PE X a (tE X.K σ0 E f)) : PT X (.Compare a [.Is] [.Constant .none j p2] pos) (tB X.K σ0 E fun ρ => (f ρ).bind fun x ρ => match x with
    | .d .none => .ok (.d (.bool true)) ρ
    | .d _ => .ok (.d (.bool false)) ρ
    | .s _ => .stuck) := by
  refine st_of (pt_cmp (pc_isN h) rfl) fun σ H Q ⟨ρ, S, r, q⟩ => ?_
  refine ⟨ρ, S, r, q.bind.mono fun x ρ1 S1 H1 r1 s1 q1 v o => ?_⟩
  match x, o, q1 with
  | .s i, o, q1 => exact q1.elim
  | .d y, o, q1 =>
    have o : RD X.K H1 y v := o
    try dsimp only
    rw [isN_val o]
    cases y <;> exact q1.ok r1 _ (.bool _)
theorem st_notN {a : Expr} {f : Rho → R OV} {j : Nat} {p2 : Pos} (h : PE X a (tE X.K σ0 E f)) : PT X (.Compare a [.IsNot] [.Constant .none j p2] pos) (tB X.K σ0 E fun ρ => (f ρ).bind fun x ρ => match x with
    | .d .none => .ok (.d (.bool false)) ρ
    | .d _ => .ok (.d (.bool true)) ρ
    | .s _ => .stuck) := by
  refine st_of (pt_cmp (pc_notN h) rfl) fun σ H Q ⟨ρ, S, r, q⟩ => ?_
  refine ⟨ρ, S, r, q.bind.mono fun x ρ1 S1 H1 r1 s1 q1 v o => ?_⟩
  match x, o, q1 with
  | .s i, o, q1 => exact q1.elim
  | .d y, o, q1 =>
    have o : RD X.K H1 y v := o
    try dsimp only
    rw [isN_val o]
    cases y <;> exact q1.ok r1 _ (.bool _)
theorem se_neg {a : Expr} {f : Rho → R OV} (h : PE X a (tE X.K σ0 E f)) : PE X (.UnaryOp .USub a pos) (tE X.K σ0 E fun ρ => (f ρ).bind fun x ρ => match x with
    | .d (.int i) => .ok (.d (.int (-i))) ρ
    | _ => .stuck) := by
  refine pe_conseq (pe_un un_neg h) fun σ H Q ⟨ρ, S, r, q⟩ => ?_
  refine ⟨ρ, S, r, q.bind.mono fun x ρ1 S1 H1 r1 s1 q1 v o => ?_⟩
  match x, o, q1 with
  | .d (.int i), o, q1 => exact ⟨i, RD.int_eq o, q1.ok r1 _ (.int _)⟩
def chainR (fa fb fc : Rho → R OV) (o1 o2 : COp) (ρ : Rho) : R OV := (fa ρ).bind fun x ρ => (fb ρ).bind fun y ρ => match x.get ρ, y.get ρ with
    | some x', some y' => match cmpD o1 x' y' with
      | some true => (fc ρ).bind fun z ρ => match y.get ρ, z.get ρ with
        | some y, some z => ofO ((cmpD o2 y z).map fun b => .d (.bool b)) ρ
        | _, _ => .stuck
      | some false => .ok (.d (.bool false)) ρ
      | none => .stuck
    | _, _ => .stuck
theorem chain_reads {o1 o2 : COp} {fa fb fc : Rho → R OV} {σ : L2.St} {H : Hp} {Q : VK} (q : tE X.K σ0 E (chainR fa fb fc o1 o2) σ H Q) : tChain (rCmp X.K o1) (rCmp X.K o2) (tE X.K σ0 E fa) (tE X.K σ0 E fb) (tE X.K σ0 E fc) σ H Q := by
  obtain ⟨ρ, S, rp, q⟩ := q
  refine ⟨ρ, S, rp, (After.bind (r := fa ρ) q).mono fun x ρ1 S1 H1 r1 s1 q1 v1 w1 => ?_⟩
  refine ⟨ρ1, S1, r1, q1.bind.mono fun y ρ2 S2 H2 r2 s2 q2 v2 w2 => ?_⟩
  try dsimp only at q2
  split at q2
  · rename_i d1 d2 e1 e2
    split at q2
    · rename_i e3
      refine ⟨d1, d2, true, (w1.mono (r1.keeps s2)).rt r2 e1, w2.rt r2 e2, e3, true, rfl, iteT ⟨ρ2, S2, r2, q2.bind.mono fun z ρ3 S3 H3 r3 s3 q3 v3 w3 => ?_⟩⟩
      try dsimp only at q3
      split at q3
      · rename_i d4 d5 e4 e5
        obtain ⟨z, e6, q4, _⟩ := q3.ofO r3
        obtain ⟨b, e7, rfl⟩ := Option.map_eq_some_iff.mp e6
        exact ⟨d4, d5, b, (w2.mono (r2.keeps s3)).rt r3 e4, w3.rt r3 e5, e7, q4 _ (.bool _)⟩
      · exact q3.elim
    · rename_i e3
      exact ⟨d1, d2, false, (w1.mono (r1.keeps s2)).rt r2 e1, w2.rt r2 e2, e3, false, rfl, iteF (q2.ok r2 _ (.bool _))⟩
    · exact q2.elim
  · exact q2.elim
theorem se_chain {o1 o2 : COp} {a b c : Expr} {fa fb fc : Rho → R OV} (wd : X.w = Wd.w) (hu : X.A.units + 65 < cLine) (ha : PE X a (tE X.K σ0 E fa)) (hb : PE X b (tE X.K σ0 E fb)) (hc : PE X c (tE X.K σ0 E fc)) (hm : lastMarks [cmOf o1, cmOf o2] [b, c] = false) :
    PE X (.Compare a [cmOf o1, cmOf o2] [b, c] pos) (tE X.K σ0 E (chainR fa fb fc o1 o2)) :=
  pe_conseq (pe_chain (op_cmp wd hu o1) (op_cmp wd hu o2) ha hb hc hm) fun σ H Q q => chain_reads q
theorem st_chain {o1 o2 : COp} {a b c : Expr} {fa fb fc : Rho → R OV} (wd : X.w = Wd.w) (hu : X.A.units + 65 < cLine) (ha : PE X a (tE X.K σ0 E fa)) (hb : PE X b (tE X.K σ0 E fb)) (hc : PE X c (tE X.K σ0 E fc)) (hm : lastMarks [cmOf o1, cmOf o2] [b, c] = false) :
    PT X (.Compare a [cmOf o1, cmOf o2] [b, c] pos) (tB X.K σ0 E (chainR fa fb fc o1 o2)) :=
  st_of (t := tChain (rCmp X.K o1) (rCmp X.K o2) (tE X.K σ0 E fa) (tE X.K σ0 E fb) (tE X.K σ0 E fc)) (pt_chain (op_cmp wd hu o1) (op_cmp wd hu o2) ha hb hc hm) fun σ H Q q => chain_reads q
theorem se_isi {a : Expr} {t : Ty} {f : Rho → R OV} {x y : Str} {p p2 : Pos} (h : PE X a (tE X.K σ0 E f)) (hi : Gl X x) (mi : X.mg x = none) (bi : bootBuiltins x = some (.builtin "isinstance")) (ni : x ≠ "__name__") (di : (x == ("__debug__" : Str)) = false)
    (hy : Gl X y) (my : X.mg y = none) (by' : bootBuiltins y = some (.type (tyN t))) (ny : y ≠ "__name__") (dy : (y == ("__debug__" : Str)) = false) (hs : starEach [a, .Name y p2] X.env = (false, eval a X.env) :: starEach [.Name y p2] X.env) :
    PE X (.Call (.Name x p) [a, .Name y p2] [] pos) (tE X.K σ0 E fun ρ => (f ρ).bind fun x ρ => match x.get ρ with
      | some x => .ok (.d (.bool ([t].any (isTy x)))) ρ
      | none => .stuck) := by
  refine pe_conseq (pe_callB call_isiY hi mi bi (pa_cons h (pa_cons (pe_bltn (v := .ty (tyN t)) hy my by' rfl ny dy) pa_nil) hs) ni di hs rfl) fun σ H Q ⟨ρ, S, r, q⟩ => ?_
  refine ⟨ρ, S, r, q.bind.mono fun x ρ1 S1 H1 r1 s1 q1 v o => ?_⟩
  try dsimp only at q1
  split at q1
  · rename_i d e1
    refine ⟨v, .ty (tyN t), .type (tyD d), .type (tyN t), isTy d t, rfl, .ty _, (o.rt r1 e1).ty, kit_ty (kit_all d t), q1.ok r1 _ ?_⟩
    rw [show ([t].any (isTy d)) = isTy d t by simp]
    exact .bool _
  · exact q1.elim
theorem se_isi2 {a : Expr} {t u : Ty} {k : Nat} {f : Rho → R OV} {x y z : Str} {p p2 p3 p4 : Pos} (h : PE X a (tE X.K σ0 E f)) (hi : Gl X x) (mi : X.mg x = none) (bi : bootBuiltins x = some (.builtin "isinstance")) (ni : x ≠ "__name__") (di : (x == ("__debug__" : Str)) = false)
    (hy : Gl X y) (my : X.mg y = none) (by' : bootBuiltins y = some (.type (tyN t))) (ny : y ≠ "__name__") (dy : (y == ("__debug__" : Str)) = false)
    (hz : Gl X z) (mz : X.mg z = none) (bz : bootBuiltins z = some (.type (tyN u))) (nz : z ≠ "__name__") (dz : (z == ("__debug__" : Str)) = false)
    (hs : starEach [a, .Tuple [.Name y p2, .Name z p3] k p4] X.env = (false, eval a X.env) :: starEach [.Tuple [.Name y p2, .Name z p3] k p4] X.env) :
    PE X (.Call (.Name x p) [a, .Tuple [.Name y p2, .Name z p3] k p4] [] pos) (tE X.K σ0 E fun ρ => (f ρ).bind fun x ρ => match x.get ρ with
      | some x => .ok (.d (.bool ([t, u].any (isTy x)))) ρ
      | none => .stuck) := by
  refine pe_conseq (pe_callB call_isiTY hi mi bi (pa_cons h (pa_cons (pe_tup (pa_cons (pe_bltn (v := .ty (tyN t)) hy my by' rfl ny dy) (pa_cons (pe_bltn (v := .ty (tyN u)) hz mz bz rfl nz dz) pa_nil))) pa_nil) hs) ni di hs rfl) fun σ H Q ⟨ρ, S, r, q⟩ => ?_
  refine ⟨ρ, S, r, q.bind.mono fun x ρ1 S1 H1 r1 s1 q1 v o => ?_⟩
  try dsimp only at q1
  split at q1
  · rename_i d e1
    refine ⟨by show 2 ≤ sizeLine; decide, fun pt hpt => ?_⟩
    refine ⟨v, pt, [.ty (tyN t), .ty (tyN u)], .type (tyD d), [.type (tyN t), .type (tyN u)], [t, u].any (isTy d), rfl, upd_same, .cons (.ty _) (.cons (.ty _) .nil), ((o.mono (Keeps.of_same (same_upd hpt))).rt (r1.same (same_upd hpt)) e1).ty, kit_any d [t, u], ?_⟩
    exact q1 S1 _ (r1.same (same_upd hpt)) (Step.same (same_upd hpt)) _ (.bool _)
  · exact q1.elim
/-! slices -/
section
variable (K : Frag) (σ0 : L2.St) (E : Exc → Hp → Prop)
def partR (p : Bool) (f : Rho → R OV) (ρ : Rho) : R (Option Int) := (if p = true then f ρ else .ok (.d .none) ρ).bind fun y ρ => ofO (bndO p y) ρ
def tPo (f : Rho → R (Option Int)) : TO := fun σ H Q => ∃ ρ S, Rep K σ0 σ ρ H S ∧ After K σ0 E σ S H (f ρ) fun x _ _ H' => Q x H'
end
theorem so_none {f : Rho → R OV} : PO X none (tPo X.K σ0 E (partR false f)) := by
  have h := po_none (X := X)
  refine ⟨fun pins s σ H Q I q => h.run pins s σ H Q I ?_⟩
  obtain ⟨ρ, S, r, q⟩ := q
  exact After.ok (x := none) q r
theorem so_some {e : Expr} {f : Rho → R OV} (h : PE X e (tE X.K σ0 E f)) : PO X (some e) (tPo X.K σ0 E (partR true f)) := by
  have h := po_some h
  refine ⟨fun pins s σ H Q I q => h.run pins s σ H Q I ?_⟩
  obtain ⟨ρ, S, r, q⟩ := q
  refine ⟨ρ, S, r, (After.bind (r := f ρ) q).mono fun x ρ1 S1 H1 r1 s1 q1 v o => ?_⟩
  obtain ⟨b, e, q2, _⟩ := q1.ofO r1
  match x, e with
  | .d (.int i), e =>
    cases e
    exact ⟨i, RD.int_eq o, q2⟩
theorem sf_slc {a : Expr} {p1 p2 : Bool} {fa fl fh : Rho → R OV} {lo hi : Option Expr} {q1 : Pos} (h : PE X a (tE X.K σ0 E fa)) (hl : PO X lo (tPo X.K σ0 E (partR p1 fl))) (hh : PO X hi (tPo X.K σ0 E (partR p2 fh))) :
    PE X (.Subscript a (.Slice lo hi none q1) pos) (tF X.K σ0 E fun ρ => (fa ρ).bind fun x ρ => (partR p1 fl ρ).bind fun lo ρ => (partR p2 fh ρ).bind fun hi ρ => match x.get ρ with
      | some x => ofO ((slcD x lo hi).map .d) ρ
      | none => .stuck) := by
  refine pe_conseq (pe_slice op_slc h hl hh) fun σ H Q ⟨ρ, S, r, q⟩ => ?_
  refine ⟨ρ, S, r, q.bind.mono fun x ρ1 S1 H1 r1 s1 q1 v o => ?_⟩
  refine ⟨ρ1, S1, r1, q1.bind.mono fun lo ρ2 S2 H2 r2 s2 q2 => ?_⟩
  refine ⟨ρ2, S2, r2, q2.bind.mono fun hi ρ3 S3 H3 r3 s3 q3 => ?_⟩
  try dsimp only at q3
  split at q3
  · rename_i d e1
    obtain ⟨z, e3, _, q4⟩ := q3.ofO r3
    obtain ⟨y, e4, rfl⟩ := Option.map_eq_some_iff.mp e3
    exact ⟨d, y, ((o.mono (r1.keeps s2)).mono (r2.keeps s3)).rt r3 e1, e4, fun w H4 sm nd => q4 S3 H4 (r3.same sm) (Step.same sm) w (FRok.new ((s1.trans s2).trans s3) (fun p hp => r3.notin hp) nd)⟩
  · exact q3.elim
end
end Er

set_option Elab.async false
set_option linter.all false
set_option maxRecDepth 100000
set_option maxHeartbeats 2000000
/-! C9: calls: what is lent to a callee, and what comes back. -/
namespace Er
open PySem L2
variable [Wd]
/-- a call's outcomes, its slots, its values -/
inductive AR (K : Frag) (σ : L2.St) (ρ : Rho) (H : Hp) : List OV → List SV → List V → Prop
  | nil : AR K σ ρ H [] [] []
  | d {y : PD} {v : V} {xs : List OV} {as : List SV} {vs : List V} : RD K H y v → AR K σ ρ H xs as vs → AR K σ ρ H (.d y :: xs) (.d y :: as) (v :: vs)
  | b {i : Nat} {ob : OB} {v : V} {xs : List OV} {as : List SV} {vs : List V} : objAt ρ i = some ob → σ[i]? = some (some v) → AR K σ ρ H xs as vs → AR K σ ρ H (.s i :: xs) (.b ob :: as) (v :: vs)
section
variable {K : Frag} {σ0 σ : L2.St} {ρ : Rho} {H : Hp} {S : Addr → Prop}
theorem AR.of : ∀ {ms : List Bool} {xs : List OV} {vs : List V} {as : List SV}, OVs K σ H xs vs → argsOf ms xs ρ = some as → AR K σ ρ H xs as vs
  | ms, _, _, as, .nil, e => by
    cases ms with
    | nil => cases e; exact .nil
    | cons m ms => cases m <;> cases e
  | ms, x :: xs, v :: vs, as, .cons h t, e => by
    cases ms with
    | nil => cases e
    | cons m ms =>
      cases m with
      | false =>
        cases x with
        | d y =>
          obtain ⟨as', e1, rfl⟩ := Option.map_eq_some_iff.mp e
          exact .d h (AR.of t e1)
        | s i => cases e
      | true =>
        cases x with
        | d y => cases e
        | s i =>
          obtain ⟨ob, e1, e2⟩ := Option.bind_eq_some_iff.mp e
          obtain ⟨as', e3, rfl⟩ := Option.map_eq_some_iff.mp e2
          exact .b e1 h (AR.of t e3)
theorem AR.length : ∀ {xs : List OV} {as : List SV} {vs : List V}, AR K σ ρ H xs as vs → vs.length = as.length
  | _, _, _, .nil => rfl
  | _, _, _, .d _ t => by simp [t.length]
  | _, _, _, .b _ _ t => by simp [t.length]
theorem AR.get : ∀ {xs : List OV} {as : List SV} {vs : List V} {j : Nat} {y : SV}, AR K σ ρ H xs as vs → as[j]? = some y → ∃ v, vs[j]? = some v ∧ ((∃ z, y = .d z ∧ RD K H z v) ∨ ∃ i ob, y = .b ob ∧ xs[j]? = some (.s i) ∧ objAt ρ i = some ob ∧ σ[i]? = some (some v))
  | _, _, _, _, _, .nil, e => by simp at e
  | _, _, _, 0, _, .d h _, e => by
    simp at e
    subst e
    exact ⟨_, rfl, .inl ⟨_, rfl, h⟩⟩
  | _, _, _, 0, _, .b h1 h2 _, e => by
    simp at e
    subst e
    exact ⟨_, rfl, .inr ⟨_, _, rfl, rfl, h1, h2⟩⟩
  | _, _, _, j + 1, _, .d _ t, e => by
    obtain ⟨v, h1, h2⟩ := t.get (j := j) (by simpa using e)
    exact ⟨v, by simpa using h1, by simpa using h2⟩
  | _, _, _, j + 1, _, .b _ _ t, e => by
    obtain ⟨v, h1, h2⟩ := t.get (j := j) (by simpa using e)
    exact ⟨v, by simpa using h1, by simpa using h2⟩
omit [Wd] in
theorem slotIx_get : ∀ {xs : List OV} {i j : Nat}, slotIx i xs = some j → xs[j]? = some (.s i)
  | [], _, _, h => by cases h
  | .s k :: r, i, j, h => by
    unfold slotIx at h
    split at h
    · rename_i e
      cases h
      rw [e]
      rfl
    · obtain ⟨j', e1, rfl⟩ := Option.map_eq_some_iff.mp h
      simpa using slotIx_get e1
  | .d k :: r, i, j, h => by
    obtain ⟨j', e1, rfl⟩ := Option.map_eq_some_iff.mp h
    simpa using slotIx_get e1
omit [Wd] in
theorem slotIx_of : ∀ {xs : List OV} {i j : Nat}, distinctS xs = true → xs[j]? = some (.s i) → slotIx i xs = some j
  | [], _, _, _, h => by simp at h
  | .s k :: r, i, 0, d, h => by
    simp at h
    subst h
    simp [slotIx]
  | .s k :: r, i, j + 1, d, h => by
    simp only [distinctS, Bool.and_eq_true, Option.isNone_iff_eq_none] at d
    have h' : r[j]? = some (.s i) := by simpa using h
    have e := slotIx_of d.2 h'
    unfold slotIx
    rw [if_neg (fun z => by rw [z] at d; rw [d.1] at e; cases e), e]
    rfl
  | .d k :: r, i, 0, d, h => by simp at h
  | .d k :: r, i, j + 1, d, h => by
    have h' : r[j]? = some (.s i) := by simpa using h
    have d' : distinctS r = true := by simpa [distinctS] using d
    have e := slotIx_of d' h'
    unfold slotIx
    rw [e]
    rfl
omit [Wd] in
theorem putObj_spec {ρ ρ2 : Rho} {i : Nat} {ob : OB} (h : putObj ρ i ob = some ρ2) : ρ2.length = ρ.length ∧ (∀ k, k ≠ i → ρ2[k]? = ρ[k]?) ∧
    (((∃ o, ρ[i]? = some (SV.o o)) ∧ ρ2[i]? = some (SV.o ob)) ∨ ((∃ o, ρ[i]? = some (SV.b o)) ∧ ρ2[i]? = some (SV.b ob))) := by
  unfold putObj at h
  split at h
  · rename_i o e
    cases h
    refine ⟨List.length_set, fun k hk => List.getElem?_set_ne (Ne.symm hk), .inl ⟨⟨o, e⟩, ?_⟩⟩
    rw [List.getElem?_set_self (List.getElem?_eq_some_iff.mp e).1]
  · rename_i o e
    cases h
    refine ⟨List.length_set, fun k hk => List.getElem?_set_ne (Ne.symm hk), .inr ⟨⟨o, e⟩, ?_⟩⟩
    rw [List.getElem?_set_self (List.getElem?_eq_some_iff.mp e).1]
  · cases h
theorem backArgs_spec : ∀ {xs : List OV} {ys : List SV} {ρ ρ2 : Rho}, distinctS xs = true → backArgs xs ys ρ = some ρ2 → ρ2.length = ρ.length ∧ (∀ i, slotIx i xs = none → ρ2[i]? = ρ[i]?) ∧
    ∀ i j, slotIx i xs = some j → ∃ ob, ys[j]? = some (SV.b ob) ∧ (((∃ o, ρ[i]? = some (SV.o o)) ∧ ρ2[i]? = some (SV.o ob)) ∨ ((∃ o, ρ[i]? = some (SV.b o)) ∧ ρ2[i]? = some (SV.b ob)))
  | [], [], ρ, ρ2, _, h => by
    cases h
    exact ⟨rfl, fun _ _ => rfl, fun _ _ z => by cases z⟩
  | [], _ :: _, _, _, _, h => by cases h
  | .s k :: xs, [], _, _, _, h => by cases h
  | .d k :: xs, [], _, _, _, h => by cases h
  | .s k :: xs, .un :: ys, _, _, _, h => by cases h
  | .s k :: xs, .d _ :: ys, _, _, _, h => by cases h
  | .s k :: xs, .o _ :: ys, _, _, _, h => by cases h
  | .d k :: xs, .un :: ys, _, _, _, h => by cases h
  | .d k :: xs, .b _ :: ys, _, _, _, h => by cases h
  | .d k :: xs, .o _ :: ys, _, _, _, h => by cases h
  | .d k :: xs, .d y :: ys, ρ, ρ2, d, h => by
    have d' : distinctS xs = true := by simpa [distinctS] using d
    obtain ⟨h1, h2, h3⟩ := backArgs_spec (ρ := ρ) (ρ2 := ρ2) d' h
    refine ⟨h1, fun i e => ?_, fun i j e => ?_⟩
    · unfold slotIx at e
      exact h2 i (by simpa using e)
    · unfold slotIx at e
      obtain ⟨j', e1, rfl⟩ := Option.map_eq_some_iff.mp e
      obtain ⟨ob, e2, e3⟩ := h3 i j' e1
      exact ⟨ob, by simpa using e2, e3⟩
  | .s k :: xs, .b ob :: ys, ρ, ρ2, d, h => by
    simp only [distinctS, Bool.and_eq_true, Option.isNone_iff_eq_none] at d
    obtain ⟨ρ1, e1, e2⟩ := Option.bind_eq_some_iff.mp h
    obtain ⟨p1, p2, p3⟩ := putObj_spec e1
    obtain ⟨h1, h2, h3⟩ := backArgs_spec (ρ := ρ1) (ρ2 := ρ2) d.2 e2
    refine ⟨h1.trans p1, fun i e => ?_, fun i j e => ?_⟩
    · unfold slotIx at e
      split at e
      · cases e
      · rename_i hk
        rw [h2 i (by simpa using e), p2 i (Ne.symm hk)]
    · unfold slotIx at e
      split at e
      · rename_i hk
        cases e
        subst hk
        refine ⟨ob, rfl, ?_⟩
        rw [h2 k d.1]
        exact p3
      · rename_i hk
        obtain ⟨j', e3, rfl⟩ := Option.map_eq_some_iff.mp e
        obtain ⟨ob', e4, e5⟩ := h3 i j' e3
        rw [p2 i (Ne.symm hk)] at e5
        exact ⟨ob', by simpa using e4, e5⟩
/-- a callee's slots hold what is lent; and what comes back is held by the slots here -/
theorem call_rep {xs : List OV} {as : List SV} {vs : List V} (r : Rep K σ0 σ ρ H S) (ar : AR K σ ρ H xs as vs) (hd : distinctS xs = true) :
    ∃ Sc, Rep K (vs.map some) (vs.map some) as H Sc ∧ (∀ b, Sc b → S b) ∧
      ∀ H2 Sc' as' ρ2, Rep K (vs.map some) (vs.map some) as' H2 Sc' → Step Sc H Sc' H2 → backArgs xs as' ρ = some ρ2 → ∃ S2, Rep K σ0 σ ρ2 H2 S2 ∧ Step S H S2 H2 ∧ ∀ b, S2 b → Sc' b ∨ (S b ∧ ¬ Sc b) := by
  obtain ⟨W, rw, eS⟩ := id r
  let Wc : Nat → List Addr := fun j => match xs[j]? with
    | some (.s i) => W i
    | _ => []
  have objb : ∀ {j : Nat} {x : OB}, objAt as j = some x → as[j]? = some (.b x) := fun {j x} h => by
    unfold objAt at h
    split at h
    · rename_i o e
      obtain ⟨v, _, z | z⟩ := ar.get e
      · obtain ⟨_, z, _⟩ := z; cases z
      · obtain ⟨_, _, z, _⟩ := z; cases z
    · rename_i o e
      cases h
      exact e
    · cases h
  have wc : ∀ {j i : Nat}, xs[j]? = some (.s i) → Wc j = W i := fun {j i} h => by
    show (match xs[j]? with
      | some (.s i) => W i
      | _ => []) = W i
    rw [h]
  have rwc : RepW K (vs.map some) (vs.map some) as H Wc := by
    refine ⟨by rw [List.length_map]; exact ar.length, fun j x hx => ?_, fun j x hx => ?_, fun _ _ _ => rfl, fun j k b hjk h1 h2 h3 h4 => ?_⟩
    · obtain ⟨v, e1, z | z⟩ := ar.get hx
      · obtain ⟨y, e2, rd⟩ := z
        cases e2
        exact ⟨v, by rw [List.getElem?_map, e1]; rfl, rd⟩
      · obtain ⟨_, _, z, _⟩ := z; cases z
    · obtain ⟨v, e1, z | z⟩ := ar.get (objb hx)
      · obtain ⟨_, z, _⟩ := z; cases z
      · obtain ⟨i, ob, e2, e3, e4, e5⟩ := z
        cases e2
        obtain ⟨a, e6, ro⟩ := rw.obj i x e4
        rw [e5] at e6
        cases e6
        refine ⟨a, by rw [List.getElem?_map, e1]; rfl, ?_⟩
        rw [wc e3]
        exact ro
    · obtain ⟨x1, g1⟩ := Option.isSome_iff_exists.mp h1
      obtain ⟨x2, g2⟩ := Option.isSome_iff_exists.mp h2
      obtain ⟨v1, _, z | z⟩ := ar.get (objb g1)
      · obtain ⟨_, z, _⟩ := z; cases z
      obtain ⟨i1, ob1, _, k1, k2, _⟩ := z
      obtain ⟨v2, _, z | z⟩ := ar.get (objb g2)
      · obtain ⟨_, z, _⟩ := z; cases z
      obtain ⟨i2, ob2, _, l1, l2, _⟩ := z
      rw [wc k1] at h3
      rw [wc l1] at h4
      refine rw.sep i1 i2 b (fun e => ?_) (by rw [k2]; rfl) (by rw [l2]; rfl) h3 h4
      subst e
      have q1 := slotIx_of hd k1
      have q2 := slotIx_of hd l1
      rw [q1] at q2
      cases q2
      exact hjk rfl
  have ofSc : ∀ {b : Addr}, SOf as Wc b → ∃ (i : Nat) (ob : OB) (j : Nat), xs[j]? = some (OV.s i) ∧ objAt ρ i = some ob ∧ b ∈ W i := fun {b} h => by
    obtain ⟨j, h1, h2⟩ := h
    obtain ⟨x1, g1⟩ := Option.isSome_iff_exists.mp h1
    obtain ⟨v1, _, z | z⟩ := ar.get (objb g1)
    · obtain ⟨_, z, _⟩ := z; cases z
    obtain ⟨i1, ob1, _, k1, k2, _⟩ := z
    rw [wc k1] at h2
    exact ⟨i1, ob1, j, k1, k2, h2⟩
  have sub : ∀ b, SOf as Wc b → S b := fun b h => by
    obtain ⟨i, ob, j, _, k2, h2⟩ := ofSc h
    exact (eS b).mpr ⟨i, by rw [k2]; rfl, h2⟩
  have rc : Rep K (vs.map some) (vs.map some) as H (SOf as Wc) := ⟨Wc, rwc, fun b => Iff.rfl⟩
  refine ⟨SOf as Wc, rc, sub, fun H2 Sc' as' ρ2 r' st eb => ?_⟩
  have kp : Keeps H H2 := rc.keeps st
  obtain ⟨W', rw', eS'⟩ := r'
  obtain ⟨b1, b2, b3⟩ := backArgs_spec hd eb
  let W2 : Nat → List Addr := fun i => match slotIx i xs with
    | some j => W' j
    | none => W i
  have w2s : ∀ {i j : Nat}, slotIx i xs = some j → W2 i = W' j := fun {i j} h => by
    show (match slotIx i xs with
      | some j => W' j
      | none => W i) = W' j
    rw [h]
  have w2n : ∀ {i : Nat}, slotIx i xs = none → W2 i = W i := fun {i} h => by
    show (match slotIx i xs with
      | some j => W' j
      | none => W i) = W i
    rw [h]
  have oobj : ∀ {i : Nat}, slotIx i xs = none → objAt ρ2 i = objAt ρ i := fun {i} h => by
    unfold objAt
    rw [b2 i h]
  have sobj : ∀ {i j : Nat}, slotIx i xs = some j → ∃ ob o, as'[j]? = some (SV.b ob) ∧ objAt ρ2 i = some ob ∧ objAt ρ i = some o := fun {i j} h => by
    obtain ⟨ob, e1, z | z⟩ := b3 i j h
    · obtain ⟨⟨o, e2⟩, e3⟩ := z
      exact ⟨ob, o, e1, by unfold objAt; rw [e3], by unfold objAt; rw [e2]⟩
    · obtain ⟨⟨o, e2⟩, e3⟩ := z
      exact ⟨ob, o, e1, by unfold objAt; rw [e3], by unfold objAt; rw [e2]⟩
  -- what a lent object owns behind the call is none of another slot's
  have apart : ∀ {i j k : Nat} {b : Addr}, slotIx i xs = some j → slotIx k xs = none → (objAt ρ k).isSome = true → b ∈ W' j → b ∈ W k → False := fun {i j k b} h1 h2 h3 h4 h5 => by
    obtain ⟨ob, o, e1, _, _⟩ := sobj h1
    have s' : Sc' b := (eS' b).mpr ⟨j, by unfold objAt; rw [e1]; rfl, h4⟩
    rcases st.own b s' with z | z
    · obtain ⟨i2, ob2, j2, k1, k2, k3⟩ := ofSc z
      refine rw.sep i2 k b (fun e => ?_) (by rw [k2]; rfl) h3 k3 h5
      subst e
      rw [slotIx_of hd k1] at h2
      cases h2
    · obtain ⟨o', q, _⟩ := r.mut ((eS b).mpr ⟨k, h3, h5⟩)
      rw [z] at q
      cases q
  refine ⟨SOf ρ2 W2, ⟨W2, ⟨by rw [b1]; exact rw.len, fun i x hx => ?_, fun i x hx => ?_, fun i x hx => ?_, fun i k b hik h1 h2 h3 h4 => ?_⟩, fun b => Iff.rfl⟩, ⟨fun b o hb nb => ?_, fun b hb => ?_⟩, fun b hb => ?_⟩
  · cases e : slotIx i xs with
    | none =>
      rw [b2 i e] at hx
      obtain ⟨v, g1, g2⟩ := rw.dat i x hx
      exact ⟨v, g1, g2.mono kp⟩
    | some j =>
      obtain ⟨ob, _, z | z⟩ := b3 i j e
      · rw [z.2] at hx; cases hx
      · rw [z.2] at hx; cases hx
  · cases e : slotIx i xs with
    | none =>
      rw [oobj e] at hx
      obtain ⟨a, g1, g2⟩ := rw.obj i x hx
      refine ⟨a, g1, ?_⟩
      rw [w2n e]
      refine g2.mono kp fun b hb o ho => st.keep b o ho fun z => ?_
      obtain ⟨i2, ob2, j2, k1, k2, k3⟩ := ofSc z
      refine rw.sep i2 i b (fun e' => ?_) (by rw [k2]; rfl) (by rw [hx]; rfl) k3 hb
      subst e'
      rw [slotIx_of hd k1] at e
      cases e
    | some j =>
      obtain ⟨ob, o, e1, e2, e3⟩ := sobj e
      rw [e2] at hx
      cases hx
      obtain ⟨a, g1, g2⟩ := rw'.obj j x (by unfold objAt; rw [e1])
      rw [w2s e]
      refine ⟨a, ?_, g2⟩
      -- the value lent is the slot's
      have q := slotIx_get e
      have hj : j < as.length := by
        rw [← ar.length]
        have := (List.getElem?_eq_some_iff.mp g1).1
        simpa using this
      obtain ⟨v, l1, l2⟩ := ar.get (List.getElem?_eq_getElem hj)
      rw [List.getElem?_map, l1] at g1
      cases g1
      rcases l2 with ⟨y, l2, _⟩ | ⟨i', ob', _, l3, _, l4⟩
      · have : ∃ v, vs[j]? = some v := ⟨_, l1⟩
        exfalso
        have : ∀ {xs : List OV} {as : List SV} {vs : List V} {j : Nat} {y : PD} {i : Nat}, AR K σ ρ H xs as vs → as[j]? = some (.d y) → xs[j]? = some (.s i) → False := by
          intro xs as vs j y i h
          induction h generalizing j with
          | nil => intro h; simp at h
          | d _ _ ih =>
            intro h1 h2
            cases j with
            | zero => simp at h2
            | succ j => exact ih (j := j) (by simpa using h1) (by simpa using h2)
          | b _ _ _ ih =>
            intro h1 h2
            cases j with
            | zero => simp at h1
            | succ j => exact ih (j := j) (by simpa using h1) (by simpa using h2)
        exact this ar (by rw [List.getElem?_eq_getElem hj, l2]) q
      · rw [q] at l3
        cases l3
        exact l4
  · cases e : slotIx i xs with
    | none =>
      rw [b2 i e] at hx
      exact rw.bor i x hx
    | some j =>
      obtain ⟨ob, _, z | z⟩ := b3 i j e
      · rw [z.2] at hx; cases hx
      · obtain ⟨⟨o, z1⟩, _⟩ := z
        exact rw.bor i o z1
  · cases e : slotIx i xs with
    | none =>
      rw [w2n e] at h3
      rw [oobj e] at h1
      cases e' : slotIx k xs with
      | none =>
        rw [w2n e'] at h4
        rw [oobj e'] at h2
        exact rw.sep i k b hik h1 h2 h3 h4
      | some j =>
        rw [w2s e'] at h4
        exact apart e' e h1 h4 h3
    | some j =>
      rw [w2s e] at h3
      cases e' : slotIx k xs with
      | none =>
        rw [w2n e'] at h4
        rw [oobj e'] at h2
        exact apart e e' h2 h3 h4
      | some j' =>
        rw [w2s e'] at h4
        obtain ⟨ob1, _, q1, _, _⟩ := sobj e
        obtain ⟨ob2, _, q2, _, _⟩ := sobj e'
        refine rw'.sep j j' b (fun z => ?_) (by unfold objAt; rw [q1]; rfl) (by unfold objAt; rw [q2]; rfl) h3 h4
        subst z
        have u1 := slotIx_get e
        have u2 := slotIx_get e'
        rw [u1] at u2
        cases u2
        exact hik rfl
  · exact st.keep b o hb fun z => nb (sub b z)
  · obtain ⟨i, h1, h2⟩ := hb
    cases e : slotIx i xs with
    | none =>
      rw [w2n e] at h2
      rw [oobj e] at h1
      exact .inl ((eS b).mpr ⟨i, h1, h2⟩)
    | some j =>
      rw [w2s e] at h2
      obtain ⟨ob1, _, q1, _, _⟩ := sobj e
      rcases st.own b ((eS' b).mpr ⟨j, by unfold objAt; rw [q1]; rfl, h2⟩) with z | z
      · exact .inl (sub b z)
      · exact .inr z
  · obtain ⟨i, h1, h2⟩ := hb
    cases e : slotIx i xs with
    | none =>
      rw [w2n e] at h2
      rw [oobj e] at h1
      refine .inr ⟨(eS b).mpr ⟨i, h1, h2⟩, fun z => ?_⟩
      obtain ⟨i2, ob2, j2, k1, k2, k3⟩ := ofSc z
      refine rw.sep i2 i b (fun e' => ?_) (by rw [k2]; rfl) h1 k3 h2
      subst e'
      rw [slotIx_of hd k1] at e
      cases e
    | some j =>
      rw [w2s e] at h2
      obtain ⟨ob1, _, q1, _, _⟩ := sobj e
      exact .inl ((eS' b).mpr ⟨j, by unfold objAt; rw [q1]; rfl, h2⟩)
end
/-- what is wanted of an exception, as the hand layer asks it -/
def GW (cv : String → Value) (W : XK) (e : Exc) (H : Hp) : Prop := match e.arg with
  | none => W (cv e.cls) none H
  | some n => ∀ d, H d = some (.xd [("line", .int n)]) → W (cv e.cls) (some d) H
/-- what comes back from a def: data, or an object that is new -/
def RetOk (K : Frag) (fr : Bool) (S : Addr → Prop) (H : Hp) (S' : Addr → Prop) (H' : Hp) (x : PD) (v : V) : Prop := match fr with
  | true => FRok K S H S' H' (.d x) v
  | false => RD K H' x v
/-- a def's promise, from its meaning -/
def spF (K : Frag) (cv : String → Value) (fr : Bool) (m : List SV → Option (Out × List SV)) : Sp := fun vs H Q W => ∃ args S, Rep K (vs.map some) (vs.map some) args H S ∧ (match m args with
  | none => False
  | some (.ret x, args') => ∀ S' H', Rep K (vs.map some) (vs.map some) args' H' S' → Step S H S' H' → ∀ v, RetOk K fr S H S' H' x v → Q v H'
  | some (.exc e, args') => ∀ S' H', Rep K (vs.map some) (vs.map some) args' H' S' → Step S H S' H' → GW cv W e H')
def callR (m : List SV → Option (Out × List SV)) (ms : List Bool) (f : Rho → R (List OV)) (ρ : Rho) : R OV := (f ρ).bind fun xs ρ => if distinctS xs = true then match argsOf ms xs ρ with
      | none => .stuck
      | some args => match m args with
        | none => .stuck
        | some (out, args') => match backArgs xs args' ρ with
          | none => .stuck
          | some ρ => match out with
            | .ret x => .ok (.d x) ρ
            | .exc e => .exc e ρ
      else .stuck
section
variable {X : Cx} {σ0 : L2.St} {cv : String → Value} {W : XK}
/-- what a call asks, from its meaning -/
theorem call_asks {m : List SV → Option (Out × List SV)} {ms : List Bool} {fr : Bool} {f : Rho → R (List OV)} {σ : L2.St} {H : Hp} {Q : VK}
    {QQ : (S : Addr → Prop) → OV → Rho → (Addr → Prop) → Hp → Prop}
    (hQ : ∀ S x ρ S' H', QQ S (.d x) ρ S' H' → ∀ v, RetOk X.K fr S H S' H' x v → Q v H')
    (h : ∃ ρ S, Rep X.K σ0 σ ρ H S ∧ After X.K σ0 (GW cv W) σ S H (callR m ms f ρ) (QQ S)) :
    tAO X.K σ0 (GW cv W) f σ H fun vs H1 => spF X.K cv fr m vs H1 Q W := by
  obtain ⟨ρ, S, r, q⟩ := h
  refine ⟨ρ, S, r, (After.bind (r := f ρ) q).mono fun xs ρ1 S1 H1 r1 s1 q1 vs o => ?_⟩
  try dsimp only at q1
  split at q1
  · rename_i hd
    split at q1
    · exact q1.elim
    · rename_i args ea
      have ar := AR.of o ea
      obtain ⟨Sc, rc, sub, back⟩ := call_rep r1 ar hd
      refine ⟨args, Sc, rc, ?_⟩
      split at q1
      · exact q1.elim
      · rename_i out args' em
        rw [em]
        split at q1
        · exact q1.elim
        · rename_i ρ2 eb
          cases out with
          | ret x =>
            intro S' H' r' st v ro
            obtain ⟨S2, r2, s2, s3⟩ := back H' S' args' ρ2 r' st eb
            have q2 := q1 S2 H' r2 s2
            refine hQ S x ρ2 S2 H' q2 v ?_
            cases fr with
            | false => exact ro
            | true =>
              match x, ro with
              | .list l, ro =>
                obtain ⟨p, ys, h1, h2, h3, h4, h5⟩ := ro
                have h6 : Sc p ∨ H p = none ∨ S p := by
                  rcases h5 with h5 | h5
                  · exact .inl h5
                  · exact (s1.free h5).elim (fun z => .inr (.inr z)) fun z => .inr (.inl z)
                refine ⟨p, ys, h1, h2, h3, fun z => ?_, ?_⟩
                · rcases s3 p z with z | ⟨z1, z2⟩
                  · exact h4 z
                  · rcases h5 with h5 | h5
                    · exact z2 h5
                    · obtain ⟨o', e', _⟩ := r1.mut z1
                      rw [h5] at e'
                      cases e'
                · rcases h5 with h5 | h5
                  · rcases s1.own p (sub p h5) with z | z
                    · exact .inl z
                    · exact .inr z
                  · exact s1.free h5
              | .dict l, ro =>
                obtain ⟨p, h1, h2, h4, h5⟩ := ro
                have h6 : Sc p ∨ H p = none ∨ S p := by
                  rcases h5 with h5 | h5
                  · exact .inl h5
                  · exact (s1.free h5).elim (fun z => .inr (.inr z)) fun z => .inr (.inl z)
                refine ⟨p, h1, h2, fun z => ?_, ?_⟩
                · rcases s3 p z with z | ⟨z1, z2⟩
                  · exact h4 z
                  · rcases h5 with h5 | h5
                    · exact z2 h5
                    · obtain ⟨o', e', _⟩ := r1.mut z1
                      rw [h5] at e'
                      cases e'
                · rcases h5 with h5 | h5
                  · rcases s1.own p (sub p h5) with z | z
                    · exact .inl z
                    · exact .inr z
                  · exact s1.free h5
              | .none, ro => exact ro
              | .bool _, ro => exact ro
              | .int _, ro => exact ro
              | .str _, ro => exact ro
              | .tuple _, ro => exact ro
          | exc e =>
            intro S' H' r' st
            obtain ⟨S2, r2, s2, s3⟩ := back H' S' args' ρ2 r' st eb
            exact q1 S2 H' r2 s2
  · exact q1.elim
variable {k : Nat} {f : Addr} {fd : FuncData} {ps : List Str} {x : Str} {p pos : Pos} {e : Expr} {es : List Expr} {m : List SV → Option (Out × List SV)} {ms : List Bool} {g : Rho → R (List OV)}
theorem sx_call {fr : Bool} (F : FnOk X.prog X.w X.K X.mg X.base (L2.CX X.prog X.w) k f fd ps (spF X.K cv fr m)) (hr : Room k X.A) (hg : Gl X x) (hm : X.mg x = some (.ref f)) (hk : PySem.W.keepIn X.K (.ref f) = true) (hb : Binds X.K fd ps [])
    (tk : Takes X (fun c d _ H => W c d H)) (ha : PA X (e :: es) (tAO X.K σ0 (GW cv W) g)) (hdb : (x == ("__debug__" : Str)) = false) (he : starEach (e :: es) X.env = (false, eval e X.env) :: starEach es X.env) (hpl : (backTo pos (starEach es X.env)).any (·.1) = false) :
    PE X (.Call (.Name x p) (e :: es) [] pos) (fun σ H Q => tAO X.K σ0 (GW cv W) g σ H fun vs H1 => spF X.K cv fr m vs H1 Q W) := by
  refine pe_conseq (pe_call F hr hg hm hk hb .nil (passes_call tk fun c d σ H h => h) ha hdb he hpl) fun σ H Q h => ?_
  obtain ⟨ρ, S, r, q⟩ := h
  refine ⟨ρ, S, r, q.mono fun xs ρ1 S1 H1 r1 s1 q1 vs o => ?_⟩
  show spF X.K cv fr m (vs ++ []) H1 Q W
  rw [List.append_nil]
  exact q1 vs o
theorem se_call (F : FnOk X.prog X.w X.K X.mg X.base (L2.CX X.prog X.w) k f fd ps (spF X.K cv false m)) (hr : Room k X.A) (hg : Gl X x) (hm : X.mg x = some (.ref f)) (hk : PySem.W.keepIn X.K (.ref f) = true) (hb : Binds X.K fd ps [])
    (tk : Takes X (fun c d _ H => W c d H)) (ha : PA X (e :: es) (tAO X.K σ0 (GW cv W) g)) (hdb : (x == ("__debug__" : Str)) = false) (he : starEach (e :: es) X.env = (false, eval e X.env) :: starEach es X.env) (hpl : (backTo pos (starEach es X.env)).any (·.1) = false) :
    PE X (.Call (.Name x p) (e :: es) [] pos) (tE X.K σ0 (GW cv W) (callR m ms g)) := by
  refine pe_conseq (sx_call F hr hg hm hk hb tk ha hdb he hpl) fun σ H Q ⟨ρ, S, r, q⟩ => ?_
  exact call_asks (fr := false) (QQ := fun _ x _ _ H' => ∀ v, OVok X.K σ H' x v → Q v H') (fun S x ρ S' H' q v ro => q v ro) ⟨ρ, S, r, q⟩
theorem sf_call (F : FnOk X.prog X.w X.K X.mg X.base (L2.CX X.prog X.w) k f fd ps (spF X.K cv true m)) (hr : Room k X.A) (hg : Gl X x) (hm : X.mg x = some (.ref f)) (hk : PySem.W.keepIn X.K (.ref f) = true) (hb : Binds X.K fd ps [])
    (tk : Takes X (fun c d _ H => W c d H)) (ha : PA X (e :: es) (tAO X.K σ0 (GW cv W) g)) (hdb : (x == ("__debug__" : Str)) = false) (he : starEach (e :: es) X.env = (false, eval e X.env) :: starEach es X.env) (hpl : (backTo pos (starEach es X.env)).any (·.1) = false) :
    PE X (.Call (.Name x p) (e :: es) [] pos) (tF X.K σ0 (GW cv W) (callR m ms g)) := by
  refine pe_conseq (sx_call F hr hg hm hk hb tk ha hdb he hpl) fun σ H Q ⟨ρ, S, r, q⟩ => ?_
  exact call_asks (fr := true) (QQ := fun S x _ S' H' => ∀ v, FRok X.K S H S' H' x v → Q v H') (fun S x ρ S' H' q v ro => q v ro) ⟨ρ, S, r, q⟩
theorem sx_call0 {fr : Bool} (F : FnOk X.prog X.w X.K X.mg X.base (L2.CX X.prog X.w) k f fd ps (spF X.K cv fr m)) (hr : Room k X.A) (hg : Gl X x) (hm : X.mg x = some (.ref f)) (hk : PySem.W.keepIn X.K (.ref f) = true) (hb : Binds X.K fd ps [])
    (tk : Takes X (fun c d _ H => W c d H)) (hdb : (x == ("__debug__" : Str)) = false) :
    PE X (.Call (.Name x p) [] [] pos) (fun σ H Q => tAO X.K σ0 (GW cv W) (fun ρ => .ok [] ρ) σ H fun vs H1 => spF X.K cv fr m vs H1 Q W) := by
  refine pe_conseq (pe_call0 F hr hg hm hk hb .nil (passes_call tk fun c d σ H h => h) hdb) fun σ H Q h => ?_
  obtain ⟨ρ, S, r, q⟩ := h
  exact q.ok r [] .nil
theorem se_call0 (F : FnOk X.prog X.w X.K X.mg X.base (L2.CX X.prog X.w) k f fd ps (spF X.K cv false m)) (hr : Room k X.A) (hg : Gl X x) (hm : X.mg x = some (.ref f)) (hk : PySem.W.keepIn X.K (.ref f) = true) (hb : Binds X.K fd ps [])
    (tk : Takes X (fun c d _ H => W c d H)) (hdb : (x == ("__debug__" : Str)) = false) :
    PE X (.Call (.Name x p) [] [] pos) (tE X.K σ0 (GW cv W) (callR m ms fun ρ => .ok [] ρ)) := by
  refine pe_conseq (sx_call0 (σ0 := σ0) F hr hg hm hk hb tk hdb) fun σ H Q ⟨ρ, S, r, q⟩ => ?_
  exact call_asks (fr := false) (QQ := fun _ x _ _ H' => ∀ v, OVok X.K σ H' x v → Q v H') (fun S x ρ S' H' q v ro => q v ro) ⟨ρ, S, r, q⟩
theorem sf_call0 (F : FnOk X.prog X.w X.K X.mg X.base (L2.CX X.prog X.w) k f fd ps (spF X.K cv true m)) (hr : Room k X.A) (hg : Gl X x) (hm : X.mg x = some (.ref f)) (hk : PySem.W.keepIn X.K (.ref f) = true) (hb : Binds X.K fd ps [])
    (tk : Takes X (fun c d _ H => W c d H)) (hdb : (x == ("__debug__" : Str)) = false) :
    PE X (.Call (.Name x p) [] [] pos) (tF X.K σ0 (GW cv W) (callR m ms fun ρ => .ok [] ρ)) := by
  refine pe_conseq (sx_call0 (σ0 := σ0) F hr hg hm hk hb tk hdb) fun σ H Q ⟨ρ, S, r, q⟩ => ?_
  exact call_asks (fr := true) (QQ := fun S x _ S' H' => ∀ v, FRok X.K S H S' H' x v → Q v H') (fun S x ρ S' H' q v ro => q v ro) ⟨ρ, S, r, q⟩
end
end Er

set_option Elab.async false
set_option linter.all false
set_option maxRecDepth 100000
set_option maxHeartbeats 2000000
/-! C10: targets, statements. -/
namespace Er
open PySem L2
variable [Wd]
section
variable {K : Frag} {σ0 σ : L2.St} {ρ ρ' : Rho} {H : Hp} {S : Addr → Prop}
omit [Wd] in
theorem put_spec {i : Nat} {y : SV} (h : put ρ i y = some ρ') : i < ρ.length ∧ ρ' = ρ.set i y ∧ ∀ o, ρ[i]? ≠ some (SV.b o) := by
  unfold put at h
  split at h
  · cases h
  · rename_i x e n
    cases h
    refine ⟨(List.getElem?_eq_some_iff.mp n).1, rfl, fun o z => ?_⟩
    rw [n] at z
    cases z
    exact e _ rfl
  · cases h
omit [Wd] in
theorem objAt_set_ne {i j : Nat} {y : SV} (h : j ≠ i) : objAt (ρ.set i y) j = objAt ρ j := by
  unfold objAt
  rw [List.getElem?_set_ne (Ne.symm h)]
omit [Wd] in
theorem objAt_set_d {i : Nat} {x : PD} : objAt (ρ.set i (.d x)) i = none := by
  unfold objAt
  by_cases h : i < ρ.length
  · rw [List.getElem?_set_self h]
  · rw [List.getElem?_eq_none (by rw [List.length_set]; omega)]
/-- data is stored in a slot -/
theorem Rep.put {i : Nat} {x : PD} {v : V} (r : Rep K σ0 σ ρ H S) (h : put ρ i (.d x) = some ρ') (rd : RD K H x v) : ∃ S', Rep K σ0 (σ.set i (some v)) ρ' H S' ∧ ∀ b, S' b → S b := by
  obtain ⟨W, rw, eS⟩ := r
  obtain ⟨hi, rfl, nb⟩ := put_spec h
  have hs : i < σ.length := by rw [rw.len]; exact hi
  refine ⟨SOf (ρ.set i (.d x)) W, ⟨W, ⟨by rw [List.length_set, List.length_set]; exact rw.len, fun j y hy => ?_, fun j y hy => ?_, fun j y hy => ?_, fun j k b hjk h1 h2 => ?_⟩, fun b => Iff.rfl⟩, fun b hb => ?_⟩
  · by_cases hj : j = i
    · subst hj
      rw [List.getElem?_set_self hi] at hy
      cases hy
      exact ⟨v, List.getElem?_set_self hs, rd⟩
    · rw [List.getElem?_set_ne (Ne.symm hj)] at hy
      rw [List.getElem?_set_ne (Ne.symm hj)]
      exact rw.dat j y hy
  · by_cases hj : j = i
    · subst hj
      rw [objAt_set_d] at hy
      cases hy
    · rw [objAt_set_ne hj] at hy
      rw [List.getElem?_set_ne (Ne.symm hj)]
      exact rw.obj j y hy
  · by_cases hj : j = i
    · subst hj
      rw [List.getElem?_set_self hi] at hy
      cases hy
    · rw [List.getElem?_set_ne (Ne.symm hj)] at hy
      rw [List.getElem?_set_ne (Ne.symm hj)]
      exact rw.bor j y hy
  · by_cases hj : j = i
    · subst hj
      rw [objAt_set_d] at h1
      cases h1
    · by_cases hk : k = i
      · subst hk
        rw [objAt_set_d] at h2
        cases h2
      · rw [objAt_set_ne hj] at h1
        rw [objAt_set_ne hk] at h2
        exact rw.sep j k b hjk h1 h2
  · obtain ⟨j, h1, h2⟩ := hb
    by_cases hj : j = i
    · subst hj
      rw [objAt_set_d] at h1
      cases h1
    · rw [objAt_set_ne hj] at h1
      exact (eS b).mpr ⟨j, h1, h2⟩
/-- a new object is stored in a slot -/
theorem Rep.putO1 {i : Nat} {ob : OB} {p : Addr} (r : Rep K σ0 σ ρ H S) (h : Er.put ρ i (.o ob) = some ρ') (np : ¬ S p) (ro : RO K H p ob [p]) :
    ∃ S', Rep K σ0 (σ.set i (some (.ref p))) ρ' H S' ∧ ∀ b, S' b → S b ∨ b = p := by
  obtain ⟨W, rw, eS⟩ := r
  obtain ⟨hi, rfl, nb⟩ := put_spec h
  have hs : i < σ.length := by rw [rw.len]; exact hi
  have oi : objAt (ρ.set i (.o ob)) i = some ob := by
    unfold objAt
    rw [List.getElem?_set_self hi]
  let W' : Nat → List Addr := fun j => if j = i then [p] else W j
  have wi : W' i = [p] := if_pos rfl
  have wn : ∀ {j : Nat}, j ≠ i → W' j = W j := fun {j} hj => if_neg hj
  have npW : ∀ {j : Nat}, (objAt ρ j).isSome = true → p ∉ W j := fun {j} hj z => np ((eS p).mpr ⟨j, hj, z⟩)
  refine ⟨SOf (ρ.set i (.o ob)) W', ⟨W', ⟨by rw [List.length_set, List.length_set]; exact rw.len, fun j y hy => ?_, fun j y hy => ?_, fun j y hy => ?_, fun j k b hjk h1 h2 h3 h4 => ?_⟩, fun b => Iff.rfl⟩, fun b hb => ?_⟩
  · by_cases hj : j = i
    · subst hj
      rw [List.getElem?_set_self hi] at hy
      cases hy
    · rw [List.getElem?_set_ne (Ne.symm hj)] at hy
      rw [List.getElem?_set_ne (Ne.symm hj)]
      exact rw.dat j y hy
  · by_cases hj : j = i
    · subst hj
      rw [oi] at hy
      cases hy
      exact ⟨p, List.getElem?_set_self hs, wi.symm ▸ ro⟩
    · rw [objAt_set_ne hj] at hy
      rw [List.getElem?_set_ne (Ne.symm hj), wn hj]
      exact rw.obj j y hy
  · by_cases hj : j = i
    · subst hj
      rw [List.getElem?_set_self hi] at hy
      cases hy
    · rw [List.getElem?_set_ne (Ne.symm hj)] at hy
      rw [List.getElem?_set_ne (Ne.symm hj)]
      exact rw.bor j y hy
  · by_cases hj : j = i
    · subst hj
      have hk : k ≠ j := Ne.symm hjk
      rw [objAt_set_ne hk] at h2
      rw [wi] at h3
      rw [wn hk] at h4
      have e : b = p := by simpa using h3
      subst e
      exact npW h2 h4
    · rw [objAt_set_ne hj] at h1
      rw [wn hj] at h3
      by_cases hk : k = i
      · subst hk
        rw [wi] at h4
        have e : b = p := by simpa using h4
        subst e
        exact npW h1 h3
      · rw [objAt_set_ne hk] at h2
        rw [wn hk] at h4
        exact rw.sep j k b hjk h1 h2 h3 h4
  · obtain ⟨j, h1, h2⟩ := hb
    by_cases hj : j = i
    · subst hj
      rw [wi] at h2
      have e : b = p := by simpa using h2
      subst e
      exact .inr rfl
    · rw [objAt_set_ne hj] at h1
      rw [wn hj] at h2
      exact .inl ((eS b).mpr ⟨j, h1, h2⟩)
theorem Rep.putO {i : Nat} {x : PD} {ob : OB} {v : V} {S0 : Addr → Prop} {H0 : Hp} (r : Rep K σ0 σ ρ H S) (eo : obOf x = some ob) (h : Er.put ρ i (.o ob) = some ρ') (f : FRok K S0 H0 S H (.d x) v) :
    ∃ S', Rep K σ0 (σ.set i (some v)) ρ' H S' ∧ ∀ b, S' b → S b ∨ S0 b ∨ H0 b = none := by
  match x, eo, f with
  | .list l, eo, f =>
    cases eo
    obtain ⟨p, xs, rfl, hp, rd, np, fp⟩ := f
    obtain ⟨S', r', q⟩ := r.putO1 h np ⟨rfl, xs, hp, rd⟩
    exact ⟨S', r', fun b hb => (q b hb).imp id fun (z : b = p) => by rw [z]; exact fp⟩
  | .dict l, eo, f =>
    cases eo
    obtain ⟨p, rfl, hp, np, fp⟩ := f
    obtain ⟨S', r', q⟩ := r.putO1 h np ⟨rfl, hp⟩
    exact ⟨S', r', fun b hb => (q b hb).imp id fun (z : b = p) => by rw [z]; exact fp⟩
  | .none, eo, f => cases eo
  | .bool _, eo, f => cases eo
  | .int _, eo, f => cases eo
  | .str _, eo, f => cases eo
  | .tuple _, eo, f => cases eo
/-- the object of a slot changes -/
theorem Rep.change {i : Nat} {ob ob' : OB} (r : Rep K σ0 σ ρ H S) (e : objAt ρ i = some ob) (h : putObj ρ i ob' = some ρ') :
    ∃ a L, σ[i]? = some (some (.ref a)) ∧ RO K H a ob L ∧ (∀ b ∈ L, S b) ∧ ∀ (H' : Hp) (L' : List Addr), RO K H' a ob' L' → Keeps H H' → (∀ b o, b ∉ L → H b = some o → H' b = some o) → (∀ b ∈ L', b ∈ L ∨ ¬ S b) →
      ∃ S', Rep K σ0 σ ρ' H' S' ∧ ∀ b, S' b → S b ∨ b ∈ L' := by
  obtain ⟨W, rw, eS⟩ := r
  obtain ⟨a, e1, ro⟩ := rw.obj i _ e
  obtain ⟨p1, p2, p3⟩ := putObj_spec h
  have inS : ∀ b ∈ W i, S b := fun b hb => (eS b).mpr ⟨i, by rw [e]; rfl, hb⟩
  refine ⟨a, W i, e1, ro, inS, fun H' L' ro' kp off hL => ?_⟩
  have oi : objAt ρ' i = some ob' := by
    unfold objAt
    rcases p3 with ⟨_, p3⟩ | ⟨_, p3⟩ <;> rw [p3]
  have on : ∀ {j : Nat}, j ≠ i → objAt ρ' j = objAt ρ j := fun {j} hj => by
    unfold objAt
    rw [p2 j hj]
  let W' : Nat → List Addr := fun j => if j = i then L' else W j
  have wi : W' i = L' := if_pos rfl
  have wn : ∀ {j : Nat}, j ≠ i → W' j = W j := fun {j} hj => if_neg hj
  have npW : ∀ {j : Nat} {b : Addr}, j ≠ i → (objAt ρ j).isSome = true → b ∈ L' → b ∈ W j → False := fun {j b} hj h1 h2 h3 => by
    rcases hL b h2 with z | z
    · exact rw.sep j i b hj h1 (by rw [e]; rfl) h3 z
    · exact z ((eS b).mpr ⟨j, h1, h3⟩)
  refine ⟨SOf ρ' W', ⟨W', ⟨by rw [p1]; exact rw.len, fun j y hy => ?_, fun j y hy => ?_, fun j y hy => ?_, fun j k b hjk h1 h2 h3 h4 => ?_⟩, fun b => Iff.rfl⟩, fun b hb => ?_⟩
  · by_cases hj : j = i
    · subst hj
      rcases p3 with ⟨_, p3⟩ | ⟨_, p3⟩ <;> (rw [p3] at hy; cases hy)
    · rw [p2 j hj] at hy
      obtain ⟨v, g1, g2⟩ := rw.dat j y hy
      exact ⟨v, g1, g2.mono kp⟩
  · by_cases hj : j = i
    · subst hj
      rw [oi] at hy
      cases hy
      exact ⟨a, e1, wi.symm ▸ ro'⟩
    · rw [on hj] at hy
      obtain ⟨c, g1, g2⟩ := rw.obj j y hy
      rw [wn hj]
      exact ⟨c, g1, g2.mono kp fun b hb u hu => off b u (fun z => rw.sep j i b hj (by rw [hy]; rfl) (by rw [e]; rfl) hb z) hu⟩
  · by_cases hj : j = i
    · subst hj
      rcases p3 with ⟨⟨o, q⟩, p3⟩ | ⟨⟨o, q⟩, p3⟩
      · rw [p3] at hy; cases hy
      · exact rw.bor j o q
    · rw [p2 j hj] at hy
      exact rw.bor j y hy
  · by_cases hj : j = i
    · subst hj
      have hk : k ≠ j := Ne.symm hjk
      rw [on hk] at h2
      rw [wi] at h3
      rw [wn hk] at h4
      exact npW hk h2 h3 h4
    · rw [on hj] at h1
      rw [wn hj] at h3
      by_cases hk : k = i
      · subst hk
        rw [wi] at h4
        exact npW hj h1 h4 h3
      · rw [on hk] at h2
        rw [wn hk] at h4
        exact rw.sep j k b hjk h1 h2 h3 h4
  · obtain ⟨j, h1, h2⟩ := hb
    by_cases hj : j = i
    · subst hj
      rw [wi] at h2
      exact .inr h2
    · rw [on hj] at h1
      rw [wn hj] at h2
      exact .inl ((eS b).mpr ⟨j, h1, h2⟩)
/-- the dict of a slot is written -/
theorem Rep.writeD {i : Nat} {l l' : List (PD × PD)} (r : Rep K σ0 σ ρ H S) (e : objAt ρ i = some (.dct l)) (h : putObj ρ i (.dct l') = some ρ') :
    ∃ a, σ[i]? = some (some (.ref a)) ∧ DO K H a l ∧ ∀ o, DO K (upd H a o) a l' → ∃ S', Rep K σ0 σ ρ' (upd H a o) S' ∧ Step S H S' (upd H a o) := by
  obtain ⟨a, L, e1, ⟨rfl, hd⟩, inS, f⟩ := r.change e h
  refine ⟨a, e1, hd, fun o hd' => ?_⟩
  obtain ⟨u, hu, nu⟩ := hd.mut
  obtain ⟨S', r', sub⟩ := f _ [a] ⟨rfl, hd'⟩ (keeps_upd hu nu) (fun b o' hb h => by rw [upd_ne (by simpa using hb)]; exact h) fun b hb => .inl hb
  refine ⟨S', r', fun b o' hb nb => ?_, fun b hb => ?_⟩
  · rw [upd_ne (fun z => nb (by rw [z]; exact inS a (by simp)))]
    exact hb
  · rcases sub b hb with z | z
    · exact .inl z
    · exact .inl (inS b z)
/-- the list of a slot is written -/
theorem Rep.write {i : Nat} {l l' : List PD} (r : Rep K σ0 σ ρ H S) (e : objAt ρ i = some (.lst l)) (h : putObj ρ i (.lst l') = some ρ') :
    ∃ a xs, σ[i]? = some (some (.ref a)) ∧ H a = some (.lst xs) ∧ RDs K H l xs ∧ ∀ xs' : List V, (RDs K H l' xs' → Rep K σ0 σ ρ' (upd H a (.lst xs')) S ∧ Step S H S (upd H a (.lst xs')) ∧ Keeps H (upd H a (.lst xs'))) := by
  obtain ⟨W, rw, eS⟩ := r
  obtain ⟨a, e1, eW, xs, e2, rd⟩ := rw.obj i _ e
  obtain ⟨p1, p2, p3⟩ := putObj_spec h
  refine ⟨a, xs, e1, e2, rd, fun xs' rd' => ?_⟩
  have iS : S a := (eS a).mpr ⟨i, by rw [e]; rfl, by rw [eW]; simp⟩
  have kp : Keeps H (upd H a (.lst xs')) := fun b u hb su => by
    rw [upd_ne (fun z => by
      rw [z, e2] at hb
      cases hb
      cases su)]
    exact hb
  have oi : objAt ρ' i = some (.lst l') := by
    unfold objAt
    rcases p3 with ⟨_, p3⟩ | ⟨_, p3⟩ <;> rw [p3]
  have on : ∀ {j : Nat}, j ≠ i → objAt ρ' j = objAt ρ j := fun {j} hj => by
    unfold objAt
    rw [p2 j hj]
  refine ⟨⟨W, ⟨by rw [p1]; exact rw.len, fun j y hy => ?_, fun j y hy => ?_, fun j y hy => ?_, fun j k b hjk h1 h2 h3 h4 => ?_⟩, fun b => ?_⟩, ⟨fun b u hb nb => ?_, fun b hb => .inl hb⟩, kp⟩
  · by_cases hj : j = i
    · subst hj
      rcases p3 with ⟨_, p3⟩ | ⟨_, p3⟩ <;> (rw [p3] at hy; cases hy)
    · rw [p2 j hj] at hy
      obtain ⟨v, g1, g2⟩ := rw.dat j y hy
      exact ⟨v, g1, g2.mono kp⟩
  · by_cases hj : j = i
    · subst hj
      rw [oi] at hy
      cases hy
      exact ⟨a, e1, eW, xs', upd_same, rd'.mono kp⟩
    · rw [on hj] at hy
      obtain ⟨c, g1, g2⟩ := rw.obj j y hy
      refine ⟨c, g1, g2.mono kp fun b hb u hu => ?_⟩
      rw [upd_ne (fun z => by
        subst z
        exact rw.sep j i b hj (by rw [hy]; rfl) (by rw [e]; rfl) hb (by rw [eW]; simp))]
      exact hu
  · by_cases hj : j = i
    · subst hj
      rcases p3 with ⟨⟨o, q⟩, p3⟩ | ⟨⟨o, q⟩, p3⟩
      · rw [p3] at hy; cases hy
      · exact rw.bor j o q
    · rw [p2 j hj] at hy
      exact rw.bor j y hy
  · have f : ∀ {j : Nat}, (objAt ρ' j).isSome = true → (objAt ρ j).isSome = true := fun {j} h => by
      by_cases hj : j = i
      · subst hj; rw [e]; rfl
      · rw [on hj] at h; exact h
    exact rw.sep j k b hjk (f h1) (f h2) h3 h4
  · refine (eS b).trans ⟨fun ⟨j, h1, h2⟩ => ⟨j, ?_, h2⟩, fun ⟨j, h1, h2⟩ => ⟨j, ?_, h2⟩⟩
    · by_cases hj : j = i
      · subst hj; rw [oi]; rfl
      · rw [on hj]; exact h1
    · by_cases hj : j = i
      · subst hj; rw [e]; rfl
      · rw [on hj] at h1; exact h1
  · rw [upd_ne (fun z => nb (by rw [z]; exact iS))]
    exact hb
end

/-! ### targets -/
section
variable (K : Frag) (σ0 : L2.St)
def tG (t : Tg) : TG := fun v σ H Q => ∃ x ρ S, Rep K σ0 σ ρ H S ∧ RD K H x v ∧ ∃ ρ', asgR t x ρ = some ρ' ∧ ∀ (σ' : L2.St) S', Rep K σ0 σ' ρ' H S' → (∀ b, S' b → S b) → σ'.length = σ.length → (∀ i, i ∉ tgS t → σ'[i]? = σ[i]?) → Q σ' H
def tGs (t : List Tg) : TGs := fun vs σ H Q => ∃ xs ρ S, Rep K σ0 σ ρ H S ∧ RDs K H xs vs ∧ ∃ ρ', asgRs t xs ρ = some ρ' ∧ ∀ (σ' : L2.St) S', Rep K σ0 σ' ρ' H S' → (∀ b, S' b → S b) → σ'.length = σ.length → (∀ i, i ∉ tgSs t → σ'[i]? = σ[i]?) → Q σ' H
end
theorem pgs_conseq {X : Cx} {e : List Expr} {t t' : TGs} (h : PGs X e t) (i : ∀ v σ H Q, t' v σ H Q → t v σ H Q) : PGs X e t' :=
  ⟨fun pins s σ H v u Q I r q => h.run pins s σ H v u Q I r (i v σ H Q q)⟩
section
variable {X : Cx} {σ0 : L2.St} {pos : Pos}
theorem sg_name {i : Nat} {x : Str} (hN : X.N.Nodup) (hi : X.N[i]? = some x) (hx : Loc X.env.scope x) (hf : X.fn x = true ∨ X.env.scope.names.lookup x = some .local) : PG X (.Name x pos) (tG X.K σ0 (.n i)) := by
  refine pg_conseq (pg_name hN hi hx hf) fun v σ H Q ⟨x, ρ, S, r, rd, ρ', e, q⟩ => ?_
  obtain ⟨S', r', sub⟩ := r.put e rd
  refine q _ S' r' sub List.length_set fun j hj => List.getElem?_set_ne fun z => hj ?_
  simp [tgS, z]
theorem sg_nil : PGs X [] (tGs X.K σ0 []) := by
  refine pgs_conseq pgs_nil fun v σ H Q ⟨xs, ρ, S, r, rd, ρ', e, q⟩ => ?_
  cases rd with
  | nil => cases e; exact ⟨rfl, q σ S r (fun _ h => h) rfl fun _ _ => rfl⟩
  | cons => cases e
theorem sg_cons {e : Expr} {es : List Expr} {t : Tg} {ts : List Tg} (h1 : PG X e (tG X.K σ0 t)) (h2 : PGs X es (tGs X.K σ0 ts)) (hs : (assignEach (e :: es) X.env).map (·.2) = assign e X.env :: (assignEach es X.env).map (·.2)) :
    PGs X (e :: es) (tGs X.K σ0 (t :: ts)) := by
  refine pgs_conseq (pgs_cons h1 h2 hs) fun v σ H Q ⟨xs, ρ, S, r, rd, ρ', e, q⟩ => ?_
  cases rd with
  | nil => cases e
  | cons rd rds =>
    obtain ⟨ρ1, e1, e2⟩ := Option.bind_eq_some_iff.mp e
    refine ⟨_, _, rfl, _, ρ, S, r, rd, ρ1, e1, fun σ1 S1 r1 sub1 l1 g1 => ?_⟩
    refine ⟨_, ρ1, S1, r1, rds, ρ', e2, fun σ2 S2 r2 sub2 l2 g2 => q σ2 S2 r2 (fun b h => sub1 b (sub2 b h)) (l2.trans l1) fun i hi => ?_⟩
    have hi : i ∉ tgS t ++ tgSs ts := hi
    rw [List.mem_append, not_or] at hi
    rw [g2 i hi.2, g1 i hi.1]
theorem sg_tup {es : List Expr} {k : Nat} {ts : List Tg} (hc : X.calm = true) (h : PGs X es (tGs X.K σ0 ts)) (hn : (assignEach es X.env).length = ts.length) (hst : (assignEach es X.env).findIdx? (·.1) = none) :
    PG X (.Tuple es k pos) (tG X.K σ0 (.t ts)) := by
  refine pg_conseq (pg_tup hc h hn hst) fun v σ H Q ⟨x, ρ, S, r, rd, ρ', e, q⟩ => ?_
  match x, rd, e with
  | .tuple xs, rd, e =>
    cases rd with
    | tup ht rds =>
      have hl : ∀ {ts : List Tg} {xs : List PD} {ρ ρ' : Rho}, asgRs ts xs ρ = some ρ' → xs.length = ts.length := by
        intro ts
        induction ts with
        | nil => intro xs ρ ρ' h; cases xs with | nil => rfl | cons => cases h
        | cons t ts ih =>
          intro xs ρ ρ' h
          cases xs with
          | nil => cases h
          | cons x xs =>
            obtain ⟨ρ1, _, e2⟩ := Option.bind_eq_some_iff.mp h
            simp [ih e2]
      exact ⟨_, _, rfl, ht, by rw [← rds.length]; exact hl e, xs, ρ, S, r, rds, ρ', e, q⟩
  | .none, rd, e => cases e
  | .bool _, rd, e => cases e
  | .int _, rd, e => cases e
  | .str _, rd, e => cases e
  | .list _, rd, e => cases e
  | .dict _, rd, e => cases e
end
end Er

set_option Elab.async false
set_option linter.all false
set_option maxRecDepth 100000
set_option maxHeartbeats 2000000
/-! C11: statements. -/
namespace Er
open PySem L2
variable [Wd]
section
variable (K : Frag) (σ0 : L2.St) (E : Exc → Hp → Prop) (fr : Bool)
def AftS (S : Addr → Prop) (H : Hp) (r : R Flow) (D : Ends) : Prop := match r with
  | .stuck => False
  | .ok .next ρ => ∀ σ' S' H', Rep K σ0 σ' ρ H' S' → Step S H S' H' → D.nx σ' H'
  | .ok (.ret x) ρ => ∀ σ' S' H', Rep K σ0 σ' ρ H' S' → Step S H S' H' → ∀ v, RetOk K fr S H S' H' x v → D.rt v H'
  | .exc e ρ => ∀ σ' S' H', Rep K σ0 σ' ρ H' S' → Step S H S' H' → E e H'
def tS (f : Rho → R Flow) : TS := fun D σ H => ∃ ρ S, Rep K σ0 σ ρ H S ∧ AftS K σ0 E fr S H (f ρ) D
end
section
variable {K : Frag} {σ0 : L2.St} {E : Exc → Hp → Prop} {fr : Bool} {S S1 : Addr → Prop} {H H1 : Hp}
theorem RetOk.back {S' : Addr → Prop} {H' : Hp} {x : PD} {v : V} (st : Step S H S1 H1) (h : RetOk K fr S1 H1 S' H' x v) : RetOk K fr S H S' H' x v := by
  cases fr with
  | false => exact h
  | true => exact FRok.back st h
theorem AftS.then {r : R Flow} {D : Ends} (st : Step S H S1 H1) (h : AftS K σ0 E fr S H r D) : AftS K σ0 E fr S1 H1 r D := by
  cases r with
  | stuck => exact h
  | ok f ρ =>
    cases f with
    | next => exact fun σ' S' H' r' s' => h σ' S' H' r' (st.trans s')
    | ret x => exact fun σ' S' H' r' s' v ro => h σ' S' H' r' (st.trans s') v (ro.back st)
  | exc e ρ => exact fun σ' S' H' r' s' => h σ' S' H' r' (st.trans s')
theorem AftS.mono {r : R Flow} {D D' : Ends} (h : AftS K σ0 E fr S H r D) (i : ∀ σ H, D.nx σ H → D'.nx σ H) (j : ∀ v H, D.rt v H → D'.rt v H) : AftS K σ0 E fr S H r D' := by
  cases r with
  | stuck => exact h
  | ok f ρ =>
    cases f with
    | next => exact fun σ' S' H' r' s' => i _ _ (h σ' S' H' r' s')
    | ret x => exact fun σ' S' H' r' s' v ro => j _ _ (h σ' S' H' r' s' v ro)
  | exc e ρ => exact h
/-- an expression, then statements -/
theorem AftS.bindE {α : Type} {σ : L2.St} {r : R α} {g : α → Rho → R Flow} {D : Ends} (h : AftS K σ0 E fr S H (r.bind g) D) :
    After K σ0 E σ S H r fun x ρ S' H' => AftS K σ0 E fr S' H' (g x ρ) D := by
  cases r with
  | stuck => exact h
  | ok x ρ => exact fun S' H' _ b => AftS.then b h
  | exc e ρ => exact fun S' H' a b => h σ S' H' a b
end
section
variable {X : Cx} {σ0 : L2.St} {E : Exc → Hp → Prop} {fr : Bool} {pos : Pos}
theorem ps_fz {st : Stmt} {t : TS} (h : PS X st t) : PS X st (fun D σ H => t { D with nx := fun σ' H' => Fz (D.nx σ') H' } σ H) := by
  refine ⟨fun pins s σ H D I q => thn (h.run pins s σ H _ I q) fun f s1 q1 => ?_⟩
  cases f with
  | next =>
    obtain ⟨σ', H', I', q1⟩ := q1
    obtain ⟨H2, I2, q2⟩ := inv_fz q1 I'
    exact ⟨σ', H2, I2, q2⟩
  | ret v => exact q1
  | brk => exact q1
  | cont => exact q1
theorem ss_nil : PSs X [] (tS X.K σ0 E fr fun ρ => .ok .next ρ) := by
  refine pss_conseq pss_nil fun D σ H ⟨ρ, S, r, q⟩ => ?_
  exact q σ S H r (Step.refl S H)
theorem ss_cons {st : Stmt} {l : List Stmt} {f g : Rho → R Flow} (h : PS X st (tS X.K σ0 E fr f)) (hl : PSs X l (tS X.K σ0 E fr g)) :
    PSs X (st :: l) (tS X.K σ0 E fr fun ρ => (f ρ).bind fun x ρ => match x with
      | .next => g ρ
      | .ret x => .ok (.ret x) ρ) := by
  refine pss_conseq (pss_cons h hl) fun D σ H ⟨ρ, S, r, q⟩ => ?_
  refine ⟨ρ, S, r, ?_⟩
  have q : AftS X.K σ0 E fr S H ((f ρ).bind fun x ρ => match x with
      | .next => g ρ
      | .ret x => .ok (.ret x) ρ) D := q
  revert q
  cases f ρ with
  | stuck => exact fun q => q
  | exc e ρ' => exact fun q => q
  | ok x ρ' =>
    cases x with
    | ret x => exact fun q => q
    | next => exact fun q σ' S' H' r' s' => ⟨ρ', S', r', AftS.then s' q⟩
/-- x = e, e data -/
theorem ss_set {st : Stmt} {te : TE} {f : Rho → R OV} {i : Nat} (h : PS X st (tAsg te (gName i))) (hr : ∀ σ H Q, tE X.K σ0 E f σ H Q → te σ H Q) :
    PS X st (tS X.K σ0 E fr fun ρ => (f ρ).bind fun x ρ => (esc x ρ).bind fun x ρ => match put ρ i (.d x) with
      | some ρ => .ok .next ρ
      | none => .stuck) := by
  refine ps_conseq h fun D σ H ⟨ρ, S, r, q⟩ => hr σ H _ ⟨ρ, S, r, (AftS.bindE (r := f ρ) q).mono fun x ρ1 S1 H1 r1 s1 q1 v o => ?_⟩
  cases x with
  | s j => exact q1.elim
  | d y =>
    have q1 : AftS X.K σ0 E fr S1 H1 (match put ρ1 i (.d y) with
      | some ρ => .ok .next ρ
      | none => .stuck) D := q1
    split at q1
    · rename_i ρ2 e
      obtain ⟨S2, r2, sub⟩ := r1.put e o
      exact q1 _ S2 H1 r2 ⟨fun _ _ h _ => h, fun b h => .inl (sub b h)⟩
    · exact q1.elim
/-- .. made here, then frozen -/
theorem ss_setF {st : Stmt} {te : TE} {f : Rho → R OV} {i : Nat} (h : PS X st (tAsg te (gName i))) (hr : ∀ σ H Q, tF X.K σ0 E f σ H Q → te σ H Q) :
    PS X st (tS X.K σ0 E fr fun ρ => (f ρ).bind fun x ρ => (esc x ρ).bind fun x ρ => match put ρ i (.d x) with
      | some ρ => .ok .next ρ
      | none => .stuck) := by
  refine ps_conseq (ps_fz h) fun D σ H ⟨ρ, S, r, q⟩ => hr σ H _ (tF_of (Q := fun v H1 => D.nx (σ.set i (some v)) H1) ⟨ρ, S, r, (AftS.bindE (r := f ρ) q).mono fun x ρ1 S1 H1 r1 s1 q1 v o => ?_⟩)
  cases x with
  | s j => exact q1.elim
  | d y =>
    have q1 : AftS X.K σ0 E fr S1 H1 (match put ρ1 i (.d y) with
      | some ρ => .ok .next ρ
      | none => .stuck) D := q1
    split at q1
    · rename_i ρ2 e
      obtain ⟨S2, r2, sub⟩ := r1.put e o
      exact q1 _ S2 H1 r2 ⟨fun _ _ h _ => h, fun b h => .inl (sub b h)⟩
    · exact q1.elim
/-- .. made here, and changeable -/
theorem ss_setO {st : Stmt} {te : TE} {f : Rho → R OV} {i : Nat} (h : PS X st (tAsg te (gName i))) (hr : ∀ σ H Q, tF X.K σ0 E f σ H Q → te σ H Q) :
    PS X st (tS X.K σ0 E fr fun ρ => (f ρ).bind fun x ρ => match x with
      | .d x => match obOf x with
        | some ob => match put ρ i (.o ob) with
          | some ρ => .ok .next ρ
          | none => .stuck
        | none => .stuck
      | .s _ => .stuck) := by
  refine ps_conseq h fun D σ H ⟨ρ, S, r, q⟩ => hr σ H _ ⟨ρ, S, r, ?_⟩
  have q : AftS X.K σ0 E fr S H ((f ρ).bind fun x ρ => match x with
      | .d x => match obOf x with
        | some ob => match put ρ i (.o ob) with
          | some ρ => .ok .next ρ
          | none => .stuck
        | none => .stuck
      | .s _ => .stuck) D := q
  revert q
  cases f ρ with
  | stuck => exact fun q => q
  | exc e ρ' => exact fun q S' H' a b => q σ S' H' a b
  | ok x ρ' =>
    intro q S1 H1 r1 s1 v o
    cases x with
    | s j => exact q.elim
    | d y =>
      have q : AftS X.K σ0 E fr S H (match obOf y with
        | some ob => match put ρ' i (.o ob) with
          | some ρ => .ok .next ρ
          | none => .stuck
        | none => .stuck) D := q
      split at q
      · rename_i ob eo
        split at q
        · rename_i ρ2 e
          obtain ⟨S2, r2, sub⟩ := r1.putO eo e o
          refine q _ S2 H1 r2 ⟨s1.keep, fun b hb => ?_⟩
          rcases sub b hb with z | z
          · exact s1.own b z
          · exact z
        · exact q.elim
      · exact q.elim
/-- (a, b, ..) = e -/
theorem ss_asg {tg e : Expr} {t : Tg} {f : Rho → R OV} (he : PE X e (tE X.K σ0 E f)) (hg : PG X tg (tG X.K σ0 t)) (hs : swapsWithSole [tg] e pos.line X.env = pure false) (hw : swappedStores [tg] e X.env = pure none)
    (h1 : (assignEach [tg] X.env).map (·.2) = [assign tg X.env]) : PS X (.Assign [tg] e pos) (tS X.K σ0 E fr fun ρ => (f ρ).bind fun x ρ => (esc x ρ).bind fun x ρ => match asgR t x ρ with
      | some ρ => .ok .next ρ
      | none => .stuck) := by
  refine ps_conseq (ps_asg he hg hs hw h1) fun D σ H ⟨ρ, S, r, q⟩ => ?_
  refine ⟨ρ, S, r, (AftS.bindE (r := f ρ) q).mono fun x ρ1 S1 H1 r1 s1 q1 v o => ?_⟩
  cases x with
  | s j => exact q1.elim
  | d y =>
    have q1 : AftS X.K σ0 E fr S1 H1 (match asgR t y ρ1 with
      | some ρ => .ok .next ρ
      | none => .stuck) D := q1
    split at q1
    · rename_i ρ2 e
      exact ⟨y, ρ1, S1, r1, o, ρ2, e, fun σ' S' r' sub _ _ => q1 σ' S' H1 r' ⟨fun _ _ h _ => h, fun b h => .inl (sub b h)⟩⟩
    · exact q1.elim
theorem ss_ex {e : Expr} {f : Rho → R OV} (he : PE X e (tE X.K σ0 E f)) (hs : swapsWith e none pos.line X.env = pure false) : PS X (.Expr e pos) (tS X.K σ0 E fr fun ρ => (f ρ).bind fun _ ρ => .ok .next ρ) := by
  refine ps_conseq (ps_expr he hs) fun D σ H ⟨ρ, S, r, q⟩ => ?_
  exact ⟨ρ, S, r, (AftS.bindE (r := f ρ) q).mono fun x ρ1 S1 H1 r1 s1 q1 v o => q1 σ S1 H1 r1 (Step.refl S1 H1)⟩
theorem ss_ret {e : Expr} {f : Rho → R OV} (he : PE X e (tE X.K σ0 E f)) : PS X (.Return (some e) pos) (tS X.K σ0 E false fun ρ => (f ρ).bind fun x ρ => (esc x ρ).bind fun x ρ => .ok (.ret x) ρ) := by
  refine ps_conseq (ps_ret he) fun D σ H ⟨ρ, S, r, q⟩ => ?_
  refine ⟨ρ, S, r, (AftS.bindE (r := f ρ) q).mono fun x ρ1 S1 H1 r1 s1 q1 v o => ?_⟩
  cases x with
  | s j => exact q1.elim
  | d y => exact q1 σ S1 H1 r1 (Step.refl S1 H1) v o
theorem ss_retO {e : Expr} {f : Rho → R OV} (he : PE X e (tF X.K σ0 E f)) : PS X (.Return (some e) pos) (tS X.K σ0 E true fun ρ => (f ρ).bind fun x ρ => match x with
    | .d x => .ok (.ret x) ρ
    | .s _ => .stuck) := by
  refine ps_conseq (ps_ret he) fun D σ H ⟨ρ, S, r, q⟩ => ⟨ρ, S, r, ?_⟩
  have q : AftS X.K σ0 E true S H ((f ρ).bind fun x ρ => match x with
    | .d x => .ok (.ret x) ρ
    | .s _ => .stuck) D := q
  revert q
  cases f ρ with
  | stuck => exact fun q => q
  | exc e ρ' => exact fun q S' H' a b => q σ S' H' a b
  | ok x ρ' =>
    intro q S1 H1 r1 s1 v o
    cases x with
    | s j => exact q.elim
    | d y => exact q σ S1 H1 r1 s1 v o
theorem ss_ite {c : Expr} {a b : List Stmt} {fc : Rho → R OV} {fa fb : Rho → R Flow} (hc : PT X c (tB X.K σ0 E fc)) (ha : PSs X a (tS X.K σ0 E fr fa)) (hb : PSs X b (tS X.K σ0 E fr fb)) :
    PS X (.If c a b pos) (tS X.K σ0 E fr fun ρ => (fc ρ).bind fun x ρ => match needB x with
      | some true => fa ρ
      | some false => fb ρ
      | none => .stuck) := by
  refine ps_conseq (ps_if hc ha hb) fun D σ H ⟨ρ, S, r, q⟩ => ?_
  refine ⟨ρ, S, r, (AftS.bindE (r := fc ρ) q).mono fun x ρ1 S1 H1 r1 s1 q1 => ?_⟩
  try dsimp only at q1
  split at q1
  · rename_i e
    exact ⟨true, e, iteT ⟨ρ1, S1, r1, q1⟩⟩
  · rename_i e
    exact ⟨false, e, iteF ⟨ρ1, S1, r1, q1⟩⟩
  · exact q1.elim
/-- slot[k] = e -/
theorem ss_putIx {o k e : Expr} {i : Nat} {x : Str} {po sp : Pos} {f g : Rho → R OV} (hN : X.N[i]? = some x) (hv : Vis X.env.scope x) (hd : (x == ("__debug__" : Str)) = false) (hcd : (x == ("__classdict__" : Str)) = false)
    (he : PE X e (tE X.K σ0 E f)) (hk : PE X k (tE X.K σ0 E g))
    (rule : ∀ {te to ti : TE} {t : TSet}, PE X e te → PE X (.Name x po) to → PE X k ti → PSet X t → PS X (.Assign [.Subscript (.Name x po) k sp] e pos) (tAsg te (gSub to ti t))) :
    PS X (.Assign [.Subscript (.Name x po) k sp] e pos) (tS X.K σ0 E fr fun ρ => (f ρ).bind fun x ρ => (esc x ρ).bind fun x ρ => match objAt ρ i with
      | none => .stuck
      | some _ => (g ρ).bind fun y ρ => match objAt ρ i, y with
        | some (.lst l), .d (.int j) => match ixN l.length j with
          | some n => match putObj ρ i (.lst (l.set n x)) with
            | some ρ => .ok .next ρ
            | none => .stuck
          | none => .stuck
        | _, _ => .stuck) := by
  refine ps_conseq (rule he (pe_var (pos := po) hN hv hd hcd) hk set_list) fun D σ H ⟨ρ, S, r, q⟩ => ?_
  refine ⟨ρ, S, r, (AftS.bindE (r := f ρ) q).mono fun x ρ1 S1 H1 r1 s1 q1 v o => ?_⟩
  cases x with
  | s j => exact q1.elim
  | d d1 =>
    have q1 : AftS X.K σ0 E fr S1 H1 (match objAt ρ1 i with
      | none => .stuck
      | some _ => (g ρ1).bind fun y ρ => match objAt ρ i, y with
        | some (.lst l), .d (.int j) => match ixN l.length j with
          | some n => match putObj ρ i (.lst (l.set n d1)) with
            | some ρ => .ok .next ρ
            | none => .stuck
          | none => .stuck
        | _, _ => .stuck) D := q1
    split at q1
    · exact q1.elim
    · rename_i ob hob
      obtain ⟨W, rw, _⟩ := id r1
      obtain ⟨a, ea, _⟩ := rw.obj i ob hob
      refine ⟨_, ea, ρ1, S1, r1, (AftS.bindE (r := g ρ1) q1).mono fun y ρ2 S2 H2 r2 s2 q2 w o2 => ?_⟩
      cases eo : objAt ρ2 i with
      | none =>
        rw [eo] at q2
        exact q2.elim
      | some ob2 =>
        rw [eo] at q2
        match ob2, y, eo, o2, q2 with
        | .lst l, .d (.int j), eo, o2, q2 =>
          try dsimp only at q2
          split at q2
          · rename_i n en
            split at q2
            · rename_i ρ3 e3
              have o2 : RD X.K H2 (.int j) w := o2
              cases o2
              obtain ⟨a', xs, e1, e2, rd, f3⟩ := r2.write eo e3
              rw [ea] at e1
              cases e1
              have ov : RD X.K H2 d1 v := RD.mono (r1.keeps s2) o
              obtain ⟨r3, s3, _⟩ := f3 (xs.set n v) (RDs.set ov n rd)
              refine ⟨a, xs, j, n, rfl, rfl, e2, by rw [← rd.length]; exact en, ?_⟩
              exact q2 σ S2 _ r3 s3
            · exact q2.elim
          · exact q2.elim
/-- slot.append(e) -/
theorem ss_app {e : Expr} {i : Nat} {te : TE} {f : Rho → R OV} {st : Stmt} {x : Str} {po : Pos} (hN : X.N[i]? = some x) (hv : Vis X.env.scope x) (hd : (x == ("__debug__" : Str)) = false) (hcd : (x == ("__classdict__" : Str)) = false)
    (he : PE X e (tE X.K σ0 E f))
    (rule : ∀ {to te : TE}, PE X (.Name x po) to → PE X e te → PS X st (tDrop (tBM X.K "list" rAppend to (tCons te tNil)))) :
    PS X st (tS X.K σ0 E fr fun ρ => match objAt ρ i with
      | some (.lst _) => (f ρ).bind fun x ρ => (esc x ρ).bind fun x ρ => match objAt ρ i with
        | some (.lst l) => if l.length < lim then match putObj ρ i (.lst (l ++ [x])) with
            | some ρ => .ok .next ρ
            | none => .stuck
          else .stuck
        | _ => .stuck
      | _ => .stuck) := by
  refine ps_conseq (rule (pe_var (pos := po) hN hv hd hcd) he) fun D σ H ⟨ρ, S, r, q⟩ => ?_
  try dsimp only at q
  split at q
  · rename_i l0 hob
    obtain ⟨W, rw, _⟩ := id r
    obtain ⟨a, ea, ro⟩ := rw.obj i _ hob
    obtain ⟨_, xs0, h0, _⟩ := ro
    refine ⟨_, ea, .inl ⟨rfl, _, .inl (.inl h0)⟩, ρ, S, r, (AftS.bindE (r := f ρ) q).mono fun y ρ1 S1 H1 r1 s1 q1 v o => ?_⟩
    cases y with
    | s j => exact q1.elim
    | d d1 =>
      have q1 : AftS X.K σ0 E fr S1 H1 (match objAt ρ1 i with
        | some (.lst l) => if l.length < lim then match putObj ρ1 i (.lst (l ++ [d1])) with
            | some ρ => .ok .next ρ
            | none => .stuck
          else .stuck
        | _ => .stuck) D := q1
      split at q1
      · rename_i l eo
        split at q1
        · rename_i hl
          split at q1
          · rename_i ρ2 e2
            obtain ⟨a', xs, e1, e3, rd, f3⟩ := r1.write eo e2
            rw [ea] at e1
            cases e1
            obtain ⟨r3, s3, _⟩ := f3 (xs ++ [v]) (rd.append (.cons o .nil))
            exact ⟨a, xs, v, rfl, rfl, e3, by rw [← rd.length]; exact hl, q1 σ S1 _ r3 s3⟩
          · exact q1.elim
        · exact q1.elim
      · exact q1.elim
  · exact q.elim
end
end Er

set_option Elab.async false
set_option linter.all false
set_option maxRecDepth 100000
set_option maxHeartbeats 2000000
/-! C12: what is walked; for, while, comprehensions. -/
namespace Er
open PySem L2
variable [Wd]
/-- J walks the data xs -/
def WkOk (K : Frag) (J : L2.It) (H : Hp) (xs : List PD) : Prop := ∃ G : Hp → Prop, G H ∧ (∀ H1 H2, Keeps H1 H2 → G H1 → G H2) ∧ Walk J xs.length G (fun i H x H' => Same H H' ∧ ∃ d, xs[i]? = some d ∧ RD K H' d x)
section
variable (K : Frag) (σ0 : L2.St) (E : Exc → Hp → Prop)
def tI (f : Rho → R (List PD)) : TI := fun σ H Q => ∃ ρ S, Rep K σ0 σ ρ H S ∧ After K σ0 E σ S H (f ρ) fun xs _ _ H' => ∀ J, WkOk K J H' xs → Q J H'
end
theorem pi_conseq {X : Cx} {tg e : Expr} {t t' : TI} (h : PI X tg e t) (i : ∀ σ H R, t' σ H R → t σ H R) : PI X tg e t' :=
  ⟨fun pins s σ H R I q => h.run pins s σ H R I (i σ H R q)⟩
section
variable {K : Frag} {H : Hp}
theorem wk_list {a : Addr} {o : Obj} {ds : List PD} {vs : List V} (h : H a = some (.frz o (.lst vs))) (r : RDs K H ds vs) : WkOk K (Itl K a) H ds := by
  refine ⟨fun H => H a = some (.frz o (.lst vs)) ∧ RDs K H ds vs, ⟨h, r⟩, fun H1 H2 k q => ⟨k _ _ q.1 rfl, q.2.mono k⟩, ?_⟩
  rw [r.length]
  refine walk_list.mono (fun H q => (.inl (.inr ⟨o, q.1⟩) : SqL K H a vs)) fun i H x H' _ q y => ?_
  obtain ⟨rfl, y⟩ := y
  obtain ⟨d, h1, h2⟩ := q.2.getV y
  exact ⟨Same.refl _, d, h1, h2⟩
theorem wk_tup {a : Addr} {ds : List PD} {vs : List V} (h : SqT K H a vs) (r : RDs K H ds vs) : WkOk K (Itt K a) H ds := by
  refine ⟨fun H => SqT K H a vs ∧ RDs K H ds vs, ⟨h, r⟩, fun H1 H2 k q => ⟨sqT_keeps k q.1, q.2.mono k⟩, ?_⟩
  rw [r.length]
  refine walk_tup.mono (fun H q => q.1) fun i H x H' _ q y => ?_
  obtain ⟨rfl, y⟩ := y
  obtain ⟨d, h1, h2⟩ := q.2.getV y
  exact ⟨Same.refl _, d, h1, h2⟩
theorem wk_range {a b : Int} : WkOk K (Itr a (b - a).toNat) H (rangeL a b) := by
  refine ⟨fun _ => True, trivial, fun _ _ _ _ => trivial, ?_⟩
  have e : (rangeL a b).length = (b - a).toNat := by simp [rangeL]
  rw [e]
  refine walk_range.mono (fun _ q => q) fun i H x H' hi _ y => ?_
  obtain ⟨rfl, rfl⟩ := y
  refine ⟨Same.refl _, .int (a + i), ?_, .int _⟩
  simp [rangeL, List.getElem?_map, hi]
omit [Wd] in
theorem zipL_get : ∀ (xs ys : List PD) (i : Nat) (x y : PD), xs[i]? = some x → ys[i]? = some y → (zipL xs ys)[i]? = some (.tuple [x, y])
  | x :: xs, y :: ys, 0, a, b, h1, h2 => by simp at h1 h2; simp [zipL, h1, h2]
  | x :: xs, y :: ys, i + 1, a, b, h1, h2 => by
    simp only [zipL, List.getElem?_cons_succ]
    exact zipL_get xs ys i a b (by simpa using h1) (by simpa using h2)
  | [], _, i, _, _, h1, _ => by simp at h1
  | _ :: _, [], i, _, _, _, h2 => by simp at h2
omit [Wd] in
theorem zipL_length : ∀ (xs ys : List PD), (zipL xs ys).length = min xs.length ys.length
  | [], _ => by simp [zipL]
  | _ :: _, [] => by simp [zipL]
  | x :: xs, y :: ys => by
    simp only [zipL, List.length_cons, zipL_length xs ys]
    omega
theorem pair_ok {xs ys : List PD} {vs ws : List V} {i : Nat} {x : V} {H H' : Hp} (rx : RDs K H xs vs) (ry : RDs K H ys ws) (y : YPair (fun i => vs[i]?) (fun i => ws[i]?) i H x H') : Same H H' ∧ ∃ d, (zipL xs ys)[i]? = some d ∧ RD K H' d x := by
  obtain ⟨T, a, b, rfl, hT, rfl, h1, h2⟩ := y
  obtain ⟨d, g1, g2⟩ := rx.getV h1
  obtain ⟨e, g3, g4⟩ := ry.getV h2
  have sm := same_upd (o := .tup [a, b]) hT
  refine ⟨sm, .tuple [d, e], zipL_get _ _ _ _ _ g1 g3, .tup (SqT.of upd_same) (.cons (g2.mono (Keeps.of_same sm)) (.cons (g4.mono (Keeps.of_same sm)) .nil))⟩
theorem wk_zipL {a b : Addr} {o o' : Obj} {xs ys : List PD} {vs ws : List V} (h : H a = some (.frz o (.lst vs))) (r : RDs K H xs vs) (h' : H b = some (.frz o' (.lst ws))) (r' : RDs K H ys ws) : WkOk K (Itz K a b) H (zipL xs ys) := by
  refine ⟨fun H => (H a = some (.frz o (.lst vs)) ∧ RDs K H xs vs) ∧ (H b = some (.frz o' (.lst ws)) ∧ RDs K H ys ws), ⟨⟨h, r⟩, h', r'⟩, fun H1 H2 k q => ⟨⟨k _ _ q.1.1 rfl, q.1.2.mono k⟩, k _ _ q.2.1 rfl, q.2.2.mono k⟩, ?_⟩
  rw [zipL_length, r.length, r'.length]
  exact (walk_zip rfl).mono (fun H q => ⟨.inl (.inr ⟨o, q.1.1⟩), .inl (.inr ⟨o', q.2.1⟩)⟩) fun i H x H' _ q y => pair_ok q.1.2 q.2.2 y
theorem walk_zipT {a b : Addr} {xs ys : List V} {n : Nat} (hn : n = min xs.length ys.length) : Walk (RZ.ItzT K a b) n (fun H => SqT K H a xs ∧ SqT K H b ys) (YPair (fun i => xs[i]?) (fun i => ys[i]?)) := by
  subst hn
  refine ⟨fun i H hi q => ⟨xs, ys, xs[i]'(by omega), ys[i]'(by omega), q.1, q.2, List.getElem?_eq_getElem (by omega), List.getElem?_eq_getElem (by omega)⟩, fun H q => ⟨xs, ys, q.1, q.2, by omega⟩, fun i H v H' _ q y => ?_⟩
  obtain ⟨T, x, z, h1, h2, h3, h4, h5⟩ := y
  exact ⟨T, x, z, h1, h2, h3, h4 xs q.1, h5 ys q.2⟩
theorem wk_zipT {a b : Addr} {xs ys : List PD} {vs ws : List V} (h : SqT K H a vs) (r : RDs K H xs vs) (h' : SqT K H b ws) (r' : RDs K H ys ws) : WkOk K (RZ.ItzT K a b) H (zipL xs ys) := by
  refine ⟨fun H => (SqT K H a vs ∧ RDs K H xs vs) ∧ (SqT K H b ws ∧ RDs K H ys ws), ⟨⟨h, r⟩, h', r'⟩, fun H1 H2 k q => ⟨⟨sqT_keeps k q.1.1, q.1.2.mono k⟩, sqT_keeps k q.2.1, q.2.2.mono k⟩, ?_⟩
  rw [zipL_length, r.length, r'.length]
  exact (walk_zipT rfl).mono (fun H q => ⟨q.1.1, q.2.1⟩) fun i H x H' _ q y => pair_ok q.1.2 q.2.2 y
end
section
variable {X : Cx} {σ0 : L2.St} {E : Exc → Hp → Prop} {pos : Pos} {tg : Expr}
theorem si_lst {e : Expr} {f : Rho → R OV} (h : PE X e (tE X.K σ0 E f)) : PI X tg e (tI X.K σ0 E fun ρ => (f ρ).bind fun x ρ => match x with
    | .d (.list l) => .ok l ρ
    | _ => .stuck) := by
  refine pi_conseq (pi_list h) fun σ H Q ⟨ρ, S, r, q⟩ => ?_
  refine ⟨ρ, S, r, q.bind.mono fun x ρ1 S1 H1 r1 s1 q1 v o => ?_⟩
  match x, o, q1 with
  | .d (.list l), o, q1 =>
    have o : RD X.K H1 (.list l) v := o
    cases o with
    | lst h rd => exact ⟨_, rfl, ⟨_, .inl (.inr ⟨_, h⟩)⟩, q1.ok r1 _ (wk_list h rd)⟩
/-- a list or a tuple -/
def iSeq (K : Frag) (tl : TE) : TI := fun σ H R => tl σ H fun x H1 => ∃ a, x = .ref a ∧ (((∃ xs, SqL K H1 a xs) ∧ R (Itl K a) H1) ∨ ((∃ xs, SqT K H1 a xs) ∧ R (Itt K a) H1))
theorem pi_seq {l : Expr} {tl : TE} (hl : PE X l tl) : PI X tg l (iSeq X.K tl) := by
  refine ⟨fun pins s σ H R I h => ?_⟩
  refine thn (hl.run pins s σ H _ I h) fun v s1 ⟨x, H1, I1, r1, q1⟩ => ?_
  obtain ⟨a, e, q1⟩ := q1
  subst e
  cases r1
  rcases q1 with ⟨⟨xs, hq⟩, q⟩ | ⟨⟨xs, hq⟩, q⟩
  · obtain ⟨its, rv, p, hz⟩ := I1.list hq
    refine wpAny_pyIter_list p.isList ?_
    refine ⟨s1.heap.objs.size, [s1.heap.objs.size], _, _, H1, rfl, I1.kept (t' := s1.toks) fun b o e => Heap.get?_push_of_some _ e, turn_list a _, ⟨_, Heap.get?_push_size _ rfl, rfl, rfl⟩, fun b hb => ?_, q⟩
    have e : b = s1.heap.objs.size := by simpa using hb
    subst e
    exact I1.fpOk (Nat.le_refl _) (I1.hok.fresh (Nat.le_refl _))
  · obtain ⟨its, rv, p, hz⟩ := I1.tuple hq
    refine wpAny_pyIter_tuple (show s1.heap.IsTuple a its.toArray from p) ?_
    refine ⟨s1.heap.objs.size, [s1.heap.objs.size], _, _, H1, rfl, I1.kept (t' := s1.toks) fun b o e => Heap.get?_push_of_some _ e, turn_tuple a _, ⟨_, Heap.get?_push_size _ rfl, rfl, rfl⟩, fun b hb => ?_, q⟩
    have e : b = s1.heap.objs.size := by simpa using hb
    subst e
    exact I1.fpOk (Nat.le_refl _) (I1.hok.fresh (Nat.le_refl _))
theorem si_tup {e : Expr} {f : Rho → R OV} (h : PE X e (tE X.K σ0 E f)) : PI X tg e (tI X.K σ0 E fun ρ => (f ρ).bind fun x ρ => match x with
    | .d (.tuple l) => .ok l ρ
    | .d (.list l) => .ok l ρ
    | _ => .stuck) := by
  refine pi_conseq (pi_seq h) fun σ H Q ⟨ρ, S, r, q⟩ => ?_
  refine ⟨ρ, S, r, q.bind.mono fun x ρ1 S1 H1 r1 s1 q1 v o => ?_⟩
  match x, o, q1 with
  | .d (.tuple l), o, q1 =>
    have o : RD X.K H1 (.tuple l) v := o
    cases o with
    | tup h rd => exact ⟨_, rfl, .inr ⟨⟨_, h⟩, q1.ok r1 _ (wk_tup h rd)⟩⟩
  | .d (.list l), o, q1 =>
    have o : RD X.K H1 (.list l) v := o
    cases o with
    | lst h rd => exact ⟨_, rfl, .inl ⟨⟨_, .inl (.inr ⟨_, h⟩)⟩, q1.ok r1 _ (wk_list h rd)⟩⟩
omit [Wd] in
theorem small_of {i : Int} (h : small62 i = true) : -(2 ^ 62) ≤ i ∧ i < 2 ^ 62 := by
  unfold small62 at h
  simpa using h
theorem si_range1 {a : Expr} {f : Rho → R OV} {p : Pos} (hg : Gl X "range") (hm : X.mg "range" = none) (ha : PE X a (tE X.K σ0 E f)) (hs : starEach [a] X.env = [(false, eval a X.env)]) :
    PI X tg (.Call (.Name "range" p) [a] [] pos) (tI X.K σ0 E fun ρ => (f ρ).bind fun x ρ => match x with
    | .d (.int i) => if small62 i = true then .ok (rangeL 0 i) ρ else .stuck
    | _ => .stuck) := by
  refine pi_conseq (pi_range1 hg hm (pa_cons ha pa_nil hs) hs) fun σ H Q ⟨ρ, S, r, q⟩ => ?_
  refine ⟨ρ, S, r, q.bind.mono fun x ρ1 S1 H1 r1 s1 q1 v o => ?_⟩
  match x, o, q1 with
  | .d (.int i), o, q1 =>
    have o : RD X.K H1 (.int i) v := o
    cases o
    try dsimp only at q1
    split at q1
    · rename_i hs
      obtain ⟨g1, g2⟩ := small_of hs
      have w := q1.ok r1 _ (wk_range (a := 0) (b := i))
      rw [Int.sub_zero] at w
      exact ⟨i, rfl, g1, g2, w⟩
    · exact q1.elim
theorem si_range2 {a b : Expr} {f g : Rho → R OV} {p : Pos} (hg : Gl X "range") (hm : X.mg "range" = none) (ha : PE X a (tE X.K σ0 E f)) (hb : PE X b (tE X.K σ0 E g)) (hs : starEach [a, b] X.env = [(false, eval a X.env), (false, eval b X.env)]) (hs2 : starEach [b] X.env = [(false, eval b X.env)]) :
    PI X tg (.Call (.Name "range" p) [a, b] [] pos) (tI X.K σ0 E fun ρ => (f ρ).bind fun x ρ => (g ρ).bind fun y ρ => match x, y with
    | .d (.int i), .d (.int j) => if small62 i = true ∧ small62 j = true then .ok (rangeL i j) ρ else .stuck
    | _, _ => .stuck) := by
  have hs1 : starEach (a :: [b]) X.env = (false, eval a X.env) :: starEach [b] X.env := by rw [hs, hs2]
  refine pi_conseq (pi_range2 hg hm (pa_cons ha (pa_cons hb pa_nil hs2) hs1) hs hs2) fun σ H Q ⟨ρ, S, r, q⟩ => ?_
  refine ⟨ρ, S, r, q.bind.mono fun x ρ1 S1 H1 r1 s1 q1 v o => ?_⟩
  refine ⟨ρ1, S1, r1, q1.bind.mono fun y ρ2 S2 H2 r2 s2 q2 w o2 => ?_⟩
  match x, y, o, o2, q2 with
  | .d (.int i), .d (.int j), o, o2, q2 =>
    have o : RD X.K H1 (.int i) v := o
    have o2 : RD X.K H2 (.int j) w := o2
    cases o
    cases o2
    try dsimp only at q2
    split at q2
    · rename_i hs
      obtain ⟨g1, g2⟩ := small_of hs.1
      obtain ⟨g3, g4⟩ := small_of hs.2
      exact ⟨i, j, rfl, ⟨g1, g2, g3, g4⟩, q2.ok r2 _ wk_range⟩
    · exact q2.elim
theorem si_zip {elts : List Expr} {kk : Nat} {tpos p : Pos} {a b : Expr} {f g : Rho → R OV} (hg : Gl X "zip") (hm : X.mg "zip" = none) (ha : PE X a (tE X.K σ0 E f)) (hb : PE X b (tE X.K σ0 E g)) (hs : starEach [a, b] X.env = (false, eval a X.env) :: starEach [b] X.env) (hs2 : starEach [b] X.env = (false, eval b X.env) :: starEach [] X.env)
    (hpl : (backTo pos (starEach [b] X.env)).any (·.1) = false) :
    PI X (.Tuple elts kk tpos) (.Call (.Name "zip" p) [a, b] [] pos) (tI X.K σ0 E fun ρ => (f ρ).bind fun x ρ => (g ρ).bind fun y ρ => match x, y with
    | .d (.tuple xs), .d (.tuple ys) => .ok (zipL xs ys) ρ
    | .d (.list xs), .d (.list ys) => .ok (zipL xs ys) ρ
    | _, _ => .stuck) := by
  refine pi_conseq (RZ.pi_zipA hg hm (pa_cons ha (pa_cons hb pa_nil hs2) hs) hs hpl) fun σ H Q ⟨ρ, S, r, q⟩ => ?_
  refine ⟨ρ, S, r, q.bind.mono fun x ρ1 S1 H1 r1 s1 q1 v o => ?_⟩
  refine ⟨ρ1, S1, r1, q1.bind.mono fun y ρ2 S2 H2 r2 s2 q2 w o2 => ?_⟩
  have o := o.mono (r1.keeps s2)
  match x, y, o, o2, q2 with
  | .d (.tuple xs), .d (.tuple ys), o, o2, q2 =>
    have o : RD X.K H2 (.tuple xs) v := o
    have o2 : RD X.K H2 (.tuple ys) w := o2
    cases o with
    | tup h1 rd1 =>
      cases o2 with
      | tup h2 rd2 => exact ⟨_, _, _, _, rfl, .inr ⟨h1, h2, q2.ok r2 _ (wk_zipT h1 rd1 h2 rd2)⟩⟩
  | .d (.list xs), .d (.list ys), o, o2, q2 =>
    have o : RD X.K H2 (.list xs) v := o
    have o2 : RD X.K H2 (.list ys) w := o2
    cases o with
    | lst h1 rd1 =>
      cases o2 with
      | lst h2 rd2 => exact ⟨_, _, _, _, rfl, .inl ⟨.inl (.inr ⟨_, h1⟩), .inl (.inr ⟨_, h2⟩), q2.ok r2 _ (wk_zipL h1 rd1 h2 rd2)⟩⟩
variable {fr : Bool}
theorem ss_for {iter : Expr} {body : List Stmt} {t : Tg} {f : Rho → R (List PD)} {g : Rho → R Flow} (hp : PassesOwn (model X.prog X.w) X.A X.env X.xe) (hc : X.calm = true) (hi : PI X tg iter (tI X.K σ0 E f)) (hg : PG X tg (tG X.K σ0 t)) (hb : PSs X body (tS X.K σ0 E fr g)) (hfs : ∀ x, foldedSetIterable iter X.env x = pure x) :
    PS X (.For tg iter body [] pos) (tS X.K σ0 E fr fun ρ => (f ρ).bind fun xs ρ => loopF t g xs ρ) := by
  refine ps_conseq (ps_for hp hc hi hg hb hfs) fun D σ H ⟨ρ, S, r, q⟩ => ?_
  refine ⟨ρ, S, r, (AftS.bindE (r := f ρ) q).mono fun xs ρ1 S1 H1 r1 s1 q1 J wk => ?_⟩
  obtain ⟨G, g0, gk, w⟩ := wk
  refine for_it w (fun i σ' H' => ∃ ρ' S', Rep X.K σ0 σ' ρ' H' S' ∧ G H' ∧ AftS X.K σ0 E fr S' H' (loopF t g (xs.drop i) ρ') D) ⟨ρ1, S1, r1, g0, by rw [List.drop_zero]; exact q1⟩ (fun i σ' H' _ h => ?_) (fun i x σ' H' H2 hi h y => ?_) fun σ' H' h => ?_
  · obtain ⟨_, _, _, h, _⟩ := h
    exact h
  · obtain ⟨ρ', S', r', gh, q'⟩ := h
    obtain ⟨sm, d, ed, rd⟩ := y
    have e : xs.drop i = d :: xs.drop (i + 1) := by
      rw [List.drop_eq_getElem_cons hi]
      have : xs[i] = d := by
        rw [List.getElem?_eq_getElem hi] at ed
        exact Option.some.inj ed
      rw [this]
    rw [e] at q'
    have q' : AftS X.K σ0 E fr S' H' (match asgR t d ρ' with
      | none => .stuck
      | some ρ1 => (g ρ1).bind fun f ρ2 => match f with
        | .next => loopF t g (xs.drop (i + 1)) ρ2
        | .ret y => .ok (.ret y) ρ2) D := q'
    split at q'
    · exact q'.elim
    · rename_i ρ2 e2
      refine ⟨d, ρ', S', r'.same sm, rd, ρ2, e2, fun σ3 S3 r3 sub _ _ => ?_⟩
      have st3 : Step S' H' S3 H2 := ⟨fun b o h _ => sm b o h, fun b h => .inl (sub b h)⟩
      refine ⟨ρ2, S3, r3, ?_⟩
      revert q'
      cases g ρ2 with
      | stuck => exact fun q => q
      | exc e ρ3 => exact fun q σ4 S4 H4 r4 s4 => q σ4 S4 H4 r4 (st3.trans s4)
      | ok fl ρ3 =>
        cases fl with
        | ret y => exact fun q σ4 S4 H4 r4 s4 v ro => q σ4 S4 H4 r4 (st3.trans s4) v (ro.back st3)
        | next => exact fun q σ4 S4 H4 r4 s4 => ⟨ρ3, S4, r4, gk H' H4 (r'.keeps (st3.trans s4)) gh, AftS.then (st3.trans s4) q⟩
  · obtain ⟨ρ', S', r', gh, q'⟩ := h
    rw [List.drop_length] at q'
    exact q' σ' S' H' r' (Step.refl S' H')
theorem ss_while {c : Expr} {body : List Stmt} {fc : Rho → R OV} {g : Rho → R Flow} {n : Nat} (hp : PassesOwn (model X.prog X.w) X.A X.env X.xe) (hc : PT X c (tB X.K σ0 E fc)) (hb : PSs X body (tS X.K σ0 E fr g)) :
    PS X (.While c body [] pos) (tS X.K σ0 E fr fun ρ => loopW fc g n ρ) := by
  refine ps_conseq (ps_while hp hc hb) fun D σ H ⟨ρ, S, r, q⟩ => ?_
  refine ⟨fun m σ' H' => ∃ ρ' S', Rep X.K σ0 σ' ρ' H' S' ∧ AftS X.K σ0 E fr S' H' (loopW fc g m ρ') D, ⟨n, ρ, S, r, q⟩, fun m σ' H' ⟨ρ', S', r', q'⟩ => ?_⟩
  cases m with
  | zero => exact q'.elim
  | succ m =>
    refine ⟨ρ', S', r', (AftS.bindE (r := fc ρ') q').mono fun x ρ1 S1 H1 r1 s1 q1 => ?_⟩
    try dsimp only at q1
    split at q1
    · rename_i e
      refine ⟨true, e, iteT ⟨fun σ2 H2 => ∃ ρ2 S2, Rep X.K σ0 σ2 ρ2 H2 S2 ∧ AftS X.K σ0 E fr S2 H2 (loopW fc g m ρ2) D, fun σ2 H2 h => ⟨m, Nat.lt_succ_self m, h⟩, ρ1, S1, r1, ?_⟩⟩
      revert q1
      cases g ρ1 with
      | stuck => exact fun q => q
      | exc e ρ3 => exact fun q => q
      | ok fl ρ3 =>
        cases fl with
        | ret y => exact fun q => q
        | next => exact fun q σ4 S4 H4 r4 s4 => ⟨ρ3, S4, r4, AftS.then s4 q⟩
    · rename_i e
      exact ⟨false, e, iteF (q1 σ' S1 H1 r1 (Step.refl S1 H1))⟩
    · exact q1.elim
end
end Er

set_option Elab.async false
set_option linter.all false
set_option maxRecDepth 100000
set_option maxHeartbeats 2000000
/-! C13: comprehensions. -/
namespace Er
open PySem L2
variable [Wd]
section
variable {K : Frag} {σ0 σ : L2.St} {ρ ρ' : Rho} {H : Hp} {S : Addr → Prop}
omit [Wd] in
theorem wipe_get (σ : L2.St) : ∀ (vs : List Nat) (i : Nat), i ∉ vs → (wipe σ vs)[i]? = σ[i]?
  | [], _, _ => rfl
  | v :: vs, i, h => by
    simp only [List.mem_cons, not_or] at h
    unfold wipe
    rw [List.getElem?_set_ne (Ne.symm h.1)]
    exact wipe_get σ vs i h.2
omit [Wd] in
theorem wipe_in (σ : L2.St) : ∀ (vs : List Nat) (i : Nat), i ∈ vs → i < σ.length → (wipe σ vs)[i]? = some none
  | v :: vs, i, h, hl => by
    unfold wipe
    by_cases e : v = i
    · subst e
      rw [List.getElem?_set_self (by rw [wipe_length]; exact hl)]
    · rw [List.getElem?_set_ne e]
      rcases List.mem_cons.mp h with z | z
      · exact absurd z.symm e
      · exact wipe_in σ vs i z hl
omit [Wd] in
theorem wipe_ext {σ σ2 : L2.St} {vs : List Nat} (hl : σ2.length = σ.length) (h : ∀ i, i ∉ vs → σ2[i]? = σ[i]?) : wipe σ2 vs = wipe σ vs := by
  apply List.ext_getElem?
  intro i
  by_cases hi : i ∈ vs
  · by_cases hb : i < σ.length
    · rw [wipe_in σ vs i hi hb, wipe_in σ2 vs i hi (by rw [hl]; exact hb)]
    · rw [List.getElem?_eq_none (by rw [wipe_length]; omega), List.getElem?_eq_none (by rw [wipe_length]; omega)]
  · rw [wipe_get _ _ _ hi, wipe_get _ _ _ hi, h i hi]
omit [Wd] in
theorem wipe_wipe (σ : L2.St) (vs : List Nat) : wipe (wipe σ vs) vs = wipe σ vs := wipe_ext (wipe_length σ vs) fun i hi => wipe_get σ vs i hi
omit [Wd] in
theorem wipeR_length (ρ : Rho) : ∀ vs : List Nat, (wipeR ρ vs).length = ρ.length
  | [] => rfl
  | v :: vs => by unfold wipeR; rw [List.length_set, wipeR_length ρ vs]
omit [Wd] in
theorem wipeR_get (ρ : Rho) : ∀ (vs : List Nat) (i : Nat), i ∉ vs → (wipeR ρ vs)[i]? = ρ[i]?
  | [], _, _ => rfl
  | v :: vs, i, h => by
    simp only [List.mem_cons, not_or] at h
    unfold wipeR
    rw [List.getElem?_set_ne (Ne.symm h.1)]
    exact wipeR_get ρ vs i h.2
omit [Wd] in
theorem wipeR_in (ρ : Rho) : ∀ (vs : List Nat) (i : Nat), i ∈ vs → i < ρ.length → (wipeR ρ vs)[i]? = some .un
  | v :: vs, i, h, hl => by
    unfold wipeR
    by_cases e : v = i
    · subst e
      rw [List.getElem?_set_self (by rw [wipeR_length]; exact hl)]
    · rw [List.getElem?_set_ne e]
      rcases List.mem_cons.mp h with z | z
      · exact absurd z.symm e
      · exact wipeR_in ρ vs i z hl
omit [Wd] in
theorem backR_length (ρ ρ' : Rho) : ∀ vs : List Nat, (backR ρ ρ' vs).length = ρ'.length
  | [] => rfl
  | v :: vs => by
    unfold backR
    split
    · rw [List.length_set, backR_length ρ ρ' vs]
    · exact backR_length ρ ρ' vs
omit [Wd] in
theorem backR_get (ρ ρ' : Rho) : ∀ (vs : List Nat) (i : Nat), i ∉ vs → (backR ρ ρ' vs)[i]? = ρ'[i]?
  | [], _, _ => rfl
  | v :: vs, i, h => by
    simp only [List.mem_cons, not_or] at h
    unfold backR
    split
    · rw [List.getElem?_set_ne (Ne.symm h.1)]
      exact backR_get ρ ρ' vs i h.2
    · exact backR_get ρ ρ' vs i h.2
omit [Wd] in
theorem backR_in (ρ ρ' : Rho) (hl : ρ'.length = ρ.length) : ∀ (vs : List Nat) (i : Nat), i ∈ vs → (backR ρ ρ' vs)[i]? = ρ[i]?
  | v :: vs, i, h => by
    unfold backR
    by_cases e : v = i
    · subst e
      split
      · rename_i x hx
        have hv : v < ρ.length := (List.getElem?_eq_some_iff.mp hx).1
        rw [List.getElem?_set_self (by rw [backR_length, hl]; exact hv), hx]
      · rename_i hx
        have hv := List.getElem?_eq_none_iff.mp hx
        rw [hx, List.getElem?_eq_none (by rw [backR_length]; omega)]
    · have hm : i ∈ vs := by
        rcases List.mem_cons.mp h with z | z
        · exact absurd z.symm e
        · exact z
      split
      · rw [List.getElem?_set_ne e]
        exact backR_in ρ ρ' hl vs i hm
      · exact backR_in ρ ρ' hl vs i hm
omit [Wd] in
theorem objAt_wipeR {vs : List Nat} {i : Nat} {x : OB} (h : objAt (wipeR ρ vs) i = some x) : i ∉ vs ∧ objAt ρ i = some x := by
  by_cases hi : i ∈ vs
  · exfalso
    by_cases hl : i < ρ.length
    · unfold objAt at h
      rw [wipeR_in ρ vs i hi hl] at h
      cases h
    · unfold objAt at h
      rw [List.getElem?_eq_none (by rw [wipeR_length]; omega)] at h
      cases h
  · refine ⟨hi, ?_⟩
    unfold objAt at h ⊢
    rw [wipeR_get ρ vs i hi] at h
    exact h
/-- own slots forgotten -/
theorem RepW.wipe {W : Nat → List Addr} (rw' : RepW K σ0 σ ρ H W) (vs : List Nat) : RepW K σ0 (wipe σ vs) (wipeR ρ vs) H W := by
  refine ⟨by rw [wipe_length, wipeR_length]; exact rw'.len, fun i x hx => ?_, fun i x hx => ?_, fun i x hx => ?_, fun i j b hij h1 h2 => ?_⟩
  · by_cases hi : i ∈ vs
    · have hl : i < ρ.length := by
        have := (List.getElem?_eq_some_iff.mp hx).1
        rw [wipeR_length] at this
        exact this
      rw [wipeR_in ρ vs i hi hl] at hx
      cases hx
    · rw [wipeR_get ρ vs i hi] at hx
      rw [wipe_get σ vs i hi]
      exact rw'.dat i x hx
  · obtain ⟨hi, hx⟩ := objAt_wipeR hx
    rw [wipe_get σ vs i hi]
    exact rw'.obj i x hx
  · by_cases hi : i ∈ vs
    · have hl : i < ρ.length := by
        have := (List.getElem?_eq_some_iff.mp hx).1
        rw [wipeR_length] at this
        exact this
      rw [wipeR_in ρ vs i hi hl] at hx
      cases hx
    · rw [wipeR_get ρ vs i hi] at hx
      rw [wipe_get σ vs i hi]
      exact rw'.bor i x hx
  · obtain ⟨x, hx⟩ := Option.isSome_iff_exists.mp h1
    obtain ⟨y, hy⟩ := Option.isSome_iff_exists.mp h2
    obtain ⟨_, hx⟩ := objAt_wipeR hx
    obtain ⟨_, hy⟩ := objAt_wipeR hy
    exact rw'.sep i j b hij (by rw [hx]; rfl) (by rw [hy]; rfl)
theorem Rep.wipe (r : Rep K σ0 σ ρ H S) (vs : List Nat) : ∃ S', Rep K σ0 (L2.wipe σ vs) (wipeR ρ vs) H S' ∧ ∀ b, S' b → S b := by
  obtain ⟨W, rw', e⟩ := r
  refine ⟨SOf (wipeR ρ vs) W, ⟨W, rw'.wipe vs, fun _ => Iff.rfl⟩, fun b ⟨i, h1, h2⟩ => ?_⟩
  obtain ⟨x, hx⟩ := Option.isSome_iff_exists.mp h1
  obtain ⟨_, hx⟩ := objAt_wipeR hx
  exact (e b).mpr ⟨i, by rw [hx]; rfl, h2⟩
/-- behind a block: the own slots as they were -/
theorem Rep.back {vs : List Nat} {Sn : Addr → Prop} {Hn : Hp} (r : Rep K σ0 σ ρ H S) :
    ∃ Sw, Rep K σ0 (L2.wipe σ vs) (wipeR ρ vs) H Sw ∧ (∀ b, Sw b → S b) ∧ ∀ ρ' Sn Hn, Rep K σ0 (L2.wipe σ vs) (wipeR ρ' vs) Hn Sn → Step Sw H Sn Hn →
      ∃ S2, Rep K σ0 σ (backR ρ ρ' vs) Hn S2 ∧ Step S H S2 Hn ∧ ∀ b, S2 b → Sn b ∨ S b := by
  obtain ⟨W, rw', e⟩ := id r
  have rwp : Rep K σ0 (L2.wipe σ vs) (wipeR ρ vs) H (SOf (wipeR ρ vs) W) := ⟨W, rw'.wipe vs, fun _ => Iff.rfl⟩
  have sub : ∀ b, SOf (wipeR ρ vs) W b → S b := fun b ⟨i, h1, h2⟩ => by
    obtain ⟨x, hx⟩ := Option.isSome_iff_exists.mp h1
    obtain ⟨_, hx⟩ := objAt_wipeR hx
    exact (e b).mpr ⟨i, by rw [hx]; rfl, h2⟩
  refine ⟨SOf (wipeR ρ vs) W, rwp, sub, fun ρ' Sn Hn rn st => ?_⟩
  obtain ⟨Wn, rwn, en⟩ := id rn
  have kp : Keeps H Hn := rwp.keeps st
  have hl : ρ'.length = ρ.length := by
    have h1 := rwn.len
    rw [wipe_length, wipeR_length] at h1
    rw [← h1]
    exact rw'.len
  have bo : ∀ {i : Nat}, i ∈ vs → objAt (backR ρ ρ' vs) i = objAt ρ i := fun {i} hi => by
    unfold objAt
    rw [backR_in ρ ρ' hl vs i hi]
  have bn : ∀ {i : Nat}, i ∉ vs → objAt (backR ρ ρ' vs) i = objAt (wipeR ρ' vs) i := fun {i} hi => by
    unfold objAt
    rw [backR_get ρ ρ' vs i hi, wipeR_get ρ' vs i hi]
  -- what a hidden slot owns is not the block's
  have hid : ∀ {i : Nat} {b : Addr}, i ∈ vs → (objAt ρ i).isSome = true → b ∈ W i → ¬ SOf (wipeR ρ vs) W b := fun {i b} hi h1 h2 ⟨k, h3, h4⟩ => by
    obtain ⟨x, hx⟩ := Option.isSome_iff_exists.mp h3
    obtain ⟨hk, hx⟩ := objAt_wipeR hx
    exact rw'.sep i k b (fun z => hk (by rw [← z]; exact hi)) h1 (by rw [hx]; rfl) h2 h4
  let W2 : Nat → List Addr := fun i => if i ∈ vs then W i else Wn i
  have wi : ∀ {i : Nat}, i ∈ vs → W2 i = W i := fun {i} h => if_pos h
  have wo : ∀ {i : Nat}, i ∉ vs → W2 i = Wn i := fun {i} h => if_neg h
  have ap : ∀ {i j : Nat} {b : Addr}, i ∈ vs → j ∉ vs → (objAt ρ i).isSome = true → (objAt (wipeR ρ' vs) j).isSome = true → b ∈ W i → b ∈ Wn j → False := fun {i j b} hi hj h1 h2 h3 h4 => by
    rcases st.own b ((en b).mpr ⟨j, h2, h4⟩) with z | z
    · exact hid hi h1 h3 z
    · obtain ⟨o, q, _⟩ := r.mut ((e b).mpr ⟨i, h1, h3⟩)
      rw [z] at q
      cases q
  refine ⟨SOf (backR ρ ρ' vs) W2, ⟨W2, ⟨by rw [backR_length, hl]; exact rw'.len, fun i x hx => ?_, fun i x hx => ?_, fun i x hx => ?_, fun i j b hij h1 h2 h3 h4 => ?_⟩, fun _ => Iff.rfl⟩, ⟨fun b o hb nb => st.keep b o hb fun z => nb (sub b z), fun b hb => ?_⟩, fun b hb => ?_⟩
  · by_cases hi : i ∈ vs
    · rw [backR_in ρ ρ' hl vs i hi] at hx
      obtain ⟨v, h1, h2⟩ := rw'.dat i x hx
      exact ⟨v, h1, h2.mono kp⟩
    · rw [backR_get ρ ρ' vs i hi] at hx
      obtain ⟨v, h1, h2⟩ := rwn.dat i x (by rw [wipeR_get ρ' vs i hi]; exact hx)
      rw [wipe_get σ vs i hi] at h1
      exact ⟨v, h1, h2⟩
  · by_cases hi : i ∈ vs
    · rw [bo hi] at hx
      obtain ⟨a, h1, h2⟩ := rw'.obj i x hx
      refine ⟨a, h1, ?_⟩
      rw [wi hi]
      exact h2.mono kp fun b hb o ho => st.keep b o ho (hid hi (by rw [hx]; rfl) hb)
    · rw [bn hi] at hx
      obtain ⟨a, h1, h2⟩ := rwn.obj i x hx
      rw [wipe_get σ vs i hi] at h1
      rw [wo hi]
      exact ⟨a, h1, h2⟩
  · by_cases hi : i ∈ vs
    · rw [backR_in ρ ρ' hl vs i hi] at hx
      exact rw'.bor i x hx
    · rw [backR_get ρ ρ' vs i hi] at hx
      have := rwn.bor i x (by rw [wipeR_get ρ' vs i hi]; exact hx)
      rw [wipe_get σ vs i hi] at this
      exact this
  · by_cases hi : i ∈ vs
    · rw [bo hi] at h1
      rw [wi hi] at h3
      by_cases hj : j ∈ vs
      · rw [bo hj] at h2
        rw [wi hj] at h4
        exact rw'.sep i j b hij h1 h2 h3 h4
      · rw [bn hj] at h2
        rw [wo hj] at h4
        exact ap hi hj h1 h2 h3 h4
    · rw [bn hi] at h1
      rw [wo hi] at h3
      by_cases hj : j ∈ vs
      · rw [bo hj] at h2
        rw [wi hj] at h4
        exact ap hj hi h2 h1 h4 h3
      · rw [bn hj] at h2
        rw [wo hj] at h4
        exact rwn.sep i j b hij h1 h2 h3 h4
  · obtain ⟨i, h1, h2⟩ := hb
    by_cases hi : i ∈ vs
    · rw [bo hi] at h1
      rw [wi hi] at h2
      exact .inl ((e b).mpr ⟨i, h1, h2⟩)
    · rw [bn hi] at h1
      rw [wo hi] at h2
      rcases st.own b ((en b).mpr ⟨i, h1, h2⟩) with z | z
      · exact .inl (sub b z)
      · exact .inr z
  · obtain ⟨i, h1, h2⟩ := hb
    by_cases hi : i ∈ vs
    · rw [bo hi] at h1
      rw [wi hi] at h2
      exact .inr ((e b).mpr ⟨i, h1, h2⟩)
    · rw [bn hi] at h1
      rw [wo hi] at h2
      exact .inl ((en b).mpr ⟨i, h1, h2⟩)
end
def E0' : Exc → Hp → Prop := fun _ _ => False
def compR (t : Tg) (own : List Nat) (fi : Rho → R (List PD)) (c e : Rho → R OV) (ρ : Rho) : R OV := (fi ρ).bind fun xs ρ => match loopC t own c e xs ρ with
  | .ok ys ρ' => if ys.length ≤ lim then .ok (.d (.list ys)) (backR ρ ρ' own) else .stuck
  | _ => .stuck
section
variable {X : Cx} {σ0 : L2.St} {E : Exc → Hp → Prop}
/-- a comprehension's reading, from its meaning -/
theorem lc_reads {t : Tg} {own : List Nat} {fi : Rho → R (List PD)} {fc fe : Rho → R OV} (ht : ∀ i ∈ tgS t, i ∈ own) {σ : L2.St} {H : Hp} {Q : VK} (h : tF X.K σ0 E (compR t own fi fc fe) σ H Q) :
    tLc (tI X.K σ0 E fi) (tG X.K σ0 t) (tB X.K σ0 E0' fc) (tE X.K σ0 E0' fe) own σ H Q := by
  obtain ⟨ρ, S, r, q⟩ := h
  refine ⟨ρ, S, r, (After.bind (r := fi ρ) q).mono fun xs ρ1 S1 H1 r1 s1 q1 J wk D hD => ?_⟩
  obtain ⟨G, g0, gk, w⟩ := wk
  try dsimp only at q1
  split at q1
  · rename_i ys ρn el
    split at q1
    · rename_i hlim
      obtain ⟨Sw, rw0, subw, back⟩ := r1.back (vs := own) (Sn := S1) (Hn := H1)
      have smD : Same H1 (upd H1 D (.lst [])) := same_upd hD
      refine lc_it w (fun i H' => ∃ ρi Si zs ws rest, loopC t own fc fe (xs.drop i) ρi = .ok rest ρn ∧ ys = zs ++ rest ∧ Rep X.K σ0 (wipe σ own) (wipeR ρi own) H' Si ∧ H' D = some (.lst ws) ∧ RDs X.K H' zs ws ∧ ¬ Si D ∧ Step Sw H1 Si H' ∧ G H')
        ⟨ρ1, Sw, [], [], ys, by rw [List.drop_zero]; exact el, rfl, rw0.same smD, upd_same, .nil, rw0.notin hD, Step.same smD, gk _ _ (Keeps.of_same smD) g0⟩ (fun i H' _ h => ?_) (fun i x H' H2 hi h y => ?_) fun H' h => ?_
      · obtain ⟨_, _, _, _, _, _, _, _, _, _, _, _, h⟩ := h
        exact h
      · obtain ⟨ρi, Si, zs, ws, rest, e1, e2, ri, eD, rd, nD, st, gh⟩ := h
        obtain ⟨sm, d, ed, rdd⟩ := y
        have e : xs.drop i = d :: xs.drop (i + 1) := by
          rw [List.drop_eq_getElem_cons hi]
          have : xs[i] = d := by
            rw [List.getElem?_eq_getElem hi] at ed
            exact Option.some.inj ed
          rw [this]
        rw [e] at e1
        unfold loopC at e1
        split at e1
        · cases e1
        · rename_i ρ2 ea
          refine ⟨d, wipeR ρi own, Si, ri.same sm, rdd, ρ2, ea, fun σ3 S3 r3 sub3 l3 g3 => ⟨?_, ?_⟩⟩
          · refine (wipe_ext l3 fun j hj => ?_).trans (wipe_wipe σ own)
            exact g3 j fun z => hj (ht j z)
          · have w3 : wipe σ3 own = wipe σ own := (wipe_ext l3 fun j hj => g3 j fun z => hj (ht j z)).trans (wipe_wipe σ own)
            have st3 : Step Si H' S3 H2 := ⟨fun b o h _ => sm b o h, fun b h => .inl (sub3 b h)⟩
            refine ⟨ρ2, S3, r3, ?_⟩
            split at e1
            · rename_i ρ4 ec
              rw [ec]
              intro S4 H4 r4 s4
              refine ⟨true, rfl, iteT ⟨ρ4, S4, r4, ?_⟩⟩
              cases ee : fe ρ4 with
              | stuck => rw [ee] at e1; cases e1
              | exc e' ρ5 => rw [ee] at e1; cases e1
              | ok y ρ5 =>
                rw [ee] at e1
                intro S5 H5 r5 s5 v ov
                cases y with
                | s j => cases e1
                | d z =>
                  have e1 : ((loopC t own fc fe (xs.drop (i + 1)) ρ5).bind fun zs ρ5 => .ok (z :: zs) ρ5) = .ok rest ρn := e1
                  cases er : loopC t own fc fe (xs.drop (i + 1)) ρ5 with
                  | stuck => rw [er] at e1; cases e1
                  | exc e' ρ6 => rw [er] at e1; cases e1
                  | ok rest' ρ6 =>
                    rw [er] at e1
                    cases e1
                    have s35 : Step Si H' S5 H5 := (st3.trans s4).trans s5
                    have eD5 : H5 D = some (.lst ws) := s35.keep D _ eD nD
                    have nD5 : ¬ S5 D := fun z => by
                      rcases s35.own D z with z | z
                      · exact nD z
                      · rw [eD] at z; cases z
                    have hz : ws.length < sizeLine := by
                      rw [← rd.length]
                      have : (zs ++ z :: rest').length ≤ sizeLine := by rw [← e2]; exact hlim
                      rw [List.length_append, List.length_cons] at this
                      omega
                    refine ⟨ws, eD5, hz, ?_⟩
                    have kpD : Keeps H5 (upd H5 D (.lst (ws ++ [v]))) := fun b o hb so => by
                      rw [upd_ne (fun q => by
                        rw [q, eD5] at hb
                        cases hb
                        cases so)]
                      exact hb
                    obtain ⟨S6, r6, sub6⟩ := r5.wipe own
                    rw [w3] at r6
                    have nD6 : ¬ S6 D := fun z => nD5 (sub6 D z)
                    have k35 : Keeps H' H5 := ri.keeps s35
                    refine ⟨ρ5, S6, zs ++ [z], ws ++ [v], rest', er, by rw [e2, List.append_assoc]; rfl, r6.grow kpD fun b o hb ho => ?_, upd_same, ((rd.mono k35).append (.cons ov .nil)).mono kpD, nD6, ⟨fun b o hb nb => ?_, fun b hb => ?_⟩, gk _ _ (k35.trans kpD) gh⟩
                    · rw [upd_ne (fun q => nD6 (by rw [← q]; exact hb))]
                      exact ho
                    · have h5 := (st.trans s35).keep b o hb nb
                      rw [upd_ne (fun q => by
                        rw [q, hD] at hb
                        cases hb)]
                      exact h5
                    · exact (st.trans s35).own b (sub6 b hb)
            · rename_i ρ4 ec
              rw [ec]
              intro S4 H4 r4 s4
              refine ⟨false, rfl, iteF ?_⟩
              have s34 : Step Si H' S4 H4 := st3.trans s4
              have eD4 : H4 D = some (.lst ws) := s34.keep D _ eD nD
              have nD4 : ¬ S4 D := fun z => by
                rcases s34.own D z with z | z
                · exact nD z
                · rw [eD] at z; cases z
              obtain ⟨S6, r6, sub6⟩ := r4.wipe own
              rw [w3] at r6
              have k34 : Keeps H' H4 := ri.keeps s34
              exact ⟨ρ4, S6, zs, ws, rest, e1, e2, r6, eD4, rd.mono k34, fun z => nD4 (sub6 D z), ⟨(st.trans s34).keep, fun b hb => (st.trans s34).own b (sub6 b hb)⟩, gk _ _ k34 gh⟩
            · cases e1
      · obtain ⟨ρi, Si, zs, ws, rest, e1, e2, ri, eD, rd, nD, st, gh⟩ := h
        rw [List.drop_length] at e1
        cases e1
        rw [List.append_nil] at e2
        subst e2
        obtain ⟨S2, r2, st2, sub2⟩ := back ρn Si H' ri st
        refine q1 S2 H' r2 st2 _ ⟨D, ws, rfl, eD, rd, fun z => ?_, s1.free hD⟩
        rcases sub2 D z with z | z
        · exact nD z
        · exact r1.notin hD z
    · exact q1.elim
  · exact q1.elim
end
end Er

set_option Elab.async false
set_option linter.all false
set_option maxRecDepth 100000
set_option maxHeartbeats 2000000
/-! C14: enumerate of a tuple; a written dict asked at once. -/
namespace Er
section
open PySem
set_option maxHeartbeats 1000000 in
theorem meets_enum1 {v : Value} {o : Obj} {H : Heap → Prop} (B : Begins v o H) :
    Meets (Builtin.«enumerate.__new__» ⟨[.type "enumerate", v], []⟩) (fun _ R s => H s.heap ∧
      R (.ok (.ret (.ref (s.heap.push o).objs.size))) { s with heap := (s.heap.push o).push { cls := .type "enumerate", data := .fields #[.none, .bool false, .ref s.heap.objs.size, rawInt 0, .none, .none] } }) :=
  .of_wp fun prog w A R s h => by
    obtain ⟨hp, g, d, tk, os⟩ := s
    obtain ⟨h1, h⟩ := h
    have hsub := sub_enumerate
    have q1 : ∀ {A' : Around} {E : Value → Shared → Prop} {Q : Value → Shared → Prop}, Q (.ref hp.objs.size) ⟨hp.push o, g, d, tk, os⟩ → wpAny (model prog w) A' (pyIter v) Q E ⟨hp, g, d, tk, os⟩ :=
      fun q => B.iter prog w _ _ ⟨hp, g, d, tk, os⟩ _ h1 q
    wp_walk using q1
    refine wpAny_stack_any fun st => wpAny_pure ?_
    split
    · rename_i c _ _ _ _ _
      cases (c == Value.type "enumerate")
      · wp_walk using q1
        exact ⟨_, rfl, h⟩
      · wp_walk using q1
        exact ⟨_, rfl, h⟩
    · wp_walk using q1
      exact ⟨_, rfl, h⟩
theorem call_enum1 {prog : Program} {w : World} {A : Around} {E : Value → Shared → Prop} {s : Shared} {v : Value} {o : Obj} {H : Heap → Prop} {Q : Value → Shared → Prop} (B : Begins v o H) (h1 : H s.heap)
    (h : ∀ h', IsEnum h' (s.heap.objs.size + 1) s.heap.objs.size 0 .none → h'.get? s.heap.objs.size = some o → h'.objs.size = s.heap.objs.size + 2 →
      (∀ b o, s.heap.get? b = some o → h'.get? b = some o) → Q (.ref (s.heap.objs.size + 1)) { s with heap := h' }) :
    wpAny (model prog w) A (call (.type "enumerate") [v]) Q E s := by
  refine callType_new F.called_enumerate (by decide) (F.typeCall_enumerate_1 _) (F.newCall_enumerate_1 _) (fun obj => F.args_object_init_2 obj _) F.entry_enumerate_new (meets_enum1 B) ⟨h1, ?_⟩
  have hz : (s.heap.push o).objs.size = s.heap.objs.size + 1 := Heap.size_push ..
  show _ ∧ _
  rw [hz]
  have he : IsEnum ((s.heap.push o).push { cls := .type "enumerate", data := .fields #[.none, .bool false, .ref s.heap.objs.size, rawInt 0, .none, .none] }) (s.heap.objs.size + 1) s.heap.objs.size 0 .none := by
    have := Heap.get?_push_size (s.heap.push o) (o := { cls := .type "enumerate", data := .fields #[.none, .bool false, .ref s.heap.objs.size, rawInt 0, .none, .none] }) rfl
    rw [hz] at this
    exact this
  have ho : ((s.heap.push o).push { cls := .type "enumerate", data := .fields #[.none, .bool false, .ref s.heap.objs.size, rawInt 0, .none, .none] }).get? s.heap.objs.size = some o := Heap.get?_push_of_some _ (Heap.get?_push_size _ B.free)
  exact ⟨⟨_, he, rfl⟩, h _ he ho (by rw [Heap.size_push, hz]) fun b u x => Heap.get?_push_of_some _ (Heap.get?_push_of_some _ x)⟩
end
open PySem L2
variable [Wd]
/-- enumerate of the tuple at a -/
def IteT (K : Frag) (a : Addr) : L2.It :=
  ⟨fun i H => ∃ (xs : List V) (x : V), SqT K H a xs ∧ xs[i]? = some x, fun i H v H' => ∃ T x, v = .ref T ∧ H T = none ∧ H' = upd H T (.tup [.int (i : Nat), x]) ∧ ∀ xs, SqT K H a xs → xs[i]? = some x, fun i H => ∃ xs : List V, SqT K H a xs ∧ xs.length = i⟩
theorem turn_enumT {P : Program} {w : World} {K : Frag} {elts : List Expr} {kk : Nat} {tpos : Pos} (a e it : Addr) :
    Turn P w K (.Tuple elts kk tpos) (IteT K a) [e, it] e (fun i h => (∃ old, IsEnum h e it ((i : Nat) : Int) old) ∧ h.IsTupleIter it a i ∧ e ≠ it ∧ e ≠ a ∧ a ≠ it) where
  mem := by simp
  obj := fun i h st b hb => by
    obtain ⟨⟨old, he⟩, ⟨o, ho, hc, hd⟩, _⟩ := st
    have e' : b = e ∨ b = it := by simpa using hb
    rcases e' with z | z
    · subst z; exact ⟨_, he, fun v q => nomatch q⟩
    · subst z; exact ⟨o, ho, fun v q => by rw [hd] at q; cases q⟩
  keep := fun i h h' st k => by
    obtain ⟨⟨old, he⟩, hi, hne⟩ := st
    exact ⟨⟨old, k e (by simp) _ he⟩, hi.at fun o q => k it (by simp) o q, hne⟩
  item := by
    intro X hP hw hK hc i pins s σ H E I hf st hg
    subst hP hw hK
    obtain ⟨⟨old, he⟩, hit, hne, hea, hai⟩ := st
    obtain ⟨xs, x, hq, hx⟩ := hg
    obtain ⟨its, rv, p, hz⟩ := I.tuple hq
    obtain ⟨u, hu, ru⟩ := rv.get hx
    have hel : e < s.heap.objs.size := Heap.lt_size he
    have hil : it < s.heap.objs.size := by
      obtain ⟨_, q, _⟩ := hit
      exact Heap.lt_size q
    have hlt : i < its.toArray.size := by
      have := (List.getElem?_eq_some_iff.mp hu).1
      simpa using this
    refine wpAny_pyNext_enum_itemC (Draws.tuple (A := X.A.in1) (I.ok.hd hc) it a hai its.toArray) he ⟨hit, p⟩ hlt hne (by simp [hne, hea]) fun u' h' tk hP ho hs' hT hsz hk => ?_
    have eu : u' = u := by
      have hP : its.toArray[i]? = some u' := hP
      rw [List.getElem?_toArray, hu] at hP
      exact (Option.some.inj hP).symm
    subst eu
    refine ⟨_, rfl, wpAny_letOwnedTupleGo_enum (s := { s with heap := h', toks := tk + 1 }) ho fun h'' he' sb => ?_⟩
    have hT2 : h''.get? s.heap.objs.size = some { cls := .type "tuple", data := .seq #[.int i tk, u'] } := (sb.2 _ (Nat.ne_of_gt hel)).trans hT
    have new : ObjOk X.prog X.w (upd H s.heap.objs.size (.tup [.int (i : Nat), x])) h'' s.heap.objs.size (.tup [.int (i : Nat), x]) :=
      ⟨by show 2 ≤ sizeLine; decide, [.int i tk, u'], .cons ⟨_, rfl⟩ (.cons ru .nil), ⟨_, hT2, rfl, _, rfl⟩⟩
    have I1 : Inv X pins σ (upd H s.heap.objs.size (.tup [.int (i : Nat), x])) { s with heap := h'', toks := tk + 1 } :=
      I.turnedNew (ch := [e, it]) (fun b ob hb q => (sb.2 b (fun z => hb (by simp [z]))).trans (hk b ob (fun z => hb (by simp [z])) (fun z => hb (by simp [z])) q)) hf (Nat.le_refl _) new
    refine ⟨.ref s.heap.objs.size, _, I1, rfl, ⟨_, x, rfl, I.hok.fresh (Nat.le_refl _), rfl, fun ys hy => by rw [I.tuple_inj hy hq]; exact hx⟩, ⟨⟨u', ?_⟩, hs'.1.at fun o q => (sb.2 it (Ne.symm hne)).trans q, hne, hea, hai⟩, fun b hb => ?_⟩
    · rw [show ((i + 1 : Nat) : Int) = (i : Int) + 1 by omega]
      exact he'
    · have hb' : b < s.heap.objs.size := by
        have e' : b = e ∨ b = it := by simpa using hb
        rcases e' with z | z
        · subst z; exact hel
        · subst z; exact hil
      rw [upd_ne (Nat.ne_of_lt hb')]
      exact (hf b hb).1
  done := by
    intro X hP hw hK hc i pins s σ H E I hf st hg
    subst hP hw hK
    obtain ⟨⟨old, he⟩, hit, hne, hea, hai⟩ := st
    obtain ⟨xs, hq, hx⟩ := hg
    obtain ⟨its, rv, p, hz⟩ := I.tuple hq
    obtain ⟨f0, f1, f2, f3, f4, f5⟩ := hf it (by simp)
    have hl := rv.length
    have hn : i = its.toArray.size := by rw [List.size_toArray, ← hl, hx]
    subst hn
    exact wpAny_pyNext_enum_endD (Draws.tuple (A := X.A.in1) (I.ok.hd hc) it a hai its.toArray) he ⟨hit, p⟩ fun h' eb => ⟨rfl, I.turned (t' := s.toks) (fun b o hb q => eb b o hb q) f0 f1 f3 f4 f5⟩
  self := fun A i s Q E st h => by
    obtain ⟨⟨_, he⟩, _⟩ := st
    exact wpAny_pyIter_enum he h
section
variable {X : Cx} {σ0 : L2.St} {E : Exc → Hp → Prop} {pos : Pos}
theorem pi_enumT {e : Expr} {ta : TA} {p pos tpos : Pos} {elts : List Expr} {kk : Nat} (hg : Gl X "enumerate") (hm : X.mg "enumerate" = none) (ha : PA X [e] ta) (hs : starEach [e] X.env = [(false, eval e X.env)]) :
    PI X (.Tuple elts kk tpos) (.Call (.Name "enumerate" p) [e] [] pos) (fun σ H R => ta σ H fun vs H1 => ∃ a xs, vs = [.ref a] ∧ SqT X.K H1 a xs ∧ R (IteT X.K a) H1) := by
  refine ⟨fun pins s σ H R I h => ?_⟩
  refine PyProof.Rows.Call_ (ld_blt I hg hm PyProof.Rows.boot_enumerate (PyProof.Rows.callWith_type1 (thn (ha.run pos pins s σ H _ I h) fun us s1 ⟨vs, H1, I1, r1, q1⟩ => ?_) hs rfl))
  obtain ⟨a, xs, ex, hq, q⟩ := q1
  subst ex
  cases r1 with
  | cons r rr =>
    cases rr
    cases r
    obtain ⟨its, rv, p', hz⟩ := I1.tuple hq
    have hal : a < s1.heap.objs.size := by
      obtain ⟨o, ho, _⟩ := id p'
      exact Heap.lt_size ho
    refine call_enum1 (begins_tuple a its.toArray) p' fun h' he hit hsz hk => wpAny_pyIter_enum he ?_
    have I2 : Inv X pins σ H1 { s1 with heap := h' } := I1.kept (t' := s1.toks) hk
    refine ⟨s1.heap.objs.size + 1, [s1.heap.objs.size + 1, s1.heap.objs.size], _, _, H1, rfl, I2, turn_enumT a (s1.heap.objs.size + 1) s1.heap.objs.size, ⟨⟨.none, he⟩, ⟨_, hit, rfl, rfl⟩, Nat.succ_ne_self _, Nat.ne_of_gt (Nat.lt_succ_of_lt hal), Nat.ne_of_lt hal⟩, fun b hb => ?_, q⟩
    have e' : b = s1.heap.objs.size + 1 ∨ b = s1.heap.objs.size := by simpa using hb
    have hle : s1.heap.objs.size ≤ b := by
      rcases e' with z | z <;> (subst z; omega)
    exact I1.fpOk hle (I1.hok.fresh hle)
omit [Wd] in
theorem enumL_length : ∀ (xs : List PD) (n : Nat), (enumL n xs).length = xs.length
  | [], _ => rfl
  | x :: xs, n => by simp [enumL, enumL_length xs]
omit [Wd] in
theorem enumL_get : ∀ (xs : List PD) (n i : Nat) (x : PD), xs[i]? = some x → (enumL n xs)[i]? = some (.tuple [.int ((n + i : Nat) : Int), x])
  | x :: xs, n, 0, d, h => by
    simp at h
    subst h
    rfl
  | x :: xs, n, i + 1, d, h => by
    have := enumL_get xs (n + 1) i d (by simpa using h)
    rw [enumL, List.getElem?_cons_succ, this, show n + 1 + i = n + (i + 1) by omega]
  | [], _, _, _, h => by simp at h
theorem wk_enumT {K : Frag} {H : Hp} {a : Addr} {ds : List PD} {vs : List V} (h : SqT K H a vs) (r : RDs K H ds vs) : WkOk K (IteT K a) H (enumL 0 ds) := by
  refine ⟨fun H => SqT K H a vs ∧ RDs K H ds vs, ⟨h, r⟩, fun H1 H2 k q => ⟨sqT_keeps k q.1, q.2.mono k⟩, ?_⟩
  rw [enumL_length, r.length]
  refine ⟨fun i H hi q => ⟨vs, vs[i], q.1, List.getElem?_eq_getElem hi⟩, fun H q => ⟨vs, q.1, rfl⟩, fun i H v H' hi q y => ?_⟩
  obtain ⟨T, x, rfl, hT, rfl, h4⟩ := y
  obtain ⟨d, g1, g2⟩ := q.2.getV (h4 vs q.1)
  have sm := same_upd (o := .tup [.int (i : Nat), x]) hT
  refine ⟨sm, .tuple [.int i, d], ?_, .tup (SqT.of upd_same) (.cons (.int _) (.cons (g2.mono (Keeps.of_same sm)) .nil))⟩
  have := enumL_get ds 0 i d g1
  rw [Nat.zero_add] at this
  exact this
theorem si_enum {elts : List Expr} {kk : Nat} {tpos p : Pos} {a : Expr} {f : Rho → R OV} (hg : Gl X "enumerate") (hm : X.mg "enumerate" = none) (ha : PE X a (tE X.K σ0 E f)) (hs : starEach [a] X.env = [(false, eval a X.env)]) :
    PI X (.Tuple elts kk tpos) (.Call (.Name "enumerate" p) [a] [] pos) (tI X.K σ0 E fun ρ => (f ρ).bind fun x ρ => match x with
    | .d (.tuple l) => .ok (enumL 0 l) ρ
    | _ => .stuck) := by
  refine pi_conseq (pi_enumT hg hm (pa_cons ha pa_nil hs) hs) fun σ H Q ⟨ρ, S, r, q⟩ => ?_
  refine ⟨ρ, S, r, q.bind.mono fun x ρ1 S1 H1 r1 s1 q1 v o => ?_⟩
  match x, o, q1 with
  | .d (.tuple l), o, q1 =>
    have o : RD X.K H1 (.tuple l) v := o
    cases o with
    | tup h rd => exact ⟨_, _, rfl, h, q1.ok r1 _ (wk_enumT h rd)⟩

/-! ### {k: e, ..}[x] -/
/-- what stands at a key in a display: the last one -/
def pickV : List Str → List V → Str → Option V
  | k :: ks, v :: vs, x => match pickV ks vs x with
    | some y => some y
    | none => if k = x then some v else none
  | _, _, _ => none
theorem pick_rel {K : Frag} {H : Hp} : ∀ {ks : List Str} {xs : List PD} {vs : List V} {x : Str}, RDs K H xs vs → (pickD ks xs x = none → pickV ks vs x = none) ∧ ∀ d, pickD ks xs x = some d → ∃ v, pickV ks vs x = some v ∧ RD K H d v
  | [], _, _, _, _ => ⟨fun _ => rfl, fun _ h => by cases h⟩
  | _ :: _, _, _, _, .nil => ⟨fun _ => rfl, fun _ h => by cases h⟩
  | k :: ks, y :: xs, v :: vs, x, .cons h t => by
    obtain ⟨ih1, ih2⟩ := pick_rel (ks := ks) (x := x) t
    unfold pickD pickV
    cases e : pickD ks xs x with
    | some d =>
      obtain ⟨w, e1, e2⟩ := ih2 d e
      rw [e1]
      exact ⟨fun z => (by cases z), fun d' z => (by cases z; exact ⟨w, rfl, e2⟩)⟩
    | none =>
      rw [ih1 e]
      by_cases hk : k = x
      · simp only [if_pos hk]
        exact ⟨fun z => (by cases z), fun d' z => (by cases z; exact ⟨v, rfl, h⟩)⟩
      · simp only [if_neg hk]
        exact ⟨fun _ => trivial, fun d' z => (by cases z)⟩
def kvsOf (ks : List Str) (vs : List V) : List (Key × V) := (ks.zip vs).map fun p => (Sum.inr p.1, p.2)
omit [Wd] in
theorem pick_val : ∀ (ks : List Str) (vs : List V) (acc : List (Key × V)) (x : Str), valV (mergeK acc (kvsOf ks vs)) (Sum.inr x) = (match pickV ks vs x with
    | some y => some y
    | none => valV acc (Sum.inr x))
  | [], _, _, _ => rfl
  | _ :: _, [], _, _ => rfl
  | k :: ks, v :: vs, acc, x => by
    show valV (mergeK (putK acc (Sum.inr k) v) (kvsOf ks vs)) (Sum.inr x) = _
    rw [pick_val ks vs, valV_put]
    simp only [pickV]
    cases pickV ks vs x with
    | some y => rfl
    | none =>
      by_cases e : k = x
      · subst e
        simp
      · have e' : ¬ (Sum.inr x : Key) = Sum.inr k := fun z => e (Sum.inr.inj z).symm
        simp [e, e']
/-- the pairs of a display, from their meaning -/
def PpsOk (X : Cx) (σ0 : L2.St) (E : Exc → Hp → Prop) (pos : Pos) (keys : List (Option Expr)) (vals : List Expr) (ks : List Str) (f : Rho → R (List PD)) : Prop :=
  ∃ trs, PPs X pos keys vals trs ∧ ∀ σ H Q, (∃ ρ S, Rep X.K σ0 σ ρ H S ∧ After X.K σ0 E σ S H (f ρ) fun xs _ _ H' => ∀ vs, RDs X.K H' xs vs → Q ((ks.zip vs).map fun p => (V.str p.1, p.2)) H') → tPairs trs σ H Q
theorem pps_ok_nil : PpsOk X σ0 E pos [] [] [] fun ρ => .ok [] ρ := ⟨[], pps_nil, fun σ H Q ⟨ρ, S, r, q⟩ => q.ok r [] .nil⟩
theorem pps_ok_cons {k : Str} {j : Nat} {p2 : Pos} {e : Expr} {keys : List (Option Expr)} {vals : List Expr} {ks : List Str} {f : Rho → R OV} {g : Rho → R (List PD)} (h : PE X e (tE X.K σ0 E f)) (hr : PpsOk X σ0 E pos keys vals ks g) :
    PpsOk X σ0 E pos (some (.Constant (.str k) j p2) :: keys) (e :: vals) (k :: ks) fun ρ => (f ρ).bind fun x ρ => (esc x ρ).bind fun x ρ => (g ρ).bind fun xs ρ => .ok (x :: xs) ρ := by
  obtain ⟨trs, h1, h2⟩ := hr
  refine ⟨_, pps_cons pe_str h h1, fun σ H Q ⟨ρ, S, r, q⟩ => ?_⟩
  show tE X.K σ0 E f σ H _
  refine ⟨ρ, S, r, (After.bind (r := f ρ) q).mono fun x ρ1 S1 H1 r1 s1 q1 v o => ?_⟩
  cases x with
  | s i => exact q1.elim
  | d y =>
    refine h2 σ H1 _ ⟨ρ1, S1, r1, (After.bind (r := g ρ1) q1).mono fun ys ρ3 S3 H3 r3 s3 q3 vs rds => ?_⟩
    exact q3.ok r3 (v :: vs) (.cons (RD.mono (r1.keeps s3) o) rds)
theorem se_pick {keys : List (Option Expr)} {vals : List Expr} {ks : List Str} {f : Rho → R (List PD)} {g : Rho → R OV} {k : Expr} {p2 : Pos} (hu : X.A.units + 1 < cLine) (h : PpsOk X σ0 E p2 keys vals ks f) (hk : PE X k (tE X.K σ0 E g))
    (hall : keys.all (·.isSome) = true) (hl : keys.length = vals.length) (h0 : keys ≠ []) (h15 : keys.length ≤ 15) (hkl : ks.length ≤ 15) (hs : NoSl k) :
    PE X (.Subscript (.Dict keys vals p2) k pos) (tE X.K σ0 E fun ρ => (f ρ).bind fun xs ρ => (g ρ).bind fun y ρ => match y with
      | .d (.str y) => ofO ((pickD ks xs y).map .d) ρ
      | _ => .stuck) := by
  obtain ⟨trs, h1, h2⟩ := h
  refine pe_conseq (pe_dget hu (pe_disp h1 hall hl h0 h15) hk hs) fun σ H Q ⟨ρ, S, r, q⟩ => ?_
  intro p hp
  have sm := same_upd (o := .dK []) hp
  refine h2 σ _ _ ⟨ρ, S, r.same sm, ?_⟩
  have q : After X.K σ0 E σ S H ((f ρ).bind fun xs ρ => (g ρ).bind fun y ρ => match y with
      | .d (.str y) => ofO ((pickD ks xs y).map OV.d) ρ
      | _ => .stuck) (fun x _ _ H' => ∀ v, OVok X.K σ H' x v → Q v H') := q
  revert q
  cases f ρ with
  | stuck => exact fun q => q
  | exc e ρ1 => exact fun q S' H' a b => q S' H' a ((Step.same sm).trans b)
  | ok xs ρ1 =>
    intro q S1 H1 r1 s1 vs rds
    have q : After X.K σ0 E σ S H ((g ρ1).bind fun y ρ => match y with
      | .d (.str y) => ofO ((pickD ks xs y).map OV.d) ρ
      | _ => .stuck) (fun x _ _ H' => ∀ v, OVok X.K σ H' x v → Q v H') := q
    have ep : H1 p = some (.dK []) := s1.keep p _ upd_same (r.notin hp)
    have np : ¬ S1 p := fun z => by
      rcases s1.own p z with z | z
      · exact r.notin hp z
      · rw [upd_same] at z; cases z
    refine ⟨ep, kvsOf ks vs, ?_, ?_, ?_⟩
    · unfold kvsOf
      rw [List.map_map]
      rfl
    · unfold kvsOf
      rw [List.length_map, List.length_zip]
      omega
    · have kp : Keeps H1 (upd H1 p (.dK (mergeK [] (kvsOf ks vs)))) := fun b o hb so => by
        rw [upd_ne (fun z => by
          rw [z, ep] at hb
          cases hb
          cases so)]
        exact hb
      have r2 := r1.grow kp fun b o hb ho => by
        rw [upd_ne (fun z => np (by rw [← z]; exact hb))]
        exact ho
      have s2 : Step S H S1 (upd H1 p (.dK (mergeK [] (kvsOf ks vs)))) := by
        refine ⟨fun b o hb nb => ?_, fun b hb => ?_⟩
        · have hbp : b ≠ p := fun z => by
            rw [z, hp] at hb
            cases hb
          rw [upd_ne hbp]
          exact s1.keep b o (by rw [upd_ne hbp]; exact hb) nb
        · rcases s1.own b hb with z | z
          · exact .inl z
          · refine .inr ?_
            by_cases hbp : b = p
            · rw [hbp]; exact hp
            · rw [upd_ne hbp] at z
              exact z
      refine ⟨ρ1, S1, r2, (After.bind (r := g ρ1) (After.then s2 q)).mono fun y ρ3 S3 H3 r3 s3 q3 w o => ?_⟩
      match y, o, q3 with
      | .d (.str y), o, q3 =>
        have o : RD X.K H3 (.str y) w := o
        cases o
        obtain ⟨z, e1, q4, _⟩ := q3.ofO r3
        obtain ⟨d, e2, rfl⟩ := Option.map_eq_some_iff.mp e1
        have rds3 : RDs X.K H3 xs vs := (rds.mono kp).mono (r2.keeps s3)
        obtain ⟨v, e3, rd⟩ := (pick_rel rds3).2 d e2
        have ep3 : H3 p = some (.dK (mergeK [] (kvsOf ks vs))) := s3.keep p _ upd_same np
        refine ⟨p, v, rfl, ?_, q4 v rd⟩
        have := DGet.k (k := Sum.inr y) ep3
        rw [pick_val, e3] at this
        exact this
end
end Er

set_option Elab.async false
set_option linter.all false
set_option maxRecDepth 100000
set_option maxHeartbeats 2000000
/-! C24: enumerate(zip(x, y)) of two tuples. -/
namespace Er
section
open PySem
/-- a zip object; what its first two fields say is left open -/
abbrev ZpAt (hp : Heap) (z TI TO : Addr) (g0 g1 : Value) : Prop :=
  hp.get? z = some { cls := .type "zip", dict := none, data := .fields #[g0, g1, .bool false, .ref TI, .ref TO], slots := #[] }
def Own0 (g : Value) : Prop := g = .none ∨ ∃ n t, g = .int n t
theorem wp_alive {M : Model} {A : Around} {E : Value → Shared → Prop} {s : Shared} {a : Addr} {Q : Option Obj → Shared → Prop} (h : Q (s.heap.get? a) s) : wpAny M A (loadIfAlive a) Q E s := fun _ _ _ => h
section
variable {prog : Program} {w : World} {A : Around} {E : Value → Shared → Prop} {s : Shared}
theorem zp_free {z TI TO : Addr} {g0 g1 : Value} {Q : Bool → Shared → Prop} (hz : ZpAt s.heap z TI TO g0 g1) (h0 : Own0 g0)
    (hQ : ∀ b h' f1, ZpAt h' z TI TO g0 f1 → Heap.SameBut z s.heap h' → Q b { s with heap := h' }) : wpAny (model prog w) A (Builtin.SmallTypes.ownedTupleIsFree (.ref z)) Q E s := by
  have same : Heap.SameBut z s.heap s.heap := ⟨rfl, fun _ _ => rfl⟩
  unfold Builtin.SmallTypes.ownedTupleIsFree
  refine wpAny_bind (wpAny_field hz rfl (x := g0) rfl ?_)
  rcases h0 with rfl | ⟨n, t, rfl⟩
  · exact wpAny_pure (hQ true s.heap g1 hz same)
  · refine wpAny_bind (wp_alive ?_)
    split
    · exact wpAny_pure (hQ true s.heap g1 hz same)
    · refine wpAny_bind (wpAny_field hz rfl (x := g1) rfl ?_)
      split
      · refine wpAny_bind (wpAny_setField_rec hz (by simp) fun h1 hz1 hs1 => wpAny_pure ?_)
        exact hQ false h1 _ hz1 hs1
      · exact wpAny_pure (hQ false s.heap g1 hz same)
/-- one more pair of a zip that may have lent its tuple -/
theorem zp_item {z TI TO i1 i2 l1 l2 : Addr} {k : Nat} {xs ys : Array Value} {x y a b g0 g1 : Value} {Q : Value → Shared → Prop} (D : ZipApart z TI TO i1 i2 l1 l2)
    (hz : ZpAt s.heap z TI TO g0 g1) (h0 : Own0 g0) (hTI : IsPair s.heap TI (.ref i1) (.ref i2)) (hTO : IsPair s.heap TO a b)
    (h1 : s.heap.IsTupleIter i1 l1 k) (h2 : s.heap.IsTupleIter i2 l2 k) (hl1 : s.heap.IsTuple l1 xs) (hl2 : s.heap.IsTuple l2 ys) (hx : xs[k]? = some x) (hy : ys[k]? = some y)
    (hQ : ∀ h', (∃ f0 f1, Own0 f0 ∧ ZpAt h' z TI TO f0 f1) → (∃ a b, IsPair h' TO a b) → h'.IsTupleIter i1 l1 (k + 1) → h'.IsTupleIter i2 l2 (k + 1) → IsPair h' s.heap.objs.size x y → h'.objs.size = s.heap.objs.size + 1 →
      (∀ c o, c ≠ z → c ≠ TO → c ≠ i1 → c ≠ i2 → s.heap.get? c = some o → h'.get? c = some o) → Q (.ref s.heap.objs.size) { s with heap := h' }) :
    wpAny (model prog w) A (Builtin.«zip.__next__» ⟨[.ref z], []⟩) (fun fin s' => ∃ v, fin = .done (.ret v) ∧ Q v s') E s := by
  have hzl : z < s.heap.objs.size := Heap.lt_size hz
  show wpAny _ _ (field (.ref z) 2 >>= _) _ _ _
  refine wpAny_bind (wpAny_field hz rfl (x := .bool false) rfl ?_)
  show wpAny _ _ (field (.ref z) 3 >>= _) _ _ _
  refine wpAny_bind (wpAny_field hz rfl (x := .ref TI) rfl ?_)
  refine wpAny_bind (wpAny_seqItems hTI rfl ?_)
  show wpAny _ _ (Builtin.SmallTypes.ownedTupleIsFree (.ref z) >>= _) _ _ _
  refine wpAny_bind (zp_free hz h0 fun bb hp0 f1 hz0 sb0 => ?_)
  have a1 : hp0.IsTupleIter i1 l1 k := h1.extBut sb0.extBut D.i1z
  have a2 : hp0.IsTupleIter i2 l2 k := h2.extBut sb0.extBut D.i2z
  have b1 : hp0.IsTuple l1 xs := hl1.extBut sb0.extBut D.l1z
  have b2 : hp0.IsTuple l2 ys := hl2.extBut sb0.extBut D.l2z
  have tO : IsPair hp0 TO a b := sb0.extBut _ _ D.TOz hTO
  cases bb with
  | false =>
    simp only [Bool.false_eq_true, if_false, ← Array.forIn_toList, List.forIn_cons, List.forIn_nil]
    refine wpAny_bind (wpAny_bind (wpAny_bind (wpAny_holding ?_)))
    show wpAny _ _ (Builtin.SmallTypes.nextOf (.ref i1) >>= _) _ _ _
    refine wpAny_bind (RZ.nextOf_tuple_item a1 b1 hx fun p1 c1 k1 => wpAny_pure (wpAny_pure ?_))
    refine wpAny_bind (wpAny_bind (wpAny_holding ?_))
    show wpAny _ _ (Builtin.SmallTypes.nextOf (.ref i2) >>= _) _ _ _
    refine wpAny_bind (RZ.nextOf_tuple_item (a2.extBut k1.extBut D.i12.symm) (b2.extBut k1.extBut D.l2i1) hy fun p2 c2 k2 => wpAny_pure (wpAny_pure (wpAny_pure ?_)))
    have z2 : p2.objs.size = s.heap.objs.size := by rw [k2.1, k1.1, sb0.1]
    have up : ∀ c o, c ≠ z → c ≠ i1 → c ≠ i2 → s.heap.get? c = some o → (p2.push { cls := .type "tuple", data := .seq #[x, y] }).get? c = some o := fun c o q1 q2 q3 q => Heap.get?_push_of_some _ (k2.extBut _ _ q3 (k1.extBut _ _ q2 (sb0.extBut _ _ q1 q)))
    refine wpAny_bind (wpAny_newTuple (hsz := show 2 ≤ sizeLine by decide) (wpAny_pure ⟨_, rfl, ?_⟩))
    show Q (.ref p2.objs.size) _
    rw [z2]
    refine hQ _ ⟨g0, f1, h0, Heap.get?_push_of_some _ (k2.extBut _ _ D.i2z.symm (k1.extBut _ _ D.i1z.symm hz0))⟩ ⟨a, b, up _ _ D.TOz D.TOi1 D.TOi2 hTO⟩ ?_ ?_ ?_ ?_ fun c o q1 _ q3 q4 q => up c o q1 q3 q4 q
    · exact (c1.extBut k2.extBut D.i12).at fun o q => Heap.get?_push_of_some _ q
    · exact c2.at fun o q => Heap.get?_push_of_some _ q
    · rw [← z2]
      exact Heap.get?_push_size _ rfl
    · rw [Heap.size_push, z2]
  | true =>
    simp only [if_true]
    refine wpAny_bind (wpAny_rule (wpAny_bind (wpAny_field hz0 rfl (x := .ref TO) rfl ?_)))
    refine wpAny_bind (wpAny_setField_rec hz0 (by simp) fun p1 z1 k1 => ?_)
    have z1 : ZpAt p1 z TI TO .ellipsis f1 := z1
    simp only [List.zipIdx_cons, List.zipIdx_nil, List.forIn_cons, List.forIn_nil]
    refine wpAny_bind (wpAny_bind (wpAny_bind (wpAny_onRaise ?_)))
    show wpAny _ _ (Builtin.SmallTypes.nextOf (.ref i1) >>= _) _ _ _
    refine wpAny_bind (RZ.nextOf_tuple_item (a1.extBut k1.extBut D.i1z) (b1.extBut k1.extBut D.l1z) hx fun p2 c1 k2 => wpAny_pure ?_)
    have t2 : IsPair p2 TO a b := k2.extBut _ _ D.TOi1 (k1.extBut _ _ D.TOz tO)
    refine wpAny_bind (wpAny_seqItems t2 rfl (wpAny_bind (wpAny_updateSeq_pair t2 fun p3 t3 k3 => ?_)))
    have t3 : IsPair p3 TO x b := t3
    refine wpAny_bind (wpAny_letGo (wpAny_pure ?_))
    refine wpAny_bind (wpAny_bind (wpAny_onRaise ?_))
    show wpAny _ _ (Builtin.SmallTypes.nextOf (.ref i2) >>= _) _ _ _
    refine wpAny_bind (RZ.nextOf_tuple_item (((a2.extBut k1.extBut D.i2z).extBut k2.extBut D.i12.symm).extBut k3.extBut D.TOi2.symm) (((b2.extBut k1.extBut D.l2z).extBut k2.extBut D.l2i1).extBut k3.extBut D.l2TO) hy fun p4 c2 k4 => wpAny_pure ?_)
    have t4 : IsPair p4 TO x b := k4.extBut _ _ D.TOi2 t3
    refine wpAny_bind (wpAny_seqItems t4 rfl (wpAny_bind (wpAny_updateSeq_pair t4 fun p5 t5 k5 => ?_)))
    have t5 : IsPair p5 TO x y := t5
    refine wpAny_bind (wpAny_letGo (wpAny_pure (wpAny_pure ?_)))
    refine wpAny_bind (wpAny_seqItems t5 rfl (wpAny_bind (wpAny_newTuple ?_)))
    have z5 : p5.objs.size = s.heap.objs.size := by rw [k5.1, k4.1, k3.1, k2.1, k1.1, sb0.1]
    have q5 : ZpAt p5 z TI TO .ellipsis f1 := k5.extBut _ _ D.TOz.symm (k4.extBut _ _ D.i2z.symm (k3.extBut _ _ D.TOz.symm (k2.extBut _ _ D.i1z.symm z1)))
    have u5 : ∀ c o, c ≠ z → c ≠ TO → c ≠ i1 → c ≠ i2 → s.heap.get? c = some o → p5.get? c = some o := fun c o w1 w2 w3 w4 q => k5.extBut _ _ w2 (k4.extBut _ _ w4 (k3.extBut _ _ w2 (k2.extBut _ _ w3 (k1.extBut _ _ w1 (sb0.extBut _ _ w1 q)))))
    have m1 : p5.IsTupleIter i1 l1 (k + 1) := ((c1.extBut k3.extBut D.TOi1.symm).extBut k4.extBut D.i12).extBut k5.extBut D.TOi1.symm
    have m2 : p5.IsTupleIter i2 l2 (k + 1) := c2.extBut k5.extBut D.TOi2.symm
    have z5l : z < p5.objs.size := by rw [z5]; exact hzl
    show wpAny _ _ (Builtin.SmallTypes.ownedTupleHandOut (.ref z) (.ref p5.objs.size) >>= _) _ _ _
    unfold Builtin.SmallTypes.ownedTupleHandOut
    have q6 : ZpAt (p5.push { cls := .type "tuple", data := .seq #[x, y] }) z TI TO .ellipsis f1 := Heap.get?_push_of_some _ q5
    refine wpAny_bind (wpAny_bind (wpAny_setField_rec q6 (by simp) fun p7 q7 k7 => ?_))
    have q7 : ZpAt p7 z TI TO (rawInt p5.objs.size) f1 := q7
    refine wpAny_setField_rec q7 (by simp) fun p8 q8 k8 => ?_
    have q8 : ZpAt p8 z TI TO (rawInt p5.objs.size) (.bool false) := q8
    have up : ∀ c o, c ≠ z → p5.get? c = some o → p8.get? c = some o := fun c o w1 q => k8.extBut _ _ w1 (k7.extBut _ _ w1 (Heap.get?_push_of_some _ q))
    have t8 : IsPair p8 p5.objs.size x y := k8.extBut _ _ (Nat.ne_of_gt z5l) (k7.extBut _ _ (Nat.ne_of_gt z5l) (Heap.get?_push_size _ rfl))
    have z8 : p8.objs.size = p5.objs.size + 1 := by rw [k8.1, k7.1, Heap.size_push]
    refine wpAny_pure ⟨_, rfl, ?_⟩
    show Q (.ref p5.objs.size) _
    rw [z5] at t8 z8 ⊢
    exact hQ p8 ⟨_, _, .inr ⟨_, _, rfl⟩, q8⟩ ⟨x, y, up _ _ D.TOz t5⟩ (m1.at fun o q => up _ o D.i1z q) (m2.at fun o q => up _ o D.i2z q) t8 z8 fun c o w1 w2 w3 w4 q => up c o w1 (u5 c o w1 w2 w3 w4 q)
/-- .. and its end -/
theorem zp_end {z TI TO i1 i2 l1 l2 : Addr} {k : Nat} {xs ys : Array Value} {a b g0 g1 : Value} {Q : Fin → Shared → Prop} (hh : A.handled = none) (D : ZipApart z TI TO i1 i2 l1 l2)
    (hz : ZpAt s.heap z TI TO g0 g1) (h0 : Own0 g0) (hTI : IsPair s.heap TI (.ref i1) (.ref i2)) (hTO : IsPair s.heap TO a b)
    (h1 : s.heap.IsTupleIter i1 l1 k) (h2 : s.heap.IsTupleIter i2 l2 k) (hl1 : s.heap.IsTuple l1 xs) (hl2 : s.heap.IsTuple l2 ys) (hend : xs[k]? = none ∨ ys[k]? = none)
    (hE : ∀ h' e, (∀ c o, c ≠ z → c ≠ TO → c ≠ i1 → c ≠ i2 → s.heap.get? c = some o → h'.get? c = some o) → (∃ o, h'.get? e = some o ∧ o.cls = .type "StopIteration") → E (.ref e) { s with heap := h' }) :
    wpAny (model prog w) A (Builtin.«zip.__next__» ⟨[.ref z], []⟩) Q E s := by
  have hzl : z < s.heap.objs.size := Heap.lt_size hz
  show wpAny _ _ (field (.ref z) 2 >>= _) _ _ _
  refine wpAny_bind (wpAny_field hz rfl (x := .bool false) rfl ?_)
  show wpAny _ _ (field (.ref z) 3 >>= _) _ _ _
  refine wpAny_bind (wpAny_field hz rfl (x := .ref TI) rfl ?_)
  refine wpAny_bind (wpAny_seqItems hTI rfl ?_)
  show wpAny _ _ (Builtin.SmallTypes.ownedTupleIsFree (.ref z) >>= _) _ _ _
  refine wpAny_bind (zp_free hz h0 fun bb hp0 f1 hz0 sb0 => ?_)
  have a1 : hp0.IsTupleIter i1 l1 k := h1.extBut sb0.extBut D.i1z
  have a2 : hp0.IsTupleIter i2 l2 k := h2.extBut sb0.extBut D.i2z
  have b1 : hp0.IsTuple l1 xs := hl1.extBut sb0.extBut D.l1z
  have b2 : hp0.IsTuple l2 ys := hl2.extBut sb0.extBut D.l2z
  have tO : IsPair hp0 TO a b := sb0.extBut _ _ D.TOz hTO
  cases bb with
  | false =>
    simp only [Bool.false_eq_true, if_false, ← Array.forIn_toList, List.forIn_cons, List.forIn_nil]
    refine wpAny_bind (wpAny_bind (wpAny_bind (wpAny_holding ?_)))
    show wpAny _ _ (Builtin.SmallTypes.nextOf (.ref i1) >>= _) _ _ _
    cases hx : xs[k]? with
    | none =>
      exact wpAny_bind (RZ.nextOf_tuple_end hh a1 b1 hx fun p1 e k1 he => hE p1 e (fun c o q1 _ q3 _ q => k1 _ _ q3 (sb0.extBut _ _ q1 q)) he)
    | some x =>
      have hy : ys[k]? = none := by
        rcases hend with h | h
        · rw [hx] at h
          cases h
        · exact h
      refine wpAny_bind (RZ.nextOf_tuple_item a1 b1 hx fun p1 c1 k1 => wpAny_pure (wpAny_pure ?_))
      refine wpAny_bind (wpAny_bind (wpAny_holding ?_))
      show wpAny _ _ (Builtin.SmallTypes.nextOf (.ref i2) >>= _) _ _ _
      exact wpAny_bind (RZ.nextOf_tuple_end hh (a2.extBut k1.extBut D.i12.symm) (b2.extBut k1.extBut D.l2i1) hy fun p2 e k2 he => hE p2 e (fun c o q1 _ q3 q4 q => k2 _ _ q4 (k1.extBut _ _ q3 (sb0.extBut _ _ q1 q))) he)
  | true =>
    simp only [if_true]
    refine wpAny_bind (wpAny_rule (wpAny_bind (wpAny_field hz0 rfl (x := .ref TO) rfl ?_)))
    refine wpAny_bind (wpAny_setField_rec hz0 (by simp) fun p1 z1 k1 => ?_)
    have z1 : ZpAt p1 z TI TO .ellipsis f1 := z1
    simp only [List.zipIdx_cons, List.zipIdx_nil, List.forIn_cons, List.forIn_nil]
    refine wpAny_bind (wpAny_bind (wpAny_bind (wpAny_onRaise ?_)))
    show wpAny _ _ (Builtin.SmallTypes.nextOf (.ref i1) >>= _) _ _ _
    cases hx : xs[k]? with
    | none =>
      refine wpAny_bind (RZ.nextOf_tuple_end hh (a1.extBut k1.extBut D.i1z) (b1.extBut k1.extBut D.l1z) hx fun p2 e k2 he => ?_)
      obtain ⟨oe, ho, hc⟩ := he
      have z2 : ZpAt p2 z TI TO .ellipsis f1 := k2 _ _ D.i1z.symm z1
      have ne : e ≠ z := fun q => by
        subst q
        rw [z2] at ho
        cases ho
        simp at hc
      exact wpAny_setField_rec z2 (by simp) fun p3 _ k3 => hE p3 e (fun c o q1 _ q3 _ q => k3.extBut _ _ q1 (k2 _ _ q3 (k1.extBut _ _ q1 (sb0.extBut _ _ q1 q)))) ⟨oe, k3.extBut _ _ ne ho, hc⟩
    | some x =>
      have hy : ys[k]? = none := by
        rcases hend with h | h
        · rw [hx] at h
          cases h
        · exact h
      refine wpAny_bind (RZ.nextOf_tuple_item (a1.extBut k1.extBut D.i1z) (b1.extBut k1.extBut D.l1z) hx fun p2 c1 k2 => wpAny_pure ?_)
      have t2 : IsPair p2 TO a b := k2.extBut _ _ D.TOi1 (k1.extBut _ _ D.TOz tO)
      refine wpAny_bind (wpAny_seqItems t2 rfl (wpAny_bind (wpAny_updateSeq_pair t2 fun p3 t3 k3 => ?_)))
      refine wpAny_bind (wpAny_letGo (wpAny_pure ?_))
      refine wpAny_bind (wpAny_bind (wpAny_onRaise ?_))
      show wpAny _ _ (Builtin.SmallTypes.nextOf (.ref i2) >>= _) _ _ _
      refine wpAny_bind (RZ.nextOf_tuple_end hh (((a2.extBut k1.extBut D.i2z).extBut k2.extBut D.i12.symm).extBut k3.extBut D.TOi2.symm) (((b2.extBut k1.extBut D.l2z).extBut k2.extBut D.l2i1).extBut k3.extBut D.l2TO) hy fun p4 e k4 he => ?_)
      obtain ⟨oe, ho, hc⟩ := he
      have z4 : ZpAt p4 z TI TO .ellipsis f1 := k4 _ _ D.i2z.symm (k3.extBut _ _ D.TOz.symm (k2.extBut _ _ D.i1z.symm z1))
      have ne : e ≠ z := fun q => by
        subst q
        rw [z4] at ho
        cases ho
        simp at hc
      exact wpAny_setField_rec z4 (by simp) fun p5 _ k5 => hE p5 e (fun c o w1 w2 w3 w4 q => k5.extBut _ _ w1 (k4 _ _ w4 (k3.extBut _ _ w2 (k2.extBut _ _ w3 (k1.extBut _ _ w1 (sb0.extBut _ _ w1 q)))))) ⟨oe, k5.extBut _ _ ne ho, hc⟩
/-- the next of a zip, from within -/
theorem zp_nextOf {z TI TO : Addr} {g0 g1 : Value} {Q : Value → Shared → Prop} (hz : ZpAt s.heap z TI TO g0 g1)
    (h : wpAny (model prog w) A.in1 (Builtin.«zip.__next__» ⟨[.ref z], []⟩) (fun fin s' => ∃ v, fin = .done (.ret v) ∧ Q v s') E s) : wpAny (model prog w) A (Builtin.SmallTypes.nextOf (.ref z)) Q E s := by
  have hT : s.TypeIs (.ref z) "zip" := ⟨_, hz, rfl⟩
  unfold Builtin.SmallTypes.nextOf
  refine wpAny_bind (wpAny_callSpecial?_slot (name := Str.ofString "__next__") hT F.slot_zip_next
    (wpAny_call_entry F.slot_zip_next hT F.entry_zip_next ?_ (F.args_zip_next_1 _)))
  refine wpAny_mono h (fun fin s' ⟨v, e, q⟩ => ⟨v, e, wpAny_pure q⟩) fun _ _ x => x
/-- one more of enumerate, over an iterator that makes one object a turn -/
theorem en_item {e z : Addr} {c : Int} {old : Value} {G : Value → Heap → Prop} {Q : Value → Shared → Prop} (he : IsEnum s.heap e z c old)
    (inner : ∀ Q' : Value → Shared → Prop, (∀ x h1, IsEnum h1 e z c old → G x h1 → Q' x { s with heap := h1 }) → wpAny (model prog w) A (Builtin.SmallTypes.nextOf (.ref z)) Q' E s)
    (hQ : ∀ x h1 h', G x h1 → IsEnumOut h' e z (c + 1) x h1.objs.size → h'.get? h1.objs.size = some { cls := .type "tuple", data := .seq #[.int c s.toks, x] } → h'.objs.size = h1.objs.size + 1 →
      (∀ b o, b ≠ e → h1.get? b = some o → h'.get? b = some o) → Q (.ref h1.objs.size) { s with heap := h', toks := s.toks + 1 }) :
    wpAny (model prog w) A (Builtin.«enumerate.__next__» ⟨[.ref e], []⟩) (fun fin s' => ∃ v, fin = .done (.ret v) ∧ Q v s') E s := by
  obtain ⟨hp, gg, dd, tk, ss⟩ := s
  show wpAny _ _ (field (.ref e) 2 >>= _) _ _ _
  refine wpAny_bind (wpAny_field he rfl (x := .ref z) rfl (wpAny_bind (inner _ fun x h1 e1 g => ?_)))
  show wpAny _ _ (field (.ref e) 3 >>= _) _ _ ⟨h1, gg, dd, tk, ss⟩
  refine wpAny_bind (wpAny_field e1 rfl (x := rawInt c) rfl ?_)
  show wpAny _ _ (field (.ref e) 4 >>= _) _ _ ⟨h1, gg, dd, tk, ss⟩
  refine wpAny_bind (wpAny_field e1 rfl (x := .none) rfl ?_)
  show wpAny _ _ (mkInt c >>= _) _ _ ⟨h1, gg, dd, tk, ss⟩
  refine wpAny_bind (wpAny_mkInt ?_)
  show wpAny _ _ (setField (.ref e) 3 (rawInt (c + 1)) >>= _) _ _ ⟨h1, gg, dd, tk + 1, ss⟩
  refine wpAny_bind (wpAny_setField_rec e1 (by simp) fun h2 e2 s2 => ?_)
  have s2 : Heap.SameBut e h1 h2 := s2
  have e2 : IsEnum h2 e z (c + 1) old := e2
  show wpAny _ _ (setField (.ref e) 4 .none >>= _) _ _ ⟨h2, gg, dd, tk + 1, ss⟩
  refine wpAny_bind (wpAny_setField_rec e2 (by simp) fun h3 e3 s3 => ?_)
  have s3 : Heap.SameBut e h2 h3 := s3
  have e3 : IsEnum h3 e z (c + 1) old := e3
  show wpAny _ _ (newTuple [.int c tk, x] >>= _) _ _ ⟨h3, gg, dd, tk + 1, ss⟩
  refine wpAny_bind (wpAny_newTuple ?_)
  have z3 : h3.objs.size = h1.objs.size := by rw [s3.1, s2.1]
  have e4 : IsEnum (h3.push { cls := .type "tuple", data := .seq #[.int c tk, x] }) e z (c + 1) old := Heap.get?_push_of_some _ e3
  have el : e < h1.objs.size := Heap.lt_size e1
  have t4 : (h3.push { cls := .type "tuple", data := .seq #[.int c tk, x] }).get? h1.objs.size = some { cls := .type "tuple", data := .seq #[.int c tk, x] } := by
    rw [← z3]
    exact Heap.get?_push_size _ rfl
  have z4 : (h3.push { cls := .type "tuple", data := .seq #[.int c tk, x] }).objs.size = h1.objs.size + 1 := by rw [Heap.size_push, z3]
  have k4 : ∀ b o, b ≠ e → h1.get? b = some o → (h3.push { cls := .type "tuple", data := .seq #[.int c tk, x] }).get? b = some o := fun b o hb q => Heap.get?_push_of_some _ (s3.extBut b o hb (s2.extBut b o hb q))
  show wpAny _ _ (Builtin.SmallTypes.ownedTupleIsFree (.ref e) >>= _) _ _ ⟨h3.push { cls := .type "tuple", data := .seq #[.int c tk, x] }, gg, dd, tk + 1, ss⟩
  rw [show (.ref (Shared.heap ⟨h3, gg, dd, tk + 1, ss⟩).objs.size : Value) = .ref h1.objs.size from congrArg Value.ref z3]
  generalize h3.push { cls := .type "tuple", data := .seq #[.int c tk, x] } = h4 at e4 t4 z4 k4 ⊢
  unfold Builtin.SmallTypes.ownedTupleIsFree
  refine wpAny_bind (wpAny_bind (wpAny_field e4 rfl (x := .none) rfl (wpAny_pure ?_)))
  simp only [if_true]
  refine wpAny_bind (wpAny_rule (wpAny_bind (wpAny_field e4 rfl (x := old) rfl (wpAny_bind (wpAny_setField_rec e4 (by simp) fun h5 e5 s5 => ?_)))))
  have s5 : Heap.SameBut e h4 h5 := s5
  have e5 : IsEnum h5 e z (c + 1) x := e5
  show wpAny _ _ (Builtin.SmallTypes.ownedTupleHandOut (.ref e) (.ref h1.objs.size) >>= _) _ _ ⟨h5, gg, dd, tk + 1, ss⟩
  unfold Builtin.SmallTypes.ownedTupleHandOut
  refine wpAny_bind (wpAny_bind (wpAny_setField_rec e5 (by simp) fun h6 e6 s6 => ?_))
  have s6 : Heap.SameBut e h5 h6 := s6
  have e6 : IsEnumOut h6 e z (c + 1) x h1.objs.size := e6
  refine wpAny_setField_rec e6 (by simp) fun h7 e7 s7 => ?_
  have s7 : Heap.SameBut e h6 h7 := s7
  have e7 : IsEnumOut h7 e z (c + 1) x h1.objs.size := e7
  refine wpAny_bind (wpAny_letGo (wpAny_pure ⟨_, rfl, hQ x h1 h7 g e7 ?_ ?_ fun b o hb q => ?_⟩))
  · exact s7.extBut _ _ (Nat.ne_of_gt el) (s6.extBut _ _ (Nat.ne_of_gt el) (s5.extBut _ _ (Nat.ne_of_gt el) t4))
  · rw [s7.1, s6.1, s5.1, z4]
  · exact s7.extBut b o hb (s6.extBut b o hb (s5.extBut b o hb (k4 b o hb q)))
end
end
open PySem L2
variable [Wd]
/-- enumerate of a zip of the tuples at a and b -/
def IteZ (K : Frag) (a b : Addr) : L2.It :=
  ⟨fun i H => ∃ (xs ys : List V) (x y : V), SqT K H a xs ∧ SqT K H b ys ∧ xs[i]? = some x ∧ ys[i]? = some y,
    fun i H v H' => ∃ T U x y, v = .ref U ∧ H T = none ∧ H U = none ∧ T ≠ U ∧ H' = upd (upd H T (.tup [x, y])) U (.tup [.int (i : Nat), .ref T]) ∧ (∀ xs, SqT K H a xs → xs[i]? = some x) ∧ ∀ ys, SqT K H b ys → ys[i]? = some y,
    fun i H => ∃ xs ys : List V, SqT K H a xs ∧ SqT K H b ys ∧ (xs.length ≤ i ∨ ys.length ≤ i)⟩
structure EzApart (e z TI TO i1 i2 a b : Addr) : Prop where
  D : ZipApart z TI TO i1 i2 a b
  ez : e ≠ z
  eTI : e ≠ TI
  eTO : e ≠ TO
  e1 : e ≠ i1
  e2 : e ≠ i2
  ea : e ≠ a
  eb : e ≠ b
def EzSt (e z TI TO i1 i2 a b : Addr) (i : Nat) (h : Heap) : Prop :=
  (∃ old, IsEnum h e z ((i : Nat) : Int) old) ∧ (∃ g0 g1, Own0 g0 ∧ ZpAt h z TI TO g0 g1) ∧ IsPair h TI (.ref i1) (.ref i2) ∧ (∃ x y, IsPair h TO x y) ∧ h.IsTupleIter i1 a i ∧ h.IsTupleIter i2 b i
theorem mem6 {e z TI TO i1 i2 c : Addr} (h : c ∈ [e, z, TI, TO, i1, i2]) : c = e ∨ c = z ∨ c = TI ∨ c = TO ∨ c = i1 ∨ c = i2 := by simpa using h
theorem turn_enumZ {P : Program} {w : World} {K : Frag} {elts : List Expr} {kk : Nat} {tpos : Pos} {e z TI TO i1 i2 a b : Addr} (A : EzApart e z TI TO i1 i2 a b) :
    Turn P w K (.Tuple elts kk tpos) (IteZ K a b) [e, z, TI, TO, i1, i2] e (EzSt e z TI TO i1 i2 a b) where
  mem := by simp
  obj := fun i h st c hc => by
    obtain ⟨⟨old, he⟩, ⟨g0, g1, _, hz⟩, hTI, ⟨x, y, hTO⟩, ⟨o1, q1, _, d1⟩, ⟨o2, q2, _, d2⟩⟩ := st
    rcases mem6 hc with q | q | q | q | q | q <;> rw [q]
    · exact ⟨_, he, fun v q => nomatch q⟩
    · exact ⟨_, hz, fun v q => nomatch q⟩
    · exact ⟨_, hTI, fun v q => nomatch q⟩
    · exact ⟨_, hTO, fun v q => nomatch q⟩
    · exact ⟨o1, q1, fun v q => by rw [d1] at q; cases q⟩
    · exact ⟨o2, q2, fun v q => by rw [d2] at q; cases q⟩
  keep := fun i h h' st k => by
    obtain ⟨⟨old, he⟩, ⟨g0, g1, h0, hz⟩, hTI, ⟨x, y, hTO⟩, h1, h2⟩ := st
    exact ⟨⟨old, k e (by simp) _ he⟩, ⟨g0, g1, h0, k z (by simp) _ hz⟩, k TI (by simp) _ hTI, ⟨x, y, k TO (by simp) _ hTO⟩, h1.at fun o q => k i1 (by simp) o q, h2.at fun o q => k i2 (by simp) o q⟩
  item := by
    intro X hP hw hK hc i pins s σ H E I hf st hg
    subst hP hw hK
    obtain ⟨⟨old, he⟩, ⟨g0, g1, h0, hz⟩, hTI, ⟨x0, y0, hTO⟩, h1, h2⟩ := st
    obtain ⟨xs, ys, x, y, hqx, hqy, hx, hy⟩ := hg
    obtain ⟨its, rv, p, _⟩ := I.tuple hqx
    obtain ⟨its2, rv2, p2, _⟩ := I.tuple hqy
    obtain ⟨u, hu, ru⟩ := rv.get hx
    obtain ⟨u2, hu2, ru2⟩ := rv2.get hy
    have lt6 : ∀ c ∈ [e, z, TI, TO, i1, i2], c < s.heap.objs.size := fun c hcm => by
      rcases mem6 hcm with q | q | q | q | q | q <;> rw [q]
      · exact Heap.lt_size he
      · exact Heap.lt_size hz
      · exact Heap.lt_size hTI
      · exact Heap.lt_size hTO
      · obtain ⟨_, q1, _⟩ := h1; exact Heap.lt_size q1
      · obtain ⟨_, q1, _⟩ := h2; exact Heap.lt_size q1
    have hT : s.TypeIs (.ref e) "enumerate" := ⟨_, he, rfl⟩
    unfold pyNext
    refine wpAny_bind (wpAny_attempt (wpAny_callSpecial?_slot (name := Str.ofString "__next__") hT F.slot_enumerate_next (wpAny_call_entry F.slot_enumerate_next hT F.entry_enumerate_next ?_ (F.args_enumerate_next_1 _))))
    refine en_item (c := ((i : Nat) : Int)) (z := z) (old := old) (G := fun v h1 => v = .ref s.heap.objs.size ∧ (∃ f0 f1, Own0 f0 ∧ ZpAt h1 z TI TO f0 f1) ∧ (∃ a b, IsPair h1 TO a b) ∧ h1.IsTupleIter i1 a (i + 1) ∧ h1.IsTupleIter i2 b (i + 1) ∧ IsPair h1 s.heap.objs.size u u2 ∧ h1.objs.size = s.heap.objs.size + 1 ∧ (∀ c o, c ≠ z → c ≠ TO → c ≠ i1 → c ≠ i2 → s.heap.get? c = some o → h1.get? c = some o)) he (fun Q' hq => ?_) fun v p1 p2 g eo tp sz kp => ?_
    · refine zp_nextOf hz (zp_item A.D hz h0 hTI hTO h1 h2 p p2 (x := u) (y := u2) (by simpa using hu) (by simpa using hu2) fun h' b1 b2 b3 b4 b5 b6 b7 => ?_)
      exact hq _ h' (b7 e _ A.ez A.eTO A.e1 A.e2 he) ⟨rfl, b1, b2, b3, b4, b5, b6, b7⟩
    · obtain ⟨rfl, ⟨f0, f1, w0, wz⟩, ⟨wa, wb, wO⟩, w1, w2, w5, w6, w7⟩ := g
      refine wpAny_pure ⟨_, rfl, wpAny_letOwnedTupleGo_enum (s := { s with heap := p2, toks := s.toks + 1 }) eo fun p3 eo3 sb3 => ?_⟩
      have el : e < s.heap.objs.size := lt6 e (by simp)
      have e1 : p1.objs.size ≠ e := by rw [w6]; exact Nat.ne_of_gt (Nat.lt_succ_of_lt el)
      have nT : H s.heap.objs.size = none := I.hok.fresh (Nat.le_refl _)
      have nU : H (s.heap.objs.size + 1) = none := I.hok.fresh (Nat.le_succ _)
      have hTU : s.heap.objs.size ≠ s.heap.objs.size + 1 := Nat.ne_of_lt (Nat.lt_succ_self _)
      have new1 : ObjOk X.prog X.w (upd H s.heap.objs.size (.tup [x, y])) p1 s.heap.objs.size (.tup [x, y]) := ⟨by show 2 ≤ sizeLine; decide, [u, u2], .cons ru (.cons ru2 .nil), ⟨_, w5, rfl, _, rfl⟩⟩
      have I1 : Inv X pins σ (upd H s.heap.objs.size (.tup [x, y])) { s with heap := p1 } :=
        I.turnedNew (t' := s.toks) (ch := [e, z, TI, TO, i1, i2]) (fun c o hb q => w7 c o (fun q' => hb (by simp [q'])) (fun q' => hb (by simp [q'])) (fun q' => hb (by simp [q'])) (fun q' => hb (by simp [q'])) q) hf (Nat.le_refl _) new1
      have f1' : ∀ c ∈ [e], FpOk X pins (upd H s.heap.objs.size (.tup [x, y])) c := fun c hcm => by
        have q : c = e := by simpa using hcm
        subst q
        obtain ⟨n0, n1⟩ := hf c (by simp)
        exact ⟨by rw [upd_ne (Nat.ne_of_lt el)]; exact n0, n1⟩
      have tp3 : p3.get? p1.objs.size = some { cls := .type "tuple", data := .seq #[.int ((i : Nat) : Int) s.toks, .ref s.heap.objs.size] } := (sb3.2 _ e1).trans tp
      rw [w6] at tp3
      have new2 : ObjOk X.prog X.w (upd (upd H s.heap.objs.size (.tup [x, y])) (s.heap.objs.size + 1) (.tup [.int (i : Nat), .ref s.heap.objs.size])) p3 (s.heap.objs.size + 1) (.tup [.int (i : Nat), .ref s.heap.objs.size]) :=
        ⟨by show 2 ≤ sizeLine; decide, [.int ((i : Nat) : Int) s.toks, .ref s.heap.objs.size], .cons ⟨_, rfl⟩ (.cons rfl .nil), ⟨_, tp3, rfl, _, rfl⟩⟩
      have up3 : ∀ c o, c ≠ e → p1.get? c = some o → p3.get? c = some o := fun c o hb q => (sb3.2 c hb).trans (kp c o hb q)
      have I2 : Inv X pins σ (upd (upd H s.heap.objs.size (.tup [x, y])) (s.heap.objs.size + 1) (.tup [.int (i : Nat), .ref s.heap.objs.size])) { s with heap := p3, toks := s.toks + 1 } :=
        I1.turnedNew (t' := s.toks + 1) (ch := [e]) (fun c o hb q => up3 c o (fun q' => hb (by simp [q'])) q) f1' (by show p1.objs.size ≤ _; rw [w6]; exact Nat.le_refl _) new2
      have sz1 : (Value.ref p1.objs.size) = .ref (s.heap.objs.size + 1) := by rw [w6]
      refine ⟨.ref (s.heap.objs.size + 1), _, I2, sz1, ⟨s.heap.objs.size, s.heap.objs.size + 1, x, y, rfl, nT, nU, hTU, rfl, fun l hl => by rw [I.tuple_inj hl hqx]; exact hx, fun l hl => by rw [I.tuple_inj hl hqy]; exact hy⟩, ⟨⟨.ref s.heap.objs.size, ?_⟩, ⟨f0, f1, w0, up3 _ _ A.ez.symm wz⟩, up3 _ _ A.eTI.symm (w7 _ _ A.D.TIz A.D.TITO A.D.TIi1 A.D.TIi2 hTI), ⟨wa, wb, up3 _ _ A.eTO.symm wO⟩, w1.at fun o q => up3 _ o A.e1.symm q, w2.at fun o q => up3 _ o A.e2.symm q⟩, fun c hcm => ?_⟩
      · rw [show ((i + 1 : Nat) : Int) = (i : Int) + 1 by omega]
        exact eo3
      · have := lt6 c hcm
        rw [upd_ne (Nat.ne_of_lt (Nat.lt_succ_of_lt this)), upd_ne (Nat.ne_of_lt this)]
        exact (hf c hcm).1
  done := by
    intro X hP hw hK hc i pins s σ H E I hf st hg
    subst hP hw hK
    obtain ⟨⟨old, he⟩, ⟨g0, g1, h0, hz⟩, hTI, ⟨x0, y0, hTO⟩, h1, h2⟩ := st
    obtain ⟨xs, ys, hqx, hqy, hend⟩ := hg
    obtain ⟨its, rv, p, _⟩ := I.tuple hqx
    obtain ⟨its2, rv2, p2, _⟩ := I.tuple hqy
    have l1 := rv.length
    have l2 := rv2.length
    have hn : its.toArray[i]? = none ∨ its2.toArray[i]? = none := by
      rcases hend with q | q
      · exact .inl (by simp; omega)
      · exact .inr (by simp; omega)
    have hT : s.TypeIs (.ref e) "enumerate" := ⟨_, he, rfl⟩
    unfold pyNext
    refine wpAny_bind (wpAny_attempt (wpAny_callSpecial?_slot (name := Str.ofString "__next__") hT F.slot_enumerate_next (wpAny_call_entry F.slot_enumerate_next hT F.entry_enumerate_next ?_ (F.args_enumerate_next_1 _))))
    show wpAny _ _ (field (.ref e) 2 >>= _) _ _ _
    refine wpAny_bind (wpAny_field he rfl (x := .ref z) rfl (wpAny_bind (zp_nextOf hz (zp_end (I.ok.hd hc) A.D hz h0 hTI hTO h1 h2 p p2 hn fun h' x hk hx => ?_))))
    obtain ⟨o, ho, hcl⟩ := hx
    refine wpAny_bind (wpAny_isInstance (T := "StopIteration") (b := true) ⟨o, ho, hcl⟩ isSubtype_stop ?_)
    exact wpAny_pure ⟨rfl, I.turnedL (t' := s.toks) (ch := [e, z, TI, TO, i1, i2]) (fun c o hb q => hk c o (fun q' => hb (by simp [q'])) (fun q' => hb (by simp [q'])) (fun q' => hb (by simp [q'])) (fun q' => hb (by simp [q'])) q) hf⟩
  self := fun A i s Q E st h => by
    obtain ⟨⟨_, he⟩, _⟩ := st
    exact wpAny_pyIter_enum he h
section
open PySem
set_option maxHeartbeats 1000000 in
theorem meets_enumZ (z TI TO : Addr) :
    Meets (Builtin.«enumerate.__new__» ⟨[.type "enumerate", .ref z], []⟩) (fun _ R s => IsZip s.heap z TI TO .none ∧
      R (.ok (.ret (.ref s.heap.objs.size))) { s with heap := s.heap.push { cls := .type "enumerate", data := .fields #[.none, .bool false, .ref z, rawInt 0, .none, .none] } }) :=
  .of_wp fun prog w A R s hh => by
    obtain ⟨hp, gg, dd, tk, ss⟩ := s
    obtain ⟨hz, hh⟩ := hh
    have hsub := sub_enumerate
    have q1 : ∀ {A' : Around} {E : Value → Shared → Prop} {Q : Value → Shared → Prop}, Q (.ref z) ⟨hp, gg, dd, tk, ss⟩ → wpAny (model prog w) A' (pyIter (.ref z)) Q E ⟨hp, gg, dd, tk, ss⟩ :=
      fun q => wpAny_pyIter_zip hz q
    wp_walk using q1
    refine wpAny_stack_any fun st => wpAny_pure ?_
    split
    · rename_i c _ _ _ _ _
      cases (c == Value.type "enumerate")
      · wp_walk using q1
        exact ⟨_, rfl, hh⟩
      · wp_walk using q1
        exact ⟨_, rfl, hh⟩
    · wp_walk using q1
      exact ⟨_, rfl, hh⟩
theorem call_enumZ {prog : Program} {w : World} {A : Around} {E : Value → Shared → Prop} {s : Shared} {z TI TO : Addr} {Q : Value → Shared → Prop} (hz : IsZip s.heap z TI TO .none)
    (h : ∀ h', IsEnum h' s.heap.objs.size z 0 .none → h'.objs.size = s.heap.objs.size + 1 → (∀ b o, s.heap.get? b = some o → h'.get? b = some o) → Q (.ref s.heap.objs.size) { s with heap := h' }) :
    wpAny (model prog w) A (call (.type "enumerate") [.ref z]) Q E s := by
  refine callType_new F.called_enumerate (by decide) (F.typeCall_enumerate_1 _) (F.newCall_enumerate_1 _) (fun obj => F.args_object_init_2 obj _) F.entry_enumerate_new (meets_enumZ z TI TO) ⟨hz, ?_⟩
  have he : IsEnum (s.heap.push { cls := .type "enumerate", data := .fields #[.none, .bool false, .ref z, rawInt 0, .none, .none] }) s.heap.objs.size z 0 .none := Heap.get?_push_size _ rfl
  exact ⟨⟨_, he, rfl⟩, h _ he (Heap.size_push ..) fun b u x => Heap.get?_push_of_some _ x⟩
end
section
variable {X : Cx} {σ0 : L2.St} {E : Exc → Hp → Prop} {pos : Pos}
theorem ez_apart (n a b : Nat) (D : ZipApart (n + 4) (n + 2) (n + 3) n (n + 1) a b) (ha : a < n) (hb : b < n) : EzApart (n + 5) (n + 4) (n + 2) (n + 3) n (n + 1) a b :=
  ⟨D, fun h => by have h : n + 5 = n + 4 := h; omega, fun h => by have h : n + 5 = n + 2 := h; omega, fun h => by have h : n + 5 = n + 3 := h; omega, fun h => by have h : n + 5 = n := h; omega, fun h => by have h : n + 5 = n + 1 := h; omega, fun h => by have h : n + 5 = a := h; omega, fun h => by have h : n + 5 = b := h; omega⟩
theorem pi_enumZ {e1 e2 : Expr} {ta : TA} {p q pos zpos tpos : Pos} {elts : List Expr} {kk : Nat} (hg : Gl X "enumerate") (hm : X.mg "enumerate" = none) (hg2 : Gl X "zip") (hm2 : X.mg "zip" = none) (ha : PA X [e1, e2] ta)
    (hs0 : starEach [Expr.Call (.Name "zip" q) [e1, e2] [] zpos] X.env = (false, eval (.Call (.Name "zip" q) [e1, e2] [] zpos) X.env) :: starEach [] X.env)
    (hs : starEach [e1, e2] X.env = (false, eval e1 X.env) :: starEach [e2] X.env) (hpl : (backTo zpos (starEach [e2] X.env)).any (·.1) = false) :
    PI X (.Tuple elts kk tpos) (.Call (.Name "enumerate" p) [.Call (.Name "zip" q) [e1, e2] [] zpos] [] pos) (fun σ H R => ta σ H fun vs H1 => ∃ a b xs ys, vs = [.ref a, .ref b] ∧ SqT X.K H1 a xs ∧ SqT X.K H1 b ys ∧ R (IteZ X.K a b) H1) := by
  refine ⟨fun pins s σ H R I h => ?_⟩
  refine PyProof.Rows.Call_ (ld_blt I hg hm PyProof.Rows.boot_enumerate (PyProof.Rows.callWith_type1 (PyProof.Rows.args_cons ?_ hs0) hs0 rfl))
  refine PyProof.Rows.Call_ (ld_blt I hg2 hm2 PyProof.Rows.boot_zip (PyProof.Rows.callWith_type1 (thn (ha.run zpos pins s σ H _ I h) fun us s1 ⟨vs, H1, I1, r1, q1⟩ => ?_) hs hpl))
  obtain ⟨a, b, xs, ys, ex, hqx, hqy, q⟩ := q1
  subst ex
  cases r1 with
  | cons r rr =>
    cases rr with
    | cons r' rr =>
      cases rr
      cases r
      cases r'
      obtain ⟨its, rv, p1, _⟩ := I1.tuple hqx
      obtain ⟨its2, rv2, p2, _⟩ := I1.tuple hqy
      obtain ⟨o1, ho1, _⟩ := id p1
      obtain ⟨o2, ho2, _⟩ := id p2
      have la : a < s1.heap.objs.size := Heap.lt_size ho1
      have lb : b < s1.heap.objs.size := Heap.lt_size ho2
      refine RZ.call_zipT (show s1.heap.IsTuple a its.toArray from p1) (show s1.heap.IsTuple b its2.toArray from p2) fun h1 hz hTI hTO t1 t2 hsz hk => ?_
      refine PyProof.Rows.args_nil ?_
      refine call_enumZ (s := { s1 with heap := h1 }) hz fun h2 he hsz2 hk2 => wpAny_pyIter_enum he ?_
      have hsz : h1.objs.size = s1.heap.objs.size + 5 := hsz
      have he : IsEnum h2 h1.objs.size (s1.heap.objs.size + 4) 0 .none := he
      have I2 : Inv X pins σ H1 { s1 with heap := h2 } := I1.kept (t' := s1.toks) fun c o e => hk2 c o (hk c o e)
      have ap := PySem.W.ktu_apart s1.heap.objs.size a b la lb
      rw [hsz] at he
      refine ⟨s1.heap.objs.size + 5, [s1.heap.objs.size + 5, s1.heap.objs.size + 4, s1.heap.objs.size + 2, s1.heap.objs.size + 3, s1.heap.objs.size, s1.heap.objs.size + 1], _, _, H1, congrArg Value.ref hsz, I2, turn_enumZ (ez_apart _ _ _ ap la lb), ⟨⟨.none, he⟩, ⟨.none, .bool false, .inl rfl, hk2 _ _ hz⟩, hk2 _ _ hTI, ⟨_, _, hk2 _ _ hTO⟩, t1.at fun o e => hk2 _ o e, t2.at fun o e => hk2 _ o e⟩, fun c hcm => ?_, q⟩
      have hle : s1.heap.objs.size ≤ c := by
        rcases mem6 hcm with z | z | z | z | z | z <;> rw [z] <;> omega
      exact I1.fpOk hle (I1.hok.fresh hle)
theorem wk_enumZ {K : Frag} {H : Hp} {a b : Addr} {xs ys : List PD} {vs ws : List V} (h : SqT K H a vs) (r : RDs K H xs vs) (h' : SqT K H b ws) (r' : RDs K H ys ws) : WkOk K (IteZ K a b) H (enumL 0 (zipL xs ys)) := by
  refine ⟨fun H => (SqT K H a vs ∧ RDs K H xs vs) ∧ (SqT K H b ws ∧ RDs K H ys ws), ⟨⟨h, r⟩, h', r'⟩, fun H1 H2 k q => ⟨⟨sqT_keeps k q.1.1, q.1.2.mono k⟩, sqT_keeps k q.2.1, q.2.2.mono k⟩, ?_⟩
  rw [enumL_length, zipL_length, r.length, r'.length]
  refine ⟨fun i H hi q => ⟨vs, ws, vs[i]'(by omega), ws[i]'(by omega), q.1.1, q.2.1, List.getElem?_eq_getElem (by omega), List.getElem?_eq_getElem (by omega)⟩, fun H q => ⟨vs, ws, q.1.1, q.2.1, by omega⟩, fun i H v H' hi q y => ?_⟩
  obtain ⟨T, U, x, y', rfl, hT, hU, hTU, rfl, h4, h5⟩ := y
  obtain ⟨d, g1, g2⟩ := q.1.2.getV (h4 vs q.1.1)
  obtain ⟨d', g3, g4⟩ := q.2.2.getV (h5 ws q.2.1)
  have s1 := same_upd (o := .tup [x, y']) hT
  have hU' : upd H T (.tup [x, y']) U = none := by rw [upd_ne (Ne.symm hTU)]; exact hU
  have s2 := same_upd (o := .tup [.int (i : Nat), .ref T]) hU'
  have sm : Same H (upd (upd H T (.tup [x, y'])) U (.tup [.int (i : Nat), .ref T])) := fun b o e => s2 b o (s1 b o e)
  refine ⟨sm, .tuple [.int i, .tuple [d, d']], ?_, .tup (SqT.of upd_same) (.cons (.int _) (.cons (.tup (SqT.of (s2 T _ upd_same)) (.cons (g2.mono (Keeps.of_same sm)) (.cons (g4.mono (Keeps.of_same sm)) .nil))) .nil))⟩
  have := enumL_get (zipL xs ys) 0 i _ (zipL_get xs ys i d d' g1 g3)
  rw [Nat.zero_add] at this
  exact this
theorem si_enumZ {elts : List Expr} {kk : Nat} {tpos p q zpos : Pos} {a b : Expr} {f g : Rho → R OV} (hg : Gl X "enumerate") (hm : X.mg "enumerate" = none) (hg2 : Gl X "zip") (hm2 : X.mg "zip" = none) (ha : PE X a (tE X.K σ0 E f)) (hb : PE X b (tE X.K σ0 E g))
    (hs0 : starEach [Expr.Call (.Name "zip" q) [a, b] [] zpos] X.env = (false, eval (.Call (.Name "zip" q) [a, b] [] zpos) X.env) :: starEach [] X.env)
    (hs : starEach [a, b] X.env = (false, eval a X.env) :: starEach [b] X.env) (hs2 : starEach [b] X.env = (false, eval b X.env) :: starEach [] X.env) (hpl : (backTo zpos (starEach [b] X.env)).any (·.1) = false) :
    PI X (.Tuple elts kk tpos) (.Call (.Name "enumerate" p) [.Call (.Name "zip" q) [a, b] [] zpos] [] pos) (tI X.K σ0 E fun ρ => (f ρ).bind fun x ρ => (g ρ).bind fun y ρ => match x, y with
    | .d (.tuple xs), .d (.tuple ys) => .ok (enumL 0 (zipL xs ys)) ρ
    | _, _ => .stuck) := by
  refine pi_conseq (pi_enumZ hg hm hg2 hm2 (pa_cons ha (pa_cons hb pa_nil hs2) hs) hs0 hs hpl) fun σ H Q ⟨ρ, S, r, q⟩ => ?_
  refine ⟨ρ, S, r, q.bind.mono fun x ρ1 S1 H1 r1 s1 q1 v o => ?_⟩
  refine ⟨ρ1, S1, r1, q1.bind.mono fun y ρ2 S2 H2 r2 s2 q2 w o2 => ?_⟩
  have o := o.mono (r1.keeps s2)
  match x, y, o, o2, q2 with
  | .d (.tuple xs), .d (.tuple ys), o, o2, q2 =>
    have o : RD X.K H2 (.tuple xs) v := o
    have o2 : RD X.K H2 (.tuple ys) w := o2
    cases o with
    | tup h1 rd1 =>
      cases o2 with
      | tup h2 rd2 => exact ⟨_, _, _, _, rfl, h1, h2, q2.ok r2 _ (wk_enumZ h1 rd1 h2 rd2)⟩
end
end Er

set_option Elab.async false
set_option linter.all false
set_option maxRecDepth 100000
set_option maxHeartbeats 2000000
/-! C25: comprehensions with two clauses. -/
namespace Er
open PySem L2
variable [Wd]
/-- any loop over a walk -/
theorem walk_W {J : L2.It} {n : Nat} {G : Hp → Prop} {Y : Nat → Hp → V → Hp → Prop} (w : Walk J n G Y) (Pv : Nat → Hp → Prop) {H0 : Hp} (h0 : Pv 0 H0) (hG : ∀ i H, i ≤ n → Pv i H → G H) {Fi : Hp → Prop} {Bo : V → Hp → (Hp → Prop) → Prop}
    (hs : ∀ i x H H', i < n → Pv i H → Y i H x H' → Bo x H' (Pv (i + 1))) (hd : ∀ H, Pv n H → Fi H) :
    ∃ W : Nat → Nat → Hp → Prop, (∃ m, W 0 m H0) ∧ ∀ i m H, W i m H → (J.stop i H ∧ Fi H) ∨ (J.go i H ∧ ∃ Nx : Hp → Prop, (∀ H', Nx H' → ∃ m', m' < m ∧ W (i + 1) m' H') ∧ ∀ x H', J.yld i H x H' → Bo x H' Nx) := by
  refine ⟨fun i m H => m = n - i ∧ i ≤ n ∧ Pv i H, ⟨n, by simp, Nat.zero_le _, h0⟩, fun i m H hw => ?_⟩
  obtain ⟨rfl, hi, p⟩ := hw
  have q := hG i H hi p
  rcases Nat.lt_or_ge i n with hlt | hge
  · exact .inr ⟨w.goes i H hlt q, Pv (i + 1), fun H' p' => ⟨n - (i + 1), by omega, rfl, hlt, p'⟩, fun x H' y => hs i x H H' hlt p (w.yields i H x H' hlt q y)⟩
  · have e : i = n := by omega
    subst e
    exact .inl ⟨w.stops H q, hd H p⟩
def compR2 (t : Tg) (own : List Nat) (fi : Rho → R (List PD)) (t2 : Tg) (fi2 : Rho → R (List PD)) (e : Rho → R OV) (ρ : Rho) : R OV := (fi ρ).bind fun xs ρ => match loopC2 t own (fun ρ => (fi2 ρ).bind fun ys ρ => loopC t2 (tgS t2) (fun ρ => .ok (.d (.bool true)) ρ) e ys ρ) xs ρ with
  | .ok ys ρ' => if ys.length ≤ lim then .ok (.d (.list ys)) (backR ρ ρ' own) else .stuck
  | _ => .stuck
omit [Wd] in
theorem wipe_sub {σ : L2.St} {vs1 vs : List Nat} (h : ∀ i ∈ vs1, i ∈ vs) : wipe (wipe σ vs1) vs = wipe σ vs := wipe_ext (wipe_length σ vs1) fun i hi => wipe_get σ vs1 i fun z => hi (h i z)
omit [Wd] in
theorem wipeR_sub {ρ : Rho} {vs1 vs : List Nat} (h : ∀ i ∈ vs1, i ∈ vs) : wipeR (wipeR ρ vs1) vs = wipeR ρ vs := by
  apply List.ext_getElem?
  intro i
  by_cases hi : i ∈ vs
  · by_cases hl : i < ρ.length
    · rw [wipeR_in _ vs i hi (by rw [wipeR_length]; exact hl), wipeR_in _ vs i hi hl]
    · rw [List.getElem?_eq_none (by rw [wipeR_length, wipeR_length]; omega), List.getElem?_eq_none (by rw [wipeR_length]; omega)]
  · rw [wipeR_get _ vs i hi, wipeR_get _ vs i hi, wipeR_get _ vs1 i fun z => hi (h i z)]
omit [Wd] in
theorem drop_at {α : Type} {l : List α} {i : Nat} {d : α} (h : l[i]? = some d) : l.drop i = d :: l.drop (i + 1) := by
  obtain ⟨hi, e⟩ := List.getElem?_eq_some_iff.mp h
  rw [List.drop_eq_getElem_cons hi, e]
section
variable {X : Cx} {σ0 : L2.St} {E : Exc → Hp → Prop}
theorem lc2_reads {t t2 : Tg} {own : List Nat} {fi fi2 : Rho → R (List PD)} {fe : Rho → R OV} (ht : ∀ i ∈ tgS t, i ∈ own) (ht2 : ∀ i ∈ tgS t2, i ∈ own) {σ : L2.St} {H : Hp} {Q : VK} (h : tF X.K σ0 E (compR2 t own fi t2 fi2 fe) σ H Q) :
    tLc2 (tI X.K σ0 E fi) (tG X.K σ0 t) tYes (tI X.K σ0 E0' fi2) (tG X.K σ0 t2) tYes (tE X.K σ0 E0' fe) own (tgS t2) σ H Q := by
  obtain ⟨ρ, S, r, q⟩ := h
  refine ⟨ρ, S, r, (After.bind (r := fi ρ) q).mono fun xs ρ1 S1 H1 r1 s1 q1 J wk D hD => ?_⟩
  obtain ⟨G, g0, gk, w⟩ := wk
  try dsimp only at q1
  split at q1
  · rename_i ys ρn el
    split at q1
    · rename_i hlim
      obtain ⟨Sw, rw0, subw, back⟩ := r1.back (vs := own) (Sn := S1) (Hn := H1)
      have smD : Same H1 (upd H1 D (.lst [])) := same_upd hD
      refine walk_W w (fun i H' => ∃ ρi Si zs ws rest, loopC2 t own (fun ρ => (fi2 ρ).bind fun ys ρ => loopC t2 (tgS t2) (fun ρ => .ok (.d (.bool true)) ρ) fe ys ρ) (xs.drop i) ρi = .ok rest ρn ∧ ys = zs ++ rest ∧ Rep X.K σ0 (wipe σ own) (wipeR ρi own) H' Si ∧ H' D = some (.lst ws) ∧ RDs X.K H' zs ws ∧ ¬ Si D ∧ Step Sw H1 Si H' ∧ G H')
        ⟨ρ1, Sw, [], [], ys, by rw [List.drop_zero]; exact el, rfl, rw0.same smD, upd_same, .nil, rw0.notin hD, Step.same smD, gk _ _ (Keeps.of_same smD) g0⟩ (fun i H' _ h => ?_) (fun i x H' H2 hi h y => ?_) fun H' h => ?_
      · obtain ⟨_, _, _, _, _, _, _, _, _, _, _, _, h⟩ := h
        exact h
      · obtain ⟨ρi, Si, zs, ws, rest, e1, e2, ri, eD, rd, nD, st, gh⟩ := h
        obtain ⟨sm, d, ed, rdd⟩ := y
        rw [drop_at ed] at e1
        unfold loopC2 at e1
        split at e1
        · cases e1
        · rename_i ρ2 ea
          refine ⟨d, wipeR ρi own, Si, ri.same sm, rdd, ρ2, ea, fun σ3 S3 r3 sub3 l3 g3 => ?_⟩
          have w3 : wipe σ3 own = wipe σ own := (wipe_ext l3 fun j hj => g3 j fun z => hj (ht j z)).trans (wipe_wipe σ own)
          have st3 : Step Si H' S3 H2 := ⟨fun b o h _ => sm b o h, fun b h => .inl (sub3 b h)⟩
          refine ⟨w3, ?_⟩
          simp only [tYes, if_true]
          refine ⟨ρ2, S3, r3, ?_⟩
          cases e2i : fi2 ρ2 with
          | stuck => rw [e2i] at e1; cases e1
          | exc e' ρ5 => rw [e2i] at e1; cases e1
          | ok ys2 ρ4 =>
            rw [e2i] at e1
            simp only [R.bind_ok] at e1
            cases e3 : loopC t2 (tgS t2) (fun ρ => .ok (.d (.bool true)) ρ) fe ys2 ρ4 with
            | stuck => rw [e3] at e1; cases e1
            | exc e' ρ6 => rw [e3] at e1; cases e1
            | ok zz ρ5 =>
              rw [e3] at e1
              simp only [R.bind_ok] at e1
              cases e4 : loopC2 t own (fun ρ => (fi2 ρ).bind fun ys ρ => loopC t2 (tgS t2) (fun ρ => .ok (.d (.bool true)) ρ) fe ys ρ) (xs.drop (i + 1)) ρ5 with
              | stuck => rw [e4] at e1; cases e1
              | exc e' ρ6 => rw [e4] at e1; cases e1
              | ok rest' ρ6 =>
                rw [e4] at e1
                cases e1
                intro S4 H4 r4 s4 J1 wk1
                obtain ⟨G1, g10, g1k, w1⟩ := wk1
                have s34 : Step Si H' S4 H4 := st3.trans s4
                have eD4 : H4 D = some (.lst ws) := s34.keep D _ eD nD
                have nD4 : ¬ S4 D := fun z => by
                  rcases s34.own D z with z | z
                  · exact nD z
                  · rw [eD] at z; cases z
                obtain ⟨S4w, r4w, sub4w⟩ := r4.wipe (tgS t2)
                have k34 : Keeps H' H4 := ri.keeps s34
                refine walk_W w1 (fun j Hj => ∃ ρj Sj z2 wj rst, loopC t2 (tgS t2) (fun ρ => .ok (.d (.bool true)) ρ) fe (ys2.drop j) ρj = .ok rst ρ5 ∧ zz = z2 ++ rst ∧ Rep X.K σ0 (wipe σ3 (tgS t2)) (wipeR ρj (tgS t2)) Hj Sj ∧ Hj D = some (.lst wj) ∧ RDs X.K Hj (zs ++ z2) wj ∧ ¬ Sj D ∧ Step Sw H1 Sj Hj ∧ Keeps H4 Hj ∧ G1 Hj)
                  ⟨ρ4, S4w, [], ws, zz, by rw [List.drop_zero]; exact e3, rfl, r4w, eD4, by rw [List.append_nil]; exact rd.mono k34, fun z => nD4 (sub4w D z), ⟨(st.trans s34).keep, fun b hb => (st.trans s34).own b (sub4w b hb)⟩, Keeps.refl _, g10⟩ (fun j Hj _ h => ?_) (fun j x1 Hj Hk hj h y1 => ?_) fun Hj h => ?_
                · obtain ⟨_, _, _, _, _, _, _, _, _, _, _, _, _, h⟩ := h
                  exact h
                · obtain ⟨ρj, Sj, z2, wj, rst, f1, f2, rj, eDj, rdj, nDj, stj, kj, gj⟩ := h
                  obtain ⟨smj, d1, ed1, rdd1⟩ := y1
                  rw [drop_at ed1] at f1
                  unfold loopC at f1
                  split at f1
                  · cases f1
                  · rename_i ρ7 ea7
                    refine ⟨d1, wipeR ρj (tgS t2), Sj, rj.same smj, rdd1, ρ7, ea7, fun σ7 S7 r7 sub7 l7 g7 => ?_⟩
                    have w7 : wipe σ7 (tgS t2) = wipe σ3 (tgS t2) := (wipe_ext l7 fun k hk => g7 k hk).trans (wipe_wipe σ3 (tgS t2))
                    have st7 : Step Sj Hj S7 Hk := ⟨fun b o h _ => smj b o h, fun b h => .inl (sub7 b h)⟩
                    refine ⟨w7, ?_⟩
                    simp only [tYes, if_true]
                    refine ⟨ρ7, S7, r7, ?_⟩
                    dsimp only at f1
                    cases ee : fe ρ7 with
                    | stuck => rw [ee] at f1; cases f1
                    | exc e' ρ8 => rw [ee] at f1; cases f1
                    | ok yv ρ8 =>
                      rw [ee] at f1
                      intro S5 H5 r5 s5 v ov
                      cases yv with
                      | s k => cases f1
                      | d dz =>
                        have f1 : ((loopC t2 (tgS t2) (fun ρ => .ok (.d (.bool true)) ρ) fe (ys2.drop (j + 1)) ρ8).bind fun zs ρ5 => .ok (dz :: zs) ρ5) = .ok rst ρ5 := f1
                        cases er : loopC t2 (tgS t2) (fun ρ => .ok (.d (.bool true)) ρ) fe (ys2.drop (j + 1)) ρ8 with
                        | stuck => rw [er] at f1; cases f1
                        | exc e' ρ9 => rw [er] at f1; cases f1
                        | ok rst' ρ9 =>
                          rw [er] at f1
                          cases f1
                          have s75 : Step Sj Hj S5 H5 := st7.trans s5
                          have eD5 : H5 D = some (.lst wj) := s75.keep D _ eDj nDj
                          have nD5 : ¬ S5 D := fun z => by
                            rcases s75.own D z with z | z
                            · exact nDj z
                            · rw [eDj] at z; cases z
                          have hz : wj.length < sizeLine := by
                            rw [← rdj.length]
                            have : (zs ++ (zz ++ rest')).length ≤ sizeLine := by rw [← e2]; exact hlim
                            rw [f2] at this
                            simp only [List.length_append, List.length_cons] at this ⊢
                            omega
                          refine ⟨wj, eD5, hz, ?_⟩
                          have kpD : Keeps H5 (upd H5 D (.lst (wj ++ [v]))) := fun b o hb so => by
                            rw [upd_ne (fun q => by
                              rw [q, eD5] at hb
                              cases hb
                              cases so)]
                            exact hb
                          obtain ⟨S6, r6, sub6⟩ := r5.wipe (tgS t2)
                          rw [w7] at r6
                          have nD6 : ¬ S6 D := fun z => nD5 (sub6 D z)
                          have k75 : Keeps Hj H5 := rj.keeps s75
                          refine ⟨ρ8, S6, z2 ++ [dz], wj ++ [v], rst', er, by rw [f2, List.append_assoc]; rfl, r6.grow kpD fun b o hb ho => ?_, upd_same, ?_, nD6, ⟨fun b o hb nb => ?_, fun b hb => ?_⟩, (kj.trans k75).trans kpD, g1k _ _ (k75.trans kpD) gj⟩
                          · rw [upd_ne (fun q => nD6 (by rw [← q]; exact hb))]
                            exact ho
                          · rw [← List.append_assoc]
                            exact ((rdj.mono k75).append (.cons ov .nil)).mono kpD
                          · have h5 := (stj.trans s75).keep b o hb nb
                            rw [upd_ne (fun q => by
                              rw [q, hD] at hb
                              cases hb)]
                            exact h5
                          · exact (stj.trans s75).own b (sub6 b hb)
                · obtain ⟨ρj, Sj, z2, wj, rst, f1, f2, rj, eDj, rdj, nDj, stj, kj, gj⟩ := h
                  rw [List.drop_length] at f1
                  cases f1
                  rw [List.append_nil] at f2
                  subst f2
                  obtain ⟨S6, r6, sub6⟩ := rj.wipe own
                  rw [wipe_sub ht2, w3, wipeR_sub ht2] at r6
                  exact ⟨ρ5, S6, zs ++ zz, wj, rest', e4, by rw [e2, List.append_assoc], r6, eDj, rdj, fun z => nDj (sub6 D z), ⟨stj.keep, fun b hb => stj.own b (sub6 b hb)⟩, gk _ _ (k34.trans kj) gh⟩
      · obtain ⟨ρi, Si, zs, ws, rest, e1, e2, ri, eD, rd, nD, st, gh⟩ := h
        rw [List.drop_length] at e1
        cases e1
        rw [List.append_nil] at e2
        subst e2
        obtain ⟨S2, r2, st2, sub2⟩ := back ρn Si H' ri st
        refine q1 S2 H' r2 st2 _ ⟨D, ws, rfl, eD, rd, fun z => ?_, s1.free hD⟩
        rcases sub2 D z with z | z
        · exact nD z
        · exact r1.notin hD z
    · exact q1.elim
  · exact q1.elim
end
end Er

set_option Elab.async false
set_option linter.all false
set_option maxRecDepth 100000
set_option maxHeartbeats 2000000
/-! D3: dicts: expressions, statements, what is walked. -/
namespace Er
open PySem L2
variable [Wd]
section
variable {X : Cx} {pins : List (Addr × Obj)} {σ : L2.St} {H : Hp} {s : Shared} {a : Addr} {A : Around} {E : Value → Shared → Prop}
/-- a dict is filled -/
theorem D_dictSet {Q : Unit → Shared → Prop} (hu : A.units + 20 < cLine) (I : Inv X pins σ H s) (wd : X.w = Wd.w) {l l' : List (PD × PD)} {k d : PD} {y v : V} {u w' : Value} (h : DO X.K H a l) (ht : isTup k = true) (rk : RD X.K H k y) (ry : RelV y u) (rd : RD X.K H d v) (rv : RelV v w') (e : dPut l k d = some l')
    (q : ∀ o s', Inv X pins σ (upd H a o) s' → DO X.K (upd H a o) a l' → Q () s') : wpAny (model X.prog X.w) A (dictSet a u w') Q E s := by
  obtain ⟨n, hk, ok, hl, rfl⟩ := dPut_some e
  have mu : Mut (H a) := by
    rcases h with ⟨ks, _, h, _⟩ | ⟨ks, h, _⟩ <;> rw [h] <;> exact True.intro
  obtain ⟨o0, ho0, hst⟩ := h.mut
  obtain ⟨hs, hT, ⟨b, n', ks, xs, rfl, rfl, hk', htu, hb, z, r, kr, dd⟩ | ⟨i, t, kvs, vs, rfl, rfl, rfl, z, r, kr, dd⟩⟩ := D_key I wd h.rd rk ry hk ok
  · rw [hk] at hk'
    cases hk'
    have hr : (nestedKind X.prog X.w).room A := show A.units + 8 < cLine by omega
    refine wpAny_dictSet_heap (hsz := by rw [← kr.length]; exact z) hr hb dd fun h' dd' hs' => ?_
    have hz : (storeE ks n b v).length ≤ sizeLine := by
      have := length_storeE ks n b v
      have h2 : ks.length < sizeLine := by rw [← r.length]; exact hl
      omega
    have he : ∃ q, h'.get? a = some q := let ⟨q, _, _, hq, _⟩ := dd'; ⟨q, hq⟩
    refine q (dtO a (storeE ks n b v)) _ (d_write I mu hs' he (dto_new wd hz hs (kr.store rv) dd')) (.inl ⟨_, storeE_ne _ _ _ _, upd_same, ?_⟩)
    have kp : Keeps H (upd H a (dtO a (storeE ks n b v))) := keeps_upd ho0 hst
    exact (r.mono kp).put hk htu (rk.mono kp) (rd.mono kp)
  · cases ht
section
open PySem.Spec PyProof.Rows
theorem raw_same {prog : Program} {w : World} {nm : String} {a b : Addr} {oa ob : Obj} {es : Array DictEntry} {ep ep' : Nat} {Q : Bool → Shared → Prop} (ha : (a == sysModules) = false) (hb : (b == sysModules) = false)
    (hoa : s.heap.get? a = some oa) (hda : oa.data = .dict es ep) (hob : s.heap.get? b = some ob) (hdb : ob.data = .dict #[] ep') (h : Q (es.size == 0) s) :
    wpAny (model prog w) A (Builtin.Dict.samePairs nm a b) Q E s := by
  unfold Builtin.Dict.samePairs Builtin.Dict.showsAll
  rw [if_neg (show ¬ (a == sysModules) = true by rw [ha]; exact Bool.false_ne_true), if_neg (show ¬ (b == sysModules) = true by rw [hb]; exact Bool.false_ne_true)]
  refine wpAny_bind (wpAny_pure (wpAny_bind (wpAny_pure ?_)))
  refine wpAny_bind (wpAny_dictEntries hoa hda ?_)
  dsimp only
  refine wpAny_bind (wpAny_dictEntries hob hdb ?_)
  by_cases hsz : es.size = 0
  case neg =>
    rw [if_pos (by simpa using hsz)]
    rw [show (es.size == 0) = false by simpa using hsz] at h
    exact wpAny_bind (wpAny_rule (wpAny_pure h))
  case pos =>
    rw [if_neg (by rw [hsz]; simp)]
    rw [hsz] at h ⊢
    refine wpAny_bind (wpAny_dictEpoch hoa hda ?_)
    refine wpAny_bind ?_
    rw [Std.Legacy.Range.forIn_eq_forIn_range']
    simp only [Std.Legacy.Range.size, Nat.sub_zero, Nat.add_sub_cancel, Nat.div_one]
    exact wpAny_pure (wpAny_pure h)
theorem raw_eq {prog : Program} {w : World} {a b : Addr} {oa ob : Obj} {es : Array DictEntry} {ep ep' : Nat} {Q : Value → Shared → Prop} (ha : (a == sysModules) = false) (hb : (b == sysModules) = false)
    (hoa : s.heap.get? a = some oa) (hxa : oa.ExactDict) (hda : oa.data = .dict es ep) (hob : s.heap.get? b = some ob) (hxb : ob.ExactDict) (hdb : ob.data = .dict #[] ep') (hu : A.units < cLine) (h : Q (.bool (es.size == 0)) s) :
    wpAny (model prog w) A (compareOp .Eq (.ref a) (.ref b)) Q E s := by
  have ta : s.TypeIs (.ref a) "dict" := ⟨oa, hoa, hxa.1⟩
  have tb : s.TypeIs (.ref b) "dict" := ⟨ob, hob, hxb.1⟩
  refine wpAny_richCompare_same_room (op := .Eq) ta tb PySem.F.slot_dict_eq (wpAny_call_entry PySem.F.slot_dict_eq ta PySem.F.entry_dict_eq ?_ (PySem.F.args_dict_eq_2 _ _)) hu
  show wpAny _ _ (Builtin.Dict.dictSlotArgs "__eq__" ⟨[.ref a, .ref b], []⟩ >>= _) _ _ s
  refine wpAny_bind ?_
  unfold Builtin.Dict.dictSlotArgs
  refine wpAny_bind (wpAny_notOrdered_dict ta ?_)
  show wpAny _ _ (pure (Value.ref a, Value.ref b)) _ _ s
  refine wpAny_pure ?_
  refine wpAny_bind (wpAny_isInstance (T := "dict") tb PySem.F.sub_dict_dict ?_)
  simp only [Bool.not_true, Bool.false_eq_true, if_false]
  refine wpAny_bind (wpAny_pure (wpAny_bind (wpAny_pure ?_)))
  refine wpAny_bind (raw_same ha hb hoa hda hob hdb ?_)
  refine wpAny_pure ⟨_, rfl, ?_, ?_⟩
  · exact fun x => nomatch x
  · simpa using h
theorem raw_ne {prog : Program} {w : World} {a b : Addr} {oa ob : Obj} {es : Array DictEntry} {ep ep' : Nat} {Q : Value → Shared → Prop} (ha : (a == sysModules) = false) (hb : (b == sysModules) = false)
    (hoa : s.heap.get? a = some oa) (hxa : oa.ExactDict) (hda : oa.data = .dict es ep) (hob : s.heap.get? b = some ob) (hxb : ob.ExactDict) (hdb : ob.data = .dict #[] ep') (hu : A.units < cLine) (h : Q (.bool (!(es.size == 0))) s) :
    wpAny (model prog w) A (compareOp .NotEq (.ref a) (.ref b)) Q E s := by
  have ta : s.TypeIs (.ref a) "dict" := ⟨oa, hoa, hxa.1⟩
  have tb : s.TypeIs (.ref b) "dict" := ⟨ob, hob, hxb.1⟩
  refine wpAny_richCompare_same_room (op := .NotEq) ta tb PySem.F.slot_dict_ne (wpAny_call_entry PySem.F.slot_dict_ne ta PySem.F.entry_dict_ne ?_ (PySem.F.args_dict_ne_2 _ _)) hu
  show wpAny _ _ (Builtin.Dict.dictSlotArgs "__ne__" ⟨[.ref a, .ref b], []⟩ >>= _) _ _ s
  refine wpAny_bind ?_
  unfold Builtin.Dict.dictSlotArgs
  refine wpAny_bind (wpAny_notOrdered_dict ta ?_)
  show wpAny _ _ (pure (Value.ref a, Value.ref b)) _ _ s
  refine wpAny_pure ?_
  refine wpAny_bind (wpAny_isInstance (T := "dict") tb PySem.F.sub_dict_dict ?_)
  simp only [Bool.not_true, Bool.false_eq_true, if_false]
  refine wpAny_bind (wpAny_pure (wpAny_bind (wpAny_pure ?_)))
  refine wpAny_bind (raw_same ha hb hoa hda hob hdb ?_)
  refine wpAny_pure ⟨_, rfl, ?_, ?_⟩
  · exact fun x => nomatch x
  · simpa using h
end
end
def isEop (neg : Bool) : CmpOp := match neg with
  | true => .NotEq
  | false => .Eq
theorem op_isE {X : Cx} (hu : X.A.units + 65 < cLine) (neg : Bool) : OpR X (compareOp (isEop neg)) (fun x y H Q => ∃ a b l, x = .ref a ∧ y = .ref b ∧ DRd X.K H a l ∧ DRd X.K H b [] ∧ Q (.bl (l.isEmpty != neg)) H) := by
  intro pins s σ H x y v u Q I rx ry h
  obtain ⟨a, b, l, rfl, rfl, ha, hb, q⟩ := h
  cases rx
  cases ry
  obtain ⟨s1, _, o1, es1, ep1, _, g1, x1, d1, z1, _⟩ := D_raw I ha
  obtain ⟨s2, _, o2, es2, ep2, _, g2, x2, d2, z2, _⟩ := D_raw I hb
  have e2 : es2 = #[] := Array.eq_empty_of_size_eq_zero (by simpa using z2)
  subst e2
  have e3 : (es1.size == 0) = l.isEmpty := by
    rw [z1]
    cases l <;> rfl
  cases neg with
  | false => exact raw_eq s1 s2 g1 x1 d1 g2 x2 d2 (by omega) ⟨.bl _, H, I, by rw [e3]; rfl, by rw [Bool.bne_false] at q; exact q⟩
  | true => exact raw_ne s1 s2 g1 x1 d1 g2 x2 d2 (by omega) ⟨.bl _, H, I, by rw [e3]; rfl, by rw [Bool.bne_true] at q; exact q⟩
section
variable {X : Cx} {pos cpos apos : Pos}
/-- {k: v} -/
def tDct1 (K : Frag) (tk tv : TE) : TE := fun σ H Q => ∀ p, H p = none → tk σ (upd H p (.dK [])) fun x H1 => tv σ H1 fun y H2 => H2 p = some (.dK []) ∧ ∃ k d l', isTup k = true ∧ RD K H2 k x ∧ RD K H2 d y ∧ dPut [] k d = some l' ∧ ∀ o, DO K (upd H2 p o) p l' → Q (.ref p) (upd H2 p o)
theorem pe_dct1 {k v : Expr} {tk tv : TE} (wd : X.w = Wd.w) (hu : X.A.units + 65 < cLine) (hk : PE X k tk) (hv : PE X v tv) : PE X (.Dict [some k] [v] pos) (tDct1 X.K tk tv) := by
  refine ⟨fun pins s σ H Q I h => ?_⟩
  have hn := I.hok.fresh (Nat.le_refl s.heap.objs.size)
  have I1 := I.laid (a := s.heap.objs.size) (o := .dK []) (h' := s.heap.push { cls := .type "dict", data := .dict #[] }) (t' := s.toks) (fun _ _ q => Heap.get?_push_of_some _ q) (Nat.le_refl _) (dk_empty s.heap I.big)
  refine wpAny_Dict_any rfl rfl (by simp) (by simp) (pairTrees_cons_walk (thn (hk.run pins _ σ _ _ I1 (h _ hn)) fun kv s1 ⟨x, H1, I1, rx, q1⟩ => thn (hv.run pins s1 σ H1 _ I1 q1) fun vv s2 ⟨y, H2, I2, ry, e, k, d, l', ht, rk, rd, ep, q2⟩ => pairTrees_nil_walk ?_))
  unfold storeAll
  rw [List.forIn_cons]
  refine wpAny_bind (wpAny_bind (D_dictSet (show X.A.units + 20 < cLine by omega) I2 wd (.inr ⟨_, e, .nil⟩) ht rk rx rd ry ep fun o s3 I3 hd => wpAny_pure ?_))
  show wpAny _ _ (forIn [] _ _) _ _ _
  rw [List.forIn_nil]
  exact wpAny_pure ⟨.ref s.heap.objs.size, _, I3, rfl, q2 o hd⟩
/-- d.get(k) -/
def tGet1 (K : Frag) (td ty : TE) : TE := fun σ H Q => td σ H fun x H1 => ∃ a, x = .ref a ∧ (∃ l, DRd K H1 a l) ∧ ty σ H1 fun y H2 => ∃ l k o, DRd K H2 a l ∧ RD K H2 k y ∧ dGet l k = some o ∧ ∀ v, RD K H2 (o.getD .none) v → Q v H2
def tGet2 (K : Frag) (td ty tz : TE) : TE := fun σ H Q => td σ H fun x H1 => ∃ a, x = .ref a ∧ (∃ l, DRd K H1 a l) ∧ ty σ H1 fun y H2 => tz σ H2 fun z H3 => ∃ l k o d, DRd K H3 a l ∧ RD K H3 k y ∧ dGet l k = some o ∧ RD K H3 d z ∧ ∀ v, RD K H3 (o.getD d) v → Q v H3
theorem drd_at {pins : List (Addr × Obj)} {σ : L2.St} {H : Hp} {s : Shared} {a : Addr} {l : List (PD × PD)} (I : Inv X pins σ H s) (h : DRd X.K H a l) : s.TypeIs (.ref a) "dict" ∧ ∀ b, Value.ref a = .ref b → ∃ ob, s.heap.get? b = some ob ∧ ob.dict = none := by
  obtain ⟨_, _, o, es, ep, ys, ho, hx, _⟩ := D_raw I h
  exact ⟨⟨o, ho, hx.1⟩, fun b q => by cases q; exact ⟨o, ho, hx.2.1⟩⟩
theorem pe_get1 {o e : Expr} {td ty : TE} (wd : X.w = Wd.w) (hu : X.A.units + 65 < cLine) (ho : PE X o td) (he : PE X e ty) (m : M1 X o "get" apos e cpos) : PE X (.Call (.Attribute o "get" apos) [e] [] cpos) (tGet1 X.K td ty) := by
  refine ⟨fun pins s σ H Q I h => ?_⟩
  refine wpAny_Call_method m.base m.few m.line PySem.F.plainAttrs_dict PySem.F.slot_dict_get PySem.F.type_dict_get (thn (ho.run pins s σ H _ I h) fun u s1 ⟨x, H1, I1, rx, a, ex, ⟨l, d⟩, q1⟩ => ?_)
  subst ex
  obtain rfl : u = Value.ref a := rx
  obtain ⟨t1, t2⟩ := drd_at I1 d
  refine ⟨t1, t2, ?_⟩
  rw [m.trees]
  refine Calls.callWith_builtin rfl (Calls.evalArgs_plain (Calls.spliced_cons (thn (he.run pins s1 σ H1 _ I1 q1) fun iv s2 ⟨y, H2, I2, ry, l, k, ov, hd, rk, g, q2⟩ => Calls.spliced_nil ?_)))
  exact D_get1 (by omega) I2 wd hd rk ry g fun v w' s3 I3 hv rw' => ⟨v, H2, I3, rw', q2 v hv⟩
theorem pe_get2 {o e f : Expr} {td ty tz : TE} (wd : X.w = Wd.w) (hu : X.A.units + 65 < cLine) (ho : PE X o td) (he : PE X e ty) (hf : PE X f tz) (m : M2 X o "get" apos e f cpos) : PE X (.Call (.Attribute o "get" apos) [e, f] [] cpos) (tGet2 X.K td ty tz) := by
  refine ⟨fun pins s σ H Q I h => ?_⟩
  refine wpAny_Call_method m.base m.few m.line PySem.F.plainAttrs_dict PySem.F.slot_dict_get PySem.F.type_dict_get (thn (ho.run pins s σ H _ I h) fun u s1 ⟨x, H1, I1, rx, a, ex, ⟨l, d⟩, q1⟩ => ?_)
  subst ex
  obtain rfl : u = Value.ref a := rx
  obtain ⟨t1, t2⟩ := drd_at I1 d
  refine ⟨t1, t2, ?_⟩
  rw [m.trees]
  refine Calls.callWith_builtin rfl (Calls.evalArgs_plain (Calls.spliced_cons (thn (he.run pins s1 σ H1 _ I1 q1) fun iv s2 ⟨y, H2, I2, ry, q2⟩ =>
    Calls.spliced_cons (thn (hf.run pins s2 σ H2 _ I2 q2) fun fv s3 ⟨z, H3, I3, rz, l, k, ov, d, hd, rk, g, rd, q3⟩ => Calls.spliced_nil ?_))))
  exact D_get2 (by omega) I3 wd hd rk ry g rd rz fun v w' s4 I4 hv rw' => ⟨v, H3, I4, rw', q3 v hv⟩
end
section
variable {X : Cx} {σ0 : L2.St} {E : Exc → Hp → Prop} {pos cpos apos : Pos}
theorem sf_dct0 : PE X (.Dict [] [] pos) (tF X.K σ0 E fun ρ => .ok (.d (.dict [])) ρ) := by
  refine pe_conseq pe_dnewK fun σ H Q ⟨ρ, S, r, q⟩ p hp => ?_
  exact q S _ (r.same (same_upd hp)) (Step.same (same_upd hp)) _ ⟨p, rfl, .inr ⟨[], upd_same, .nil⟩, r.notin hp, .inr hp⟩
theorem sf_dct1 {k v : Expr} {fk fv : Rho → R OV} (wd : X.w = Wd.w) (hu : X.A.units + 65 < cLine) (hk : PE X k (tE X.K σ0 E fk)) (hv : PE X v (tE X.K σ0 E fv)) :
    PE X (.Dict [some k] [v] pos) (tF X.K σ0 E fun ρ => (fk ρ).bind fun x ρ => (esc x ρ).bind fun x ρ => (fv ρ).bind fun y ρ => (esc y ρ).bind fun y ρ => ofO ((if isTup x = true then dPut [] x y else none).map fun l => .d (.dict l)) ρ) := by
  refine pe_conseq (pe_dct1 wd hu hk hv) fun σ H Q ⟨ρ, S, r, q⟩ p hp => ?_
  have st0 : Step S H S (upd H p (.dK [])) := Step.same (same_upd hp)
  have nS : ¬ S p := r.notin hp
  refine ⟨ρ, S, r.same (same_upd hp), ?_⟩
  dsimp only at q
  revert q
  cases fk ρ with
  | stuck => exact fun q => q.elim
  | exc e ρ1 => exact fun q S1 H1 r1 s1 => q S1 H1 r1 (st0.trans s1)
  | ok x ρ1 =>
    intro q S1 H1 r1 s1 v1 o1
    cases x with
    | s j => exact q.elim
    | d x =>
      have q : After X.K σ0 E σ S H ((fv ρ1).bind fun y ρ => (esc y ρ).bind fun y ρ => ofO ((if isTup x = true then dPut [] x y else none).map fun l => .d (.dict l)) ρ) fun x _ S' H' => ∀ v, FRok X.K S H S' H' x v → Q v H' := q
      have o1 : RD X.K H1 x v1 := o1
      refine ⟨ρ1, S1, r1, ?_⟩
      revert q
      cases fv ρ1 with
      | stuck => exact fun q => q.elim
      | exc e ρ2 => exact fun q S2 H2 r2 s2 => q S2 H2 r2 ((st0.trans s1).trans s2)
      | ok y ρ2 =>
        intro q S2 H2 r2 s2 v2 o2
        cases y with
        | s j => exact q.elim
        | d y =>
          have o2 : RD X.K H2 y v2 := o2
          have q : After X.K σ0 E σ S H (ofO ((if isTup x = true then dPut [] x y else none).map fun l => OV.d (.dict l)) ρ2) fun x _ S' H' => ∀ v, FRok X.K S H S' H' x v → Q v H' := q
          cases e4 : (if isTup x = true then dPut [] x y else none) with
          | none => rw [e4] at q; exact q.elim
          | some l' =>
            rw [e4] at q
            split at e4
            · rename_i ht
              have s12 : Step S (upd H p (.dK [])) S2 H2 := s1.trans s2
              have e2 : H2 p = some (.dK []) := s12.keep p _ upd_same nS
              have nS2 : ¬ S2 p := fun z => by
                rcases s12.own p z with z | z
                · exact nS z
                · rw [upd_same] at z; cases z
              refine ⟨e2, x, y, l', ht, o1.mono (r1.keeps s2), o2, e4, fun o hd => ?_⟩
              have kp : Keeps H2 (upd H2 p o) := keeps_upd e2 rfl
              refine q S2 _ (r2.grow kp fun b u hb q' => ?_) ⟨fun b u hb nb => ?_, fun b hb => ?_⟩ _ ⟨p, rfl, hd, nS2, .inr hp⟩
              · rw [upd_ne (fun z => nS2 (by rw [← z]; exact hb))]
                exact q'
              · have z : b ≠ p := fun z => by rw [z, hp] at hb; cases hb
                rw [upd_ne z]
                exact s12.keep b u (by rw [upd_ne z]; exact hb) nb
              · rcases s12.own b hb with z | z
                · exact .inl z
                · refine .inr ?_
                  by_cases e : b = p
                  · rw [e]; exact hp
                  · rw [upd_ne e] at z; exact z
            · cases e4
theorem se_get1 {o e : Expr} {f g : Rho → R OV} (wd : X.w = Wd.w) (hu : X.A.units + 65 < cLine) (ho : PE X o (tE X.K σ0 E f)) (he : PE X e (tE X.K σ0 E g)) (m : M1 X o "get" apos e cpos) :
    PE X (.Call (.Attribute o "get" apos) [e] [] cpos) (tE X.K σ0 E fun ρ => (f ρ).bind fun x ρ => match x.get ρ with
      | some (.dict _) => (g ρ).bind fun y ρ => match x.get ρ, y.get ρ with
        | some (.dict l), some y => ofO ((dGet l y).map fun o => .d (o.getD .none)) ρ
        | _, _ => .stuck
      | _ => .stuck) := by
  refine pe_conseq (pe_get1 wd hu ho he m) fun σ H Q ⟨ρ, S, r, q⟩ => ?_
  refine ⟨ρ, S, r, q.bind.mono fun x ρ1 S1 H1 r1 s1 q1 v1 o1 => ?_⟩
  try dsimp only at q1
  split at q1
  · rename_i l0 e1
    obtain ⟨a, rfl, hd1⟩ := (o1.rt r1 e1).dict
    refine ⟨a, rfl, ⟨_, hd1⟩, ρ1, S1, r1, q1.bind.mono fun y ρ2 S2 H2 r2 s2 q2 v2 o2 => ?_⟩
    try dsimp only at q2
    split at q2
    · rename_i l k e2 e3
      obtain ⟨z, e4, q3, _⟩ := q2.ofO r2
      obtain ⟨ov, e5, rfl⟩ := Option.map_eq_some_iff.mp e4
      obtain ⟨a', ea, hd⟩ := ((o1.mono (r1.keeps s2)).rt r2 e2).dict
      cases ea
      exact ⟨l, k, ov, hd, (o2.rt r2 e3).key e5, e5, q3⟩
    · exact q2.elim
  · exact q1.elim
theorem se_get2 {o e f3 : Expr} {f g h : Rho → R OV} (wd : X.w = Wd.w) (hu : X.A.units + 65 < cLine) (ho : PE X o (tE X.K σ0 E f)) (he : PE X e (tE X.K σ0 E g)) (hf : PE X f3 (tE X.K σ0 E h)) (m : M2 X o "get" apos e f3 cpos) :
    PE X (.Call (.Attribute o "get" apos) [e, f3] [] cpos) (tE X.K σ0 E fun ρ => (f ρ).bind fun x ρ => match x.get ρ with
      | some (.dict _) => (g ρ).bind fun y ρ => (esc y ρ).bind fun y ρ => (h ρ).bind fun z ρ => (esc z ρ).bind fun z ρ => match x.get ρ with
        | some (.dict l) => ofO ((dGet l y).map fun o => .d (o.getD z)) ρ
        | _ => .stuck
      | _ => .stuck) := by
  refine pe_conseq (pe_get2 wd hu ho he hf m) fun σ H Q ⟨ρ, S, r, q⟩ => ?_
  refine ⟨ρ, S, r, q.bind.mono fun x ρ1 S1 H1 r1 s1 q1 v1 o1 => ?_⟩
  try dsimp only at q1
  split at q1
  · rename_i l0 e1
    obtain ⟨a, rfl, hd1⟩ := (o1.rt r1 e1).dict
    refine ⟨a, rfl, ⟨_, hd1⟩, ρ1, S1, r1, q1.bind.mono fun y ρ2 S2 H2 r2 s2 q2 v2 o2 => ?_⟩
    cases y with
    | s j => exact q2.elim
    | d y =>
      refine ⟨ρ2, S2, r2, (After.bind (r := h ρ2) q2).mono fun z ρ3 S3 H3 r3 s3 q3 v3 o3 => ?_⟩
      cases z with
      | s j => exact q3.elim
      | d z =>
        have o2 : RD X.K H2 y v2 := o2
        have q3 : After X.K σ0 E σ S3 H3 (match x.get ρ3 with
        | some (.dict l) => ofO ((dGet l y).map fun o => OV.d (o.getD z)) ρ3
        | _ => .stuck) fun x _ _ H' => ∀ v, OVok X.K σ H' x v → Q v H' := q3
        split at q3
        · rename_i l e2
          obtain ⟨w, e4, q4, _⟩ := q3.ofO r3
          obtain ⟨ov, e5, rfl⟩ := Option.map_eq_some_iff.mp e4
          obtain ⟨a', ea, hd⟩ := (((o1.mono (r1.keeps s2)).mono (r2.keeps s3)).rt r3 e2).dict
          cases ea
          exact ⟨l, y, ov, z, hd, o2.mono (r2.keeps s3), e5, o3, q4⟩
        · exact q3.elim
  · exact q1.elim
theorem tE_dct0 {σ : L2.St} {H : Hp} {Q : VK} {ρ : Rho} {S : Addr → Prop} (r : Rep X.K σ0 σ ρ H S) (q : ∀ v H', Same H H' → Rep X.K σ0 σ ρ H' S → (∃ b, v = .ref b ∧ DRd X.K H' b []) → Q v H') : tDNewK σ H Q := fun p hp =>
  q _ _ (same_upd hp) (r.same (same_upd hp)) ⟨p, rfl, .inr ⟨[], .inl upd_same, .nil⟩⟩
def tIsE (K : Frag) (neg : Bool) (te : TE) : TE := tOp (fun x y H Q => ∃ a b l, x = .ref a ∧ y = .ref b ∧ DRd K H a l ∧ DRd K H b [] ∧ Q (.bl (l.isEmpty != neg)) H) te tDNewK
theorem isE_reads {neg : Bool} {f : Rho → R OV} {σ : L2.St} {H : Hp} {Q : VK} (q : tE X.K σ0 E (fun ρ => (f ρ).bind fun x ρ => match x.get ρ with
      | some (.dict l) => .ok (.d (.bool (l.isEmpty != neg))) ρ
      | _ => .stuck) σ H Q) : tIsE X.K neg (tE X.K σ0 E f) σ H Q := by
  obtain ⟨ρ, S, r, q⟩ := q
  refine ⟨ρ, S, r, q.bind.mono fun x ρ1 S1 H1 r1 s1 q1 v1 o1 => ?_⟩
  refine tE_dct0 r1 fun v H2 sm r2 ⟨b, hv, hb⟩ => ?_
  try dsimp only at q1
  split at q1
  · rename_i l e1
    obtain ⟨a, ha, hd⟩ := ((o1.mono (Keeps.of_same sm)).rt r2 e1).dict
    exact ⟨a, b, l, ha, hv, hd, hb, q1 S1 H2 r2 (Step.same sm) _ (.bool _)⟩
  · exact q1.elim
theorem se_isE {e : Expr} {p2 : Pos} {neg : Bool} {f : Rho → R OV} (hu : X.A.units + 65 < cLine) (h : PE X e (tE X.K σ0 E f)) (hm : behindInMarks (isEop neg) (.Dict [] [] p2) = false) :
    PE X (.Compare e [isEop neg] [.Dict [] [] p2] pos) (tE X.K σ0 E fun ρ => (f ρ).bind fun x ρ => match x.get ρ with
      | some (.dict l) => .ok (.d (.bool (l.isEmpty != neg))) ρ
      | _ => .stuck) := pe_conseq (pe_cmpR (op_isE hu neg) h pe_dnewK hm) fun σ H Q q => isE_reads q
theorem st_isE {e : Expr} {p2 : Pos} {neg : Bool} {f : Rho → R OV} (hu : X.A.units + 65 < cLine) (h : PE X e (tE X.K σ0 E f)) (hm : behindInMarks (isEop neg) (.Dict [] [] p2) = false) :
    PT X (.Compare e [isEop neg] [.Dict [] [] p2] pos) (tB X.K σ0 E fun ρ => (f ρ).bind fun x ρ => match x.get ρ with
      | some (.dict l) => .ok (.d (.bool (l.isEmpty != neg))) ρ
      | _ => .stuck) := st_of (t := tIsE X.K neg (tE X.K σ0 E f)) (pt_cmpR (op_isE hu neg) h pe_dnewK hm) fun σ H Q q => isE_reads q
end
end Er

set_option Elab.async false
set_option linter.all false
set_option maxRecDepth 100000
set_option maxHeartbeats 2000000
/-! D4: dicts: what is walked; statements. -/
namespace Er
open PySem L2
variable [Wd]
section
variable {X : Cx} {pins : List (Addr × Obj)} {σ : L2.St} {H : Hp} {s : Shared} {a : Addr}
/-- the keys of the frozen dict at a, in their order -/
def ItdK (K : Frag) (a : Addr) (o : Obj) (l : List (PD × PD)) : L2.It :=
  ⟨fun i H => ((∃ u, H a = some (.frz o u)) ∧ RD K H (.dict l) (.ref a)) ∧ i < l.length, fun i H x H' => H' = H ∧ ∃ p, l[i]? = some p ∧ RD K H p.1 x, fun i H => ((∃ u, H a = some (.frz o u)) ∧ RD K H (.dict l) (.ref a)) ∧ l.length ≤ i⟩
/-- .. the pairs, each a new tuple -/
def ItdI (K : Frag) (a : Addr) (o : Obj) (l : List (PD × PD)) : L2.It :=
  ⟨fun i H => ((∃ u, H a = some (.frz o u)) ∧ RD K H (.dict l) (.ref a)) ∧ i < l.length, fun i H x H' => ∃ T v w p, x = .ref T ∧ H T = none ∧ H' = upd H T (.tup [v, w]) ∧ l[i]? = some p ∧ RD K H p.1 v ∧ RD K H p.2 w, fun i H => ((∃ u, H a = some (.frz o u)) ∧ RD K H (.dict l) (.ref a)) ∧ l.length ≤ i⟩
theorem frz_raw (I : Inv X pins σ H s) {o : Obj} {l : List (PD × PD)} (h : (∃ u, H a = some (.frz o u)) ∧ RD X.K H (.dict l) (.ref a)) :
    (a == sysModules) = false ∧ s.heap.get? a = some o ∧ o.ExactDict ∧ ∃ (es : Array DictEntry) (ep : Nat), o.data = .dict es ep ∧ es.size = l.length ∧
      ∀ (i : Nat), i < l.length → ∃ (en : DictEntry) (p : PD × PD) (v w : V), es[i]? = some en ∧ l[i]? = some p ∧ RelV v en.key ∧ RD X.K H p.1 v ∧ RelV w en.val ∧ RD X.K H p.2 w := by
  obtain ⟨⟨u, hu⟩, hd⟩ := h
  obtain ⟨a', ea, hd⟩ := hd.dict
  cases ea
  obtain ⟨hs, hl, o', es, ep, ys, ho, hx, hdt, hz, rk, vk, vs, rv, vv⟩ := D_raw I hd
  have ho2 : s.heap.get? a = some o := (I.hok a _ hu).1
  rw [ho] at ho2
  cases ho2
  refine ⟨hs, ho, hx, es, ep, hdt, hz, fun i hi => ?_⟩
  have e1 : l[i]? = some l[i] := List.getElem?_eq_getElem hi
  obtain ⟨v, hv, rd1⟩ := rk.get (i := i) (d := l[i].1) (by rw [List.getElem?_map, e1]; rfl)
  obtain ⟨w, hw, rd2⟩ := rv.get (i := i) (d := l[i].2) (by rw [List.getElem?_map, e1]; rfl)
  obtain ⟨u1, g1, g2⟩ := vk.get hv
  obtain ⟨u2, g3, g4⟩ := vv.get hw
  have hi2 : i < es.size := by rw [hz]; exact hi
  have e2 : es[i]? = some es[i] := Array.getElem?_eq_getElem hi2
  have e3 : es.toList[i]? = some es[i] := by rw [Array.getElem?_toList]; exact e2
  rw [List.getElem?_map, e3] at g1 g3
  cases g1
  cases g3
  exact ⟨es[i], l[i], v, w, e2, e1, g2, rd1, g4, rd2⟩
end
section
variable {P : Program} {w : World} {K : PySem.W.Frag} {tg : Expr} {d : Addr} {o : Obj} {es : Array DictEntry} {ep : Nat}
open PySem.Spec PyProof.Rows
theorem turn_dK {l : List (PD × PD)} (it : Addr) (hod : o.data = .dict es ep) : Turn P w K tg (ItdK K d o l) [it] it (fun i h => h.IsKeyIter it d i l.length ep) where
  mem := by simp
  obj := fun i h st b hb => by
    have e : b = it := by simpa using hb
    subst e
    obtain ⟨oi, e, c, dd⟩ := st
    exact ⟨oi, e, fun v z => by rw [dd] at z; cases z⟩
  keep := fun i h h' st k => st.at fun oi e => k it (by simp) oi e
  item := by
    intro X hP hw hK hc i pins s σ H E I hf st hg
    subst hP hw hK
    obtain ⟨hd, hi⟩ := hg
    obtain ⟨f0, f1, f2, f3, f4, f5⟩ := hf it (by simp)
    obtain ⟨hs, hgd, hx, es', ep', hdt, hsz, ent⟩ := frz_raw I hd
    obtain ⟨rfl, rfl⟩ := dict_ep hod hdt
    obtain ⟨en, p, v, w, hen, hp, hkey, rk, _, _⟩ := ent i hi
    refine next_key_item st hgd hdt hsz hen fun h' st' sb => ?_
    have I1 : Inv X pins σ H { s with heap := h' } := I.turned (t' := s.toks) (fun b ob hb e => (sb.2 b hb).trans e) f0 f1 f3 f4 f5
    obtain ⟨oi, e, c, dd⟩ := id st'
    exact ⟨en.key, rfl, go_of (s := { s with heap := h' }) e c dd (by decide) ⟨v, H, I1, hkey, ⟨rfl, p, hp, rk⟩, st', fun b hb => (hf b hb).1⟩⟩
  done := by
    intro X hP hw hK hc i pins s σ H E I hf st hg
    subst hP hw hK
    obtain ⟨hd, hi⟩ := hg
    obtain ⟨f0, f1, f2, f3, f4, f5⟩ := hf it (by simp)
    obtain ⟨hs, hgd, hx, es', ep', hdt, hsz, ent⟩ := frz_raw I hd
    obtain ⟨rfl, rfl⟩ := dict_ep hod hdt
    exact next_key_end (I.ok.hd hc) st hgd hdt hsz hi fun h' eb => ⟨rfl, I.turned (t' := s.toks) (fun b ob hb e => eb b ob hb e) f0 f1 f3 f4 f5⟩
  self := fun A i s Q E st h => by
    refine wpAny_pyIter_slot st.typeIs F.slot_dict_keyiterator_iter (wpAny_call_entry F.slot_dict_keyiterator_iter st.typeIs F.entry_dict_keyiterator_iter ?_ (F.args_dict_keyiterator_iter_1 _))
    show wpAny _ _ (ret (.ref it)) _ _ s
    exact wpAny_pure ⟨_, rfl, "dict_keyiterator", _, st.typeIs, F.slot_dict_keyiterator_next.lookup, h⟩
theorem turn_dI {l : List (PD × PD)} {elts : List Expr} {kk : Nat} {tpos : Pos} (it : Addr) (hod : o.data = .dict es ep) :
    Turn P w K (.Tuple elts kk tpos) (ItdI K d o l) [it] it (fun i h => ∃ ok ov, IsItemIter h it d i l.length ep ok ov) where
  mem := by simp
  obj := fun i h st b hb => by
    have e : b = it := by simpa using hb
    subst e
    obtain ⟨ok, ov, e⟩ := st
    exact ⟨_, e, fun v z => nomatch z⟩
  keep := fun i h h' st k => let ⟨ok, ov, e⟩ := st; ⟨ok, ov, k it (by simp) _ e⟩
  item := by
    intro X hP hw hK hc i pins s σ H E I hf st hg
    subst hP hw hK
    obtain ⟨hd, hi⟩ := hg
    obtain ⟨hs, hgd, hx, es', ep', hdt, hsz, ent⟩ := frz_raw I hd
    obtain ⟨rfl, rfl⟩ := dict_ep hod hdt
    obtain ⟨en, p, v, w, hen, hp, hkey, rk, hval, rw2⟩ := ent i hi
    obtain ⟨hlt', een⟩ := Array.getElem?_eq_some_iff.mp hen
    obtain ⟨ok, ov, he⟩ := st
    rw [← hsz] at he
    have hlt : it < s.heap.objs.size := Heap.lt_size he
    refine wpAny_pyNext_items_item_raw he ⟨o, hgd, hx, hdt⟩ hlt' fun h' ho hT hz hk => ?_
    refine ⟨_, rfl, wpAny_letOwnedTupleGo_items (s := { s with heap := h' }) ho fun h'' he' sb => ?_⟩
    have hT2 : h''.get? s.heap.objs.size = some { cls := .type "tuple", data := .seq #[es'[i].key, es'[i].val] } := (sb.2 _ (Nat.ne_of_gt hlt)).trans hT
    rw [een] at hT2
    have new : ObjOk X.prog X.w (upd H s.heap.objs.size (.tup [v, w])) h'' s.heap.objs.size (.tup [v, w]) :=
      ⟨by show 2 ≤ sizeLine; decide, [en.key, en.val], .cons hkey (.cons hval .nil), ⟨_, hT2, rfl, _, rfl⟩⟩
    have I1 : Inv X pins σ (upd H s.heap.objs.size (.tup [v, w])) { s with heap := h'' } :=
      I.turnedNew (t' := s.toks) (ch := [it]) (fun b ob hb e => (sb.2 b (by simpa using hb)).trans (hk b ob (by simpa using hb) e)) hf (Nat.le_refl _) new
    refine ⟨.ref s.heap.objs.size, _, I1, rfl, ⟨_, v, w, p, rfl, I.hok.fresh (Nat.le_refl _), rfl, hp, rk, rw2⟩, ⟨es'[i].key, es'[i].val, ?_⟩, fun b hb => ?_⟩
    · rw [← hsz]; exact he'
    · have e : b = it := by simpa using hb
      rw [e, upd_ne (Nat.ne_of_lt hlt)]
      exact (hf it (by simp)).1
  done := by
    intro X hP hw hK hc i pins s σ H E I hf st hg
    subst hP hw hK
    obtain ⟨hd, hi⟩ := hg
    obtain ⟨f0, f1, f2, f3, f4, f5⟩ := hf it (by simp)
    obtain ⟨hs, hgd, hx, es', ep', hdt, hsz, ent⟩ := frz_raw I hd
    obtain ⟨rfl, rfl⟩ := dict_ep hod hdt
    obtain ⟨ok, ov, he⟩ := st
    rw [← hsz] at he hi
    exact wpAny_pyNext_items_end_raw (I.ok.hd hc) he ⟨o, hgd, hx, hdt⟩ hi fun h' eb => ⟨rfl, I.turned (t' := s.toks) (fun b ob hb e => eb b ob hb e) f0 f1 f3 f4 f5⟩
  self := fun A i s Q E st h => let ⟨_, _, e⟩ := st; PySem.W.kcp_self e h
end
/-- a frozen dict -/
def FrzD (K : Frag) (H : Hp) (x : V) (d : Addr) (o : Obj) (l : List (PD × PD)) : Prop := x = .ref d ∧ (∃ u, H d = some (.frz o u)) ∧ RD K H (.dict l) (.ref d)
def iDK (K : Frag) (td : TE) : TI := fun σ H R => td σ H fun x H1 => ∃ d o l, FrzD K H1 x d o l ∧ R (ItdK K d o l) H1
def iDI (K : Frag) (td : TE) : TI := fun σ H R => td σ H fun x H1 => ∃ d o l, FrzD K H1 x d o l ∧ R (ItdI K d o l) H1
theorem frzD_of {K : Frag} {H : Hp} {l : List (PD × PD)} {x : V} (h : RD K H (.dict l) x) : ∃ d o, FrzD K H x d o l := by
  cases h with
  | dT nn h r => exact ⟨_, _, rfl, ⟨_, h⟩, .dT nn h r⟩
  | dI h r => exact ⟨_, _, rfl, ⟨_, h⟩, .dI h r⟩
section
variable {X : Cx} {tg e : Expr} {td : TE} {apos cpos : Pos}
open PySem.Spec PyProof.Rows
theorem pi_dK (he : PE X e td) : PI X tg e (iDK X.K td) := by
  refine ⟨fun pins s σ H R I h => ?_⟩
  refine thn (he.run pins s σ H _ I h) fun u s1 ⟨x, H1, I1, rx, d, o, l, ⟨ex, hd⟩, q⟩ => ?_
  subst ex
  obtain rfl : u = Value.ref d := rx
  obtain ⟨hs, hgd, hx, es, ep, hdt, hsz, ent⟩ := frz_raw I1 hd
  refine iter_keys hs hgd hx hdt (pi_one (tk := s1.toks) I1 _ (turn_dK _ hdt) ⟨_, Heap.get?_push_size _ rfl, rfl, ?_⟩ q)
  rw [hsz] <;> rfl
theorem pi_dI {elts : List Expr} {kk : Nat} {tpos : Pos} (he : PE X e td) (hbase : attributeBase e "items" X.env (eval e X.env) = eval e X.env) (hline : (apos.endLine == cpos.line) = true) :
    PI X (.Tuple elts kk tpos) (.Call (.Attribute e "items" apos) [] [] cpos) (iDI X.K td) := by
  refine ⟨fun pins s σ H R I h => ?_⟩
  refine wpAny_Call_method (T := "dict") (id := "dict.items") hbase rfl hline F.plainAttrs_dict F.slot_dict_items F.type_dict_items (thn (he.run pins s σ H _ I h) fun u s1 ⟨x, H1, I1, rx, d, o, l, ⟨ex, hd⟩, q⟩ => ?_)
  subst ex
  obtain rfl : u = Value.ref d := rx
  obtain ⟨hs, hgd, hx, es, ep, hdt, hsz, ent⟩ := frz_raw I1 hd
  have hT : s1.TypeIs (.ref d) "dict" := ⟨o, hgd, hx.1⟩
  refine ⟨hT, fun b q => by cases q; exact ⟨o, hgd, hx.2.1⟩, ?_⟩
  have raw : s1.heap.DictRaw d es ep := ⟨o, hgd, hx, hdt⟩
  have I2 : Inv X pins σ H1 { s1 with heap := s1.heap.push { cls := .type "dict_items", data := .fields #[.ref d] } } := I1.kept (t' := s1.toks) fun b ob q => Heap.get?_push_of_some _ q
  have fin : wpAny (model X.prog X.w) X.A (pyIter (.ref s1.heap.objs.size)) (PIE X pins σ (.Tuple elts kk tpos) R) X.xe { s1 with heap := s1.heap.push { cls := .type "dict_items", data := .fields #[.ref d] } } := by
    refine wpAny_pyIter_items_raw (d := d) ⟨_, Heap.get?_push_size _ rfl, rfl, rfl⟩ (raw.push _) (pi_one (tk := s1.toks) I2 _ (turn_dI _ hdt) ⟨.none, .none, ?_⟩ q)
    rw [hsz]
    exact Heap.get?_push_size _ rfl
  show wpAny _ _ (callWith cpos (.builtin "dict.items") [.ref d] [] []) _ X.xe s1
  exact method_meetsIn F.slot_dict_items F.entry_dict_items rfl (PySem.evalArgs_none ⟨rfl, hT, F.args_dict_items_1 _, _, meets_dict_items_raw d hs, ⟨⟨es, ep, raw⟩, fin⟩⟩)
variable {σ0 : L2.St} {E : Exc → Hp → Prop}
theorem wk_dK {K : Frag} {H : Hp} {a : Addr} {o : Obj} {l : List (PD × PD)} (h : (∃ u, H a = some (.frz o u)) ∧ RD K H (.dict l) (.ref a)) : WkOk K (ItdK K a o l) H (l.map (·.1)) := by
  refine ⟨fun H => (∃ u, H a = some (.frz o u)) ∧ RD K H (.dict l) (.ref a), h, fun H1 H2 k ⟨⟨u, q1⟩, q2⟩ => ⟨⟨u, k _ _ q1 rfl⟩, q2.mono k⟩, ?_⟩
  rw [List.length_map]
  refine ⟨fun i H hi q => ⟨q, hi⟩, fun H q => ⟨q, Nat.le_refl _⟩, fun i H x H' hi q y => ?_⟩
  obtain ⟨rfl, p, hp, rd⟩ := y
  exact ⟨Same.refl _, p.1, by rw [List.getElem?_map, hp]; rfl, rd⟩
theorem wk_dI {K : Frag} {H : Hp} {a : Addr} {o : Obj} {l : List (PD × PD)} (h : (∃ u, H a = some (.frz o u)) ∧ RD K H (.dict l) (.ref a)) : WkOk K (ItdI K a o l) H (l.map fun p => .tuple [p.1, p.2]) := by
  refine ⟨fun H => (∃ u, H a = some (.frz o u)) ∧ RD K H (.dict l) (.ref a), h, fun H1 H2 k ⟨⟨u, q1⟩, q2⟩ => ⟨⟨u, k _ _ q1 rfl⟩, q2.mono k⟩, ?_⟩
  rw [List.length_map]
  refine ⟨fun i H hi q => ⟨q, hi⟩, fun H q => ⟨q, Nat.le_refl _⟩, fun i H x H' hi q y => ?_⟩
  obtain ⟨T, v, w, p, rfl, hT, rfl, hp, r1, r2⟩ := y
  have sm : Same H (upd H T (.tup [v, w])) := same_upd hT
  exact ⟨sm, .tuple [p.1, p.2], by rw [List.getElem?_map, hp]; rfl, .tup (SqT.of upd_same) (.cons (r1.mono (Keeps.of_same sm)) (.cons (r2.mono (Keeps.of_same sm)) .nil))⟩
theorem si_keys {f : Rho → R OV} (h : PE X e (tE X.K σ0 E f)) : PI X tg e (tI X.K σ0 E fun ρ => (f ρ).bind fun x ρ => match x with
    | .d (.dict l) => .ok (l.map (·.1)) ρ
    | _ => .stuck) := by
  refine pi_conseq (pi_dK h) fun σ H Q ⟨ρ, S, r, q⟩ => ?_
  refine ⟨ρ, S, r, q.bind.mono fun x ρ1 S1 H1 r1 s1 q1 v o => ?_⟩
  match x, o, q1 with
  | .d (.dict l), o, q1 =>
    have o : RD X.K H1 (.dict l) v := o
    obtain ⟨d, ob, hf⟩ := frzD_of o
    exact ⟨d, ob, l, hf, q1.ok r1 _ (wk_dK hf.2)⟩
theorem si_items {elts : List Expr} {kk : Nat} {tpos : Pos} {f : Rho → R OV} (h : PE X e (tE X.K σ0 E f)) (hbase : attributeBase e "items" X.env (eval e X.env) = eval e X.env) (hline : (apos.endLine == cpos.line) = true) :
    PI X (.Tuple elts kk tpos) (.Call (.Attribute e "items" apos) [] [] cpos) (tI X.K σ0 E fun ρ => (f ρ).bind fun x ρ => match x with
    | .d (.dict l) => .ok (l.map fun p => .tuple [p.1, p.2]) ρ
    | _ => .stuck) := by
  refine pi_conseq (pi_dI h hbase hline) fun σ H Q ⟨ρ, S, r, q⟩ => ?_
  refine ⟨ρ, S, r, q.bind.mono fun x ρ1 S1 H1 r1 s1 q1 v o => ?_⟩
  match x, o, q1 with
  | .d (.dict l), o, q1 =>
    have o : RD X.K H1 (.dict l) v := o
    obtain ⟨d, ob, hf⟩ := frzD_of o
    exact ⟨d, ob, l, hf, q1.ok r1 _ (wk_dI hf.2)⟩
end
section
variable {X : Cx} {σ0 : L2.St} {E : Exc → Hp → Prop} {fr : Bool} {pos : Pos}
/-- d[k] = e of a dict -/
theorem set_dict (wd : X.w = Wd.w) (hu : X.A.units + 65 < cLine) : PSet X (fun o i v H Q => ∃ a l l' k d, o = .ref a ∧ DO X.K H a l ∧ RD X.K H k i ∧ RD X.K H d v ∧ dPut l k d = some l' ∧ ∀ ho, DO X.K (upd H a ho) a l' → Q (upd H a ho)) := by
  intro pins s σ H o i v ov iv u Q I ro ri rv h
  obtain ⟨a, l, l', k, d, rfl, hd, rk, rd, e, q⟩ := h
  cases ro
  exact D_setItem (by omega) I wd hd rk ri rd rv e fun o s' I' hd' => ⟨_, I', q o hd'⟩
theorem ss_putD {k e : Expr} {i : Nat} {x : Str} {po sp : Pos} {f g : Rho → R OV} (wd : X.w = Wd.w) (hu : X.A.units + 65 < cLine) (hN : X.N[i]? = some x) (hv : Vis X.env.scope x) (hd : (x == ("__debug__" : Str)) = false) (hcd : (x == ("__classdict__" : Str)) = false)
    (he : PE X e (tE X.K σ0 E f)) (hk : PE X k (tE X.K σ0 E g))
    (rule : ∀ {te to ti : TE} {t : TSet}, PE X e te → PE X (.Name x po) to → PE X k ti → PSet X t → PS X (.Assign [.Subscript (.Name x po) k sp] e pos) (tAsg te (gSub to ti t))) :
    PS X (.Assign [.Subscript (.Name x po) k sp] e pos) (tS X.K σ0 E fr fun ρ => (f ρ).bind fun x ρ => (esc x ρ).bind fun x ρ => match objAt ρ i with
      | none => .stuck
      | some _ => (g ρ).bind fun y ρ => (esc y ρ).bind fun y ρ => match objAt ρ i with
        | some (.dct l) => match dPut l y x with
          | some l' => match putObj ρ i (.dct l') with
            | some ρ => .ok .next ρ
            | none => .stuck
          | none => .stuck
        | _ => .stuck) := by
  refine ps_conseq (rule he (pe_var (pos := po) hN hv hd hcd) hk (set_dict wd hu)) fun D σ H ⟨ρ, S, r, q⟩ => ?_
  refine ⟨ρ, S, r, (AftS.bindE (r := f ρ) q).mono fun x ρ1 S1 H1 r1 s1 q1 v o => ?_⟩
  cases x with
  | s j => exact q1.elim
  | d d1 =>
    have q1 : AftS X.K σ0 E fr S1 H1 (match objAt ρ1 i with
      | none => .stuck
      | some _ => (g ρ1).bind fun y ρ => (esc y ρ).bind fun y ρ => match objAt ρ i with
        | some (.dct l) => match dPut l y d1 with
          | some l' => match putObj ρ i (.dct l') with
            | some ρ => .ok .next ρ
            | none => .stuck
          | none => .stuck
        | _ => .stuck) D := q1
    split at q1
    · exact q1.elim
    · rename_i ob hob
      obtain ⟨W, rw, _⟩ := id r1
      obtain ⟨a, ea, _⟩ := rw.obj i ob hob
      refine ⟨_, ea, ρ1, S1, r1, (AftS.bindE (r := g ρ1) q1).mono fun y ρ2 S2 H2 r2 s2 q2 w o2 => ?_⟩
      cases y with
      | s j => exact q2.elim
      | d k1 =>
        have q2 : AftS X.K σ0 E fr S2 H2 (match objAt ρ2 i with
          | some (.dct l) => match dPut l k1 d1 with
            | some l' => match putObj ρ2 i (.dct l') with
              | some ρ => .ok .next ρ
              | none => .stuck
            | none => .stuck
          | _ => .stuck) D := q2
        split at q2
        · rename_i l eo
          split at q2
          · rename_i l' el
            split at q2
            · rename_i ρ3 e3
              obtain ⟨a', e1, hd, f3⟩ := r2.writeD eo e3
              rw [ea] at e1
              cases e1
              refine ⟨a, l, l', k1, d1, rfl, hd, o2, RD.mono (r1.keeps s2) o, el, fun ho hd' => ?_⟩
              obtain ⟨S3, r3, s3⟩ := f3 ho hd'
              exact q2 σ S3 _ r3 s3
            · exact q2.elim
          · exact q2.elim
        · exact q2.elim
/-- a slot's object is taken for data from here on -/
theorem ss_gfz {l : List Stmt} {i : Nat} {g : Rho → R Flow} (h : PSs X l (tS X.K σ0 E fr g)) :
    PSs X l (tS X.K σ0 E fr fun ρ => ((match ρ[i]? with
      | some (.o ob) => .ok .next (ρ.set i (.d ob.toD))
      | _ => .stuck : R Flow)).bind fun x ρ => match x with
      | .next => g ρ
      | .ret x => .ok (.ret x) ρ) := by
  refine ⟨fun pins s σ H D I ⟨ρ, S, r, q⟩ => ?_⟩
  dsimp only at q
  split at q
  · rename_i ob hi
    obtain ⟨a, e1, f⟩ := r.frz hi
    obtain ⟨H', I', p⟩ := inv_fz (f (fun H' => tS X.K σ0 E fr g D σ H') fun H' S' r' st rd => ⟨_, S', r', AftS.then st q⟩) I
    exact h.run pins s σ H' D I' p
  · exact q.elim
end
end Er

set_option Elab.async false
set_option linter.all false
set_option maxRecDepth 100000
set_option maxHeartbeats 4000000
/-! C15: the check of a term against the program's text. -/
namespace Er
open PySem L2
/-- the names of a block, its scope, which cells are its own -/
structure CC where
  N : List Str
  sc : Scope
  fn : Str → Bool
/-- what the defs and constants are called; what they mean -/
structure Gc where
  fnm : Nat → Option String
  fr : Nat → Bool
  gnm : Nat → Option String
structure Gi extends Gc where
  mt : Nat → List Bool
  cl : Call
  gv : Nat → PD
  cv : String → Value
instance : CoeOut Gi Gc := ⟨Gi.toGc⟩
def plainName (x : Str) : Bool := x != ("__debug__" : Str) && x != ("__classdict__" : Str) && x != ("__name__" : Str)
def visB (sc : Scope) (x : Str) : Bool := sc.names.lookup x == some .local || sc.names.lookup x == some .cell || sc.names.lookup x == some .free
def glB (sc : Scope) (x : Str) : Bool := sc.names.lookup x == some .globalImplicit
/-- the name stands in slot i -/
def slotB (c : CC) (i : Nat) (x : Str) : Bool := c.N[i]? == some x && visB c.sc x && plainName x
/-- .. and may be stored -/
def storeB (c : CC) (i : Nat) (x : Str) : Bool := c.N[i]? == some x && (c.sc.names.lookup x == some .local || (c.sc.names.lookup x == some .cell && c.fn x)) && plainName x
def okE : Expr → Bool
  | .Starred .. => false
  | .Slice .. => false
  | .Set .. => false
  | _ => true
def opB : BOp → Operator → Bool
  | .add, .Add => true
  | .sub, .Sub => true
  | .mul, .Mult => true
  | .fdiv, .FloorDiv => true
  | .mod, .Mod => true
  | .pow, .Pow => true
  | _, _ => false
def cmB : COp → CmpOp → Bool
  | .eq, .Eq => true
  | .ne, .NotEq => true
  | .lt, .Lt => true
  | .le, .LtE => true
  | .gt, .Gt => true
  | .ge, .GtE => true
  | .isin, .In => true
  | .notin, .NotIn => true
  | _, _ => false
def biN : Bi → String
  | .len => "len"
  | .all => "all"
  | .sum => "sum"
  | .max1 => "max"
  | .max2 => "max"
  | .min2 => "min"
  | .int => "int"
  | .abs => "abs"
  | .tuple => "tuple"
  | .list => "list"
  | .sorted => "sorted"
/-- the built-in names that may be used -/
def bltns : List String := ["len", "all", "sum", "max", "min", "int", "abs", "tuple", "list", "sorted", "isinstance", "bool", "str", "dict", "range", "zip", "enumerate"]
def constB : PD → Const → Bool
  | .none, .none => true
  | .bool b, .bool b' => b == b'
  | .int i, .int j => i == j
  | .str x, .str y => x == y
  | _, _ => false
def blkCC (c : CC) (scope : Scope) : CC := ⟨c.N, relS scope c.sc, fun x => scope.names.lookup x == some .cell⟩
def ownOf (N : List Str) (own : List Nat) : List (Str × Nat) := own.map fun i => (N.getD i "", i)
mutual
def chkTg (c : CC) : Tg → Expr → Bool
  | .n i, .Name x _ => storeB c i x
  | .t l, .Tuple es _ _ => chkTgs c l es
  | _, _ => false
def chkTgs (c : CC) : List Tg → List Expr → Bool
  | [], [] => true
  | t :: ts, e :: es => chkTg c t e && chkTgs c ts es
  | _, _ => false
end
/-- what is made where it is written -/
def isFresh (G : Gc) : Ex → Bool
  | .bin .. => true
  | .lst _ => true
  | .slc .. => true
  | .bi .. => true
  | .comp .. => true
  | .comp2 .. => true
  | .dct0 => true
  | .dct1 .. => true
  | .ite _ a b => isFresh G a && isFresh G b
  | .call f _ => G.fr f
  | _ => false
def testable : Ex → Bool
  | .ite .. => false
  | _ => true
def isC : Ex → Bool
  | .c (.bool true) => true
  | _ => false
def notName : Expr → Bool
  | .Name .. => false
  | _ => true
def notLoc (sc : Scope) : Expr → Bool
  | .Name x _ => !(sc.names.lookup x == some .local)
  | _ => true
/-- whose methods may be called: a name, a call with arguments -/
def baseE : Expr → Bool
  | .Name .. => true
  | .Call (.Name ..) (_ :: _) [] _ => true
  | _ => false
def nmOf : List Expr → List Str
  | .Name x _ :: l => x :: nmOf l
  | _ :: l => nmOf l
  | [] => []
section
variable (G : Gc)
mutual
def chkE (c : CC) : Ex → Expr → Bool
  | .c d, .Constant k _ _ => constB d k
  | .g n, .Name x _ => (match G.gnm n with | some y => x == (y : Str) | none => false) && glB c.sc x && plainName x
  | .v i, .Name x _ => slotB c i x
  | .s i, .Name x _ => slotB c i x
  | .fz i, .Name x _ => slotB c i x
  | .bin o a b, .BinOp l p r _ => opB o p && chkE c a l && chkE c b r
  | .neg a, .UnaryOp .USub x _ => chkE c a x
  | .not a, .UnaryOp .Not x _ => testable a && chkE c a x
  | .and a b, .BoolOp .And (x :: y :: l) pos => testable a && testable b && chkE c a x && (match l with
    | [] => chkE c b y
    | z :: l => chkE c b (.BoolOp .And (y :: z :: l) pos))
  | .or a b, .BoolOp .Or (x :: y :: l) pos => testable a && testable b && chkE c a x && (match l with
    | [] => chkE c b y
    | z :: l => chkE c b (.BoolOp .Or (y :: z :: l) pos))
  | .cmp o a b, .Compare x [p] [y] _ => cmB o p && okE y && chkE c a x && chkE c b y
  | .chain o1 o2 a b d, .Compare x [p, q] [y, z] _ => cmB o1 p && cmB o2 q && okE y && okE z && chkE c a x && chkE c b y && chkE c d z
  | .isN a, .Compare x [.Is] [.Constant .none _ _] _ => chkE c a x
  | .notN a, .Compare x [.IsNot] [.Constant .none _ _] _ => chkE c a x
  | .ite t a b, .IfExp x y z _ => testable t && chkE c t x && chkE c a y && chkE c b z
  | .tup l, .Tuple es _ _ => chkEs c l es
  | .lst l, .List es _ => chkEs c l es
  | .idx a b, .Subscript x y _ => okE y && chkE c a x && chkE c b y
  | .slc p1 p2 a lo hi, .Subscript x (.Slice l h none _) _ => chkE c a x && (match p1, l with
    | false, none => true
    | true, some e => okE e && chkE c lo e
    | _, _ => false) && (match p2, h with
    | false, none => true
    | true, some e => okE e && chkE c hi e
    | _, _ => false)
  | .call f l, .Call (.Name x _) (e :: es) [] _ => (match G.fnm f with | some y => x == (y : Str) | none => false) && glB c.sc x && plainName x && chkEs c l (e :: es)
  | .call f .nil, .Call (.Name x _) [] [] _ => (match G.fnm f with | some y => x == (y : Str) | none => false) && glB c.sc x && plainName x
  | .bi b l, .Call (.Name x _) (e :: es) [] _ => x == (biN b : Str) && glB c.sc x && chkEs c l (e :: es)
  | .isi a [t], .Call (.Name x _) [e, .Name y _] [] _ => x == ("isinstance" : Str) && glB c.sc x && y == (tyN t : Str) && glB c.sc y && okE e && chkE c a e
  | .isi a [t, u], .Call (.Name x _) [e, .Tuple [.Name y _, .Name z _] _ _] [] _ => x == ("isinstance" : Str) && glB c.sc x && y == (tyN t : Str) && glB c.sc y && z == (tyN u : Str) && glB c.sc z && okE e && chkE c a e
  | .pick ks l k, .Subscript (.Dict keys vals _) y _ => okE y && chkPk c ks l keys vals && keys.all (·.isSome) && keys.length == vals.length && !keys.isEmpty && decide (keys.length ≤ 15) && decide (ks.length ≤ 15) && chkE c k y
  | .dct0, .Dict [] [] _ => true
  | .dct1 k v, .Dict [some x] [y] _ => chkE c k x && chkE c v y
  | .dget a k, .Call (.Attribute x m ap) [y] [] cp => m == ("get" : Str) && (ap.endLine == cp.line) && baseE x && okE y && chkE c a x && chkE c k y
  | .dget2 a k z, .Call (.Attribute x m ap) [y, w] [] cp => m == ("get" : Str) && (ap.endLine == cp.line) && baseE x && okE y && okE w && chkE c a x && chkE c k y && chkE c z w
  | .isE neg a, .Compare x [p] [.Dict [] [] _] _ => (match neg, p with
    | true, .NotEq => true
    | false, .Eq => true
    | _, _ => false) && chkE c a x
  | .comp e t it cn own, .ListComp elt [⟨tg, iter, ifs, 0⟩] scope _ => okE iter && blkC c.N c.sc scope (ownOf c.N own) && chkIt c tg it iter && chkTg (blkCC c scope) t tg && (tgS t).all (own.contains ·) && chkE (blkCC c scope) e elt && (match ifs with
    | [] => isC cn
    | [x] => testable cn && chkE (blkCC c scope) cn x
    | _ => false)
  | .comp2 e t it t2 it2 own, .ListComp elt [⟨tg, iter, [], 0⟩, ⟨tg2, iter2, [], 0⟩] scope _ => okE iter && okE iter2 && blkC c.N c.sc scope (ownOf c.N own) && chkIt c tg it iter && chkTg (blkCC c scope) t tg && (tgS t).all (own.contains ·) && chkIt (blkCC c scope) tg2 it2 iter2 && chkTg (blkCC c scope) t2 tg2 && (tgS t2).all (own.contains ·) && chkE (blkCC c scope) e elt
  | _, _ => false
def chkEs (c : CC) : Exs → List Expr → Bool
  | .nil, [] => true
  | .cons a l, e :: es => okE e && chkE c a e && chkEs c l es
  | _, _ => false
def chkPk (c : CC) : List Str → Exs → List (Option Expr) → List Expr → Bool
  | [], .nil, [], [] => true
  | k :: ks, .cons a l, some (.Constant (.str x) _ _) :: keys, e :: es => k == x && okE e && chkE c a e && chkPk c ks l keys es
  | _, _, _, _ => false
def chkIt (c : CC) (tg : Expr) : It → Expr → Bool
  | .lst a, x => okE x && chkE c a x
  | .tup a, x => okE x && chkE c a x
  | .range1 a, .Call (.Name f _) [x] [] _ => f == ("range" : Str) && glB c.sc f && okE x && chkE c a x
  | .range2 a b, .Call (.Name f _) [x, y] [] _ => f == ("range" : Str) && glB c.sc f && okE x && okE y && chkE c a x && chkE c b y
  | .zip a b, .Call (.Name f _) [x, y] [] _ => f == ("zip" : Str) && glB c.sc f && okE x && okE y && chkE c a x && chkE c b y && (match tg with | .Tuple .. => true | _ => false)
  | .enumZip a b, .Call (.Name f _) [.Call (.Name g _) [x, y] [] _] [] _ => f == ("enumerate" : Str) && glB c.sc f && g == ("zip" : Str) && glB c.sc g && okE x && okE y && chkE c a x && chkE c b y && (match tg with | .Tuple .. => true | _ => false)
  | .enum a, .Call (.Name f _) [x] [] _ => f == ("enumerate" : Str) && glB c.sc f && okE x && chkE c a x && (match tg with | .Tuple .. => true | _ => false)
  | .keys a, x => okE x && chkE c a x
  | .items a, .Call (.Attribute x m ap) [] [] cp => m == ("items" : Str) && (ap.endLine == cp.line) && baseE x && chkE c a x && (match tg with | .Tuple .. => true | _ => false)
  | _, _ => false
end
/-- the names on the left of a, b = x, y -/
def parNs (c : CC) (line : Nat) : List (Nat × Bool) → List Expr → Bool
  | [], [] => true
  | (i, _) :: l, .Name x p :: ts => storeB c i x && c.sc.names.lookup x == some .local && p.line == line && parNs c line l ts
  | _, _ => false
def chkMs (c : CC) : List Bool → Exs → List Expr → Bool
  | [], .nil, [] => true
  | m :: ms, .cons a l, e :: es => okE e && (!m || isFresh G a) && chkE G c a e && chkMs c ms l es
  | _, _, _ => false
mutual
def chkS (c : CC) (fr : Bool) : Sm → Stmt → Bool
  | .set i e, .Assign [.Name x py] v pos => storeB c i x && (match v with
    | .ListComp _ [⟨_, _, _, 0⟩] scope lp => c.sc.kind == .function && c.sc.names.lookup x == some .local && py.line == lp.line && !(scope.names.any fun (n, k) => n == x && (k == .local || k == .cell))
    | .ListComp _ [⟨_, _, [], 0⟩, ⟨_, _, [], 0⟩] scope lp => c.sc.kind == .function && c.sc.names.lookup x == some .local && py.line == lp.line && !(scope.names.any fun (n, k) => n == x && (k == .local || k == .cell))
    | .SetComp .. => false
    | .DictComp .. => false
    | _ => true) && chkE G c e v
  | .setO i e, .Assign [.Name x py] v pos => storeB c i x && isFresh G e && (match v with
    | .ListComp _ [⟨_, _, _, 0⟩] scope lp => c.sc.kind == .function && c.sc.names.lookup x == some .local && py.line == lp.line && !(scope.names.any fun (n, k) => n == x && (k == .local || k == .cell))
    | .ListComp _ [_, _] _ _ => false
    | .SetComp .. => false
    | .DictComp .. => false
    | _ => true) && chkE G c e v
  | .asg (.t l) e, .Assign [.Tuple es _ _] v _ => (match v with
    | .ListComp .. => false
    | .SetComp .. => false
    | .DictComp .. => false
    | .Tuple vs _ _ => vs.all (foldedForSure 8) || es.any (notLoc c.sc) || !(es.length == 2 || es.length == 3) || vs.length != es.length
    | _ => true) && chkTgs c l es && chkE G c e v
  | .par l es, .Assign [.Tuple ts _ _] (.Tuple vs _ _) _ => c.sc.kind == .function && (l.length == 2 || l.length == 3) && parNs c ((ts.head?.map (·.pos.line)).getD 0) l ts && (l.map (·.1)).Nodup && (nmOf ts).Nodup && !(vs.all (foldedForSure 8)) && !(vs.all (constantsAlone 8)) && chkMs G c (l.map (·.2)) es vs
  | .dead, _ => true
  | .putIx i k e, .Assign [.Subscript (.Name x _) y _] v _ => slotB c i x && okE y && chkE G c k y && chkE G c e v && (match v with
    | .ListComp .. => false
    | .SetComp .. => false
    | .DictComp .. => false
    | _ => true)
  | .putD i k e, .Assign [.Subscript (.Name x _) y _] v _ => slotB c i x && okE y && chkE G c k y && chkE G c e v && (match v with
    | .ListComp .. => false
    | .SetComp .. => false
    | .DictComp .. => false
    | _ => true)
  | .app i e, .Expr (.Call (.Attribute (.Name x _) m ap) [v] [] cp) _ => slotB c i x && m == ("append" : Str) && (ap.endLine == cp.line) && okE v && chkE G c e v
  | .ex e, .Expr v _ => (match v with
    | .ListComp .. => false
    | .SetComp .. => false
    | .DictComp .. => false
    | _ => true) && chkE G c e v
  | .ret e, .Return (some v) _ => !fr && chkE G c e v
  | .retO e, .Return (some v) _ => fr && isFresh G e && chkE G c e v
  | .ite t a b, .If x y z _ => testable t && chkE G c t x && chkSs c fr a y && chkSs c fr b z
  | .for_ t it b, .For tg iter body [] _ => okE iter && chkIt G c tg it iter && chkTg c t tg && chkSs c fr b body
  | .while_ t b, .While x body [] _ => testable t && chkE G c t x && chkSs c fr b body
  | _, _ => false
def chkSs (c : CC) (fr : Bool) : Sms → List Stmt → Bool
  | .nil, [] => true
  | .cons (.gfz _) l, xs => chkSs c fr l xs
  | .cons s l, x :: xs => chkS c fr s x && chkSs c fr l xs
  | _, _ => false
end
end
end Er

set_option Elab.async false
set_option linter.all false
set_option maxRecDepth 100000
set_option maxHeartbeats 4000000
/-! C16: a checked term means what it says: expressions. -/
namespace Er
open PySem L2
variable [Wd]
structure XOk (X : Cx) (c : CC) (G : Gi) (W : XK) : Prop where
  N : X.N = c.N
  nd : X.N.Nodup
  sc : X.env.scope = c.sc
  fn : X.fn = c.fn
  calm : X.calm = true
  wd : X.w = Wd.w
  units : X.A.units + 65 < cLine
  own : PassesOwn (model X.prog X.w) X.A X.env X.xe
  tk : Takes X (fun cl d _ H => W cl d H)
  blt : ∀ x ∈ bltns, X.mg (x : Str) = none
  gvs : ∀ n x, G.gnm n = some x → ∃ u v, X.mg (x : Str) = some u ∧ RelV v u ∧ ∀ H, RD X.K H (G.gv n) v
  fns : ∀ f x, G.fnm f = some x → ∃ a fd ps k, X.mg (x : Str) = some (.ref a) ∧ PySem.W.keepIn X.K (.ref a) = true ∧ Binds X.K fd ps [] ∧ Room k X.A ∧ FnOk X.prog X.w X.K X.mg X.base (L2.CX X.prog X.w) k a fd ps (spF X.K G.cv (G.fr f) (G.cl f))
theorem XOk.blk {X : Cx} {c : CC} {G : Gi} {W : XK} (x : XOk X c G W) (s : Shared) (H : Hp) (scope : Scope) (C : Addr) (cl : List (Str × Addr)) (fp : List Addr) :
    XOk (X.blk s H scope (compEnvC scope cl C X.env) fp) (blkCC c scope) G (fun _ _ _ => False) where
  N := x.N
  nd := x.nd
  sc := by
    show relS scope X.env.scope = relS scope c.sc
    rw [x.sc]
  fn := rfl
  calm := x.calm
  wd := x.wd
  units := x.units
  own := .never
  tk := takes0
  blt := x.blt
  gvs := x.gvs
  fns := x.fns
theorem okE_star {e : Expr} {es : List Expr} {env : Env} (h : okE e = true) : starEach (e :: es) env = (false, eval e env) :: starEach es env := by
  cases e <;> first | rfl | cases h
theorem okE_ix {e : Expr} (h : okE e = true) : ∀ o i, subscripted e false o i = operate [o, i] (getItem o i) := by
  cases e <;> first | (intro _ _; rfl) | cases h
theorem okE_in {e : Expr} {op : CmpOp} (h : okE e = true) : behindInMarks op e = false := by
  cases e <;> first | rfl | cases h
theorem okE_fs {e : Expr} {env : Env} (h : okE e = true) : ∀ x, foldedSetIterable e env x = pure x := by
  cases e <;> first | (intro _; rfl) | cases h
theorem chkEs_star {G : Gi} {c : CC} {env : Env} {pos : Pos} : ∀ {l : Exs} {es : List Expr}, chkEs G c l es = true → (backTo pos (starEach es env)).any (·.1) = false
  | .nil, [], _ => rfl
  | .nil, _ :: _, h => by simp [chkEs] at h
  | .cons _ _, [], h => by simp [chkEs] at h
  | .cons a l, e :: es, h => by
    simp only [chkEs, Bool.and_eq_true] at h
    rw [okE_star h.1.1]
    have := chkEs_star (env := env) (pos := pos) h.2
    simpa [backTo] using this
/-- what a checked term gives -/
structure EOk (X : Cx) (σ0 : L2.St) (G : Gi) (W : XK) (e : Ex) (ast : Expr) : Prop where
  pe : PE X ast (tE X.K σ0 (GW G.cv W) (ev G.cl G.mt G.gv e))
  pf : isFresh G e = true → PE X ast (tF X.K σ0 (GW G.cv W) (ev G.cl G.mt G.gv e))
  pt : testable e = true → PT X ast (tB X.K σ0 (GW G.cv W) (ev G.cl G.mt G.gv e))
  pw : ∀ op vs pos, ast = .BoolOp op vs pos → PW X ast (tB X.K σ0 (GW G.cv W) (ev G.cl G.mt G.gv e))
section
variable {X : Cx} {σ0 : L2.St} {G : Gi} {W : XK} {c : CC} {e : Ex} {ast : Expr}
theorem EOk.of (h : PE X ast (tE X.K σ0 (GW G.cv W) (ev G.cl G.mt G.gv e))) (nf : isFresh G e = false) (ht : ∀ whole, isTrue ast X.env whole = (do let v ← whole; standAt ast.pos; holding [v] (truthy v))) (nb : ∀ op vs pos, ast ≠ .BoolOp op vs pos) : EOk X σ0 G W e ast :=
  ⟨h, fun z => (by rw [nf] at z; cases z), fun _ => st_val h ht, fun op vs pos z => absurd z (nb op vs pos)⟩
theorem EOk.ofF (h : PE X ast (tF X.K σ0 (GW G.cv W) (ev G.cl G.mt G.gv e))) (ht : ∀ whole, isTrue ast X.env whole = (do let v ← whole; standAt ast.pos; holding [v] (truthy v))) (nb : ∀ op vs pos, ast ≠ .BoolOp op vs pos) : EOk X σ0 G W e ast :=
  ⟨se_frz h, fun _ => h, fun _ => st_val (se_frz h) ht, fun op vs pos z => absurd z (nb op vs pos)⟩
theorem EOk.ofT (h : PE X ast (tE X.K σ0 (GW G.cv W) (ev G.cl G.mt G.gv e))) (nf : isFresh G e = false) (ht : PT X ast (tB X.K σ0 (GW G.cv W) (ev G.cl G.mt G.gv e))) (nb : ∀ op vs pos, ast ≠ .BoolOp op vs pos) : EOk X σ0 G W e ast :=
  ⟨h, fun z => (by rw [nf] at z; cases z), fun _ => ht, fun op vs pos z => absurd z (nb op vs pos)⟩
theorem slot_of {i : Nat} {x : Str} (ok : XOk X c G W) (h : slotB c i x = true) : X.N[i]? = some x ∧ Vis X.env.scope x ∧ (x == ("__debug__" : Str)) = false ∧ (x == ("__classdict__" : Str)) = false := by
  simp only [slotB, visB, plainName, Bool.and_eq_true, Bool.or_eq_true, beq_iff_eq, bne_iff_ne] at h
  obtain ⟨⟨h1, h2⟩, ⟨h3, h4⟩, _⟩ := h
  rw [ok.N, Vis, ok.sc]
  refine ⟨h1, ?_, beq_eq_false_iff_ne.mpr h3, beq_eq_false_iff_ne.mpr h4⟩
  rcases h2 with (h2 | h2) | h2
  · exact .inl h2
  · exact .inr (.inl h2)
  · exact .inr (.inr h2)
theorem gl_of {x : Str} (ok : XOk X c G W) (h : glB c.sc x = true) : Gl X x := by
  simp only [glB, beq_iff_eq] at h
  show X.env.scope.names.lookup x = _
  rw [ok.sc]
  exact h
theorem blt_of {x : Str} {b : String} (ok : XOk X c G W) (h : x = (b : Str)) (hb : b ∈ bltns) : X.mg x = none := by
  subst h
  exact ok.blt b hb
theorem ok_c {d : PD} (ok : XOk X c G W) (h : chkE G c (.c d) ast = true) : EOk X σ0 G W (.c d) ast := by
  unfold chkE at h
  split at h <;> try contradiction
  rename_i e' k j p hk
  cases hk
  refine .of ?_ rfl (fun _ => rfl) (fun _ _ _ z => nomatch z)
  unfold constB at h
  split at h
  · exact se_c pe_non fun _ => .none
  · have := beq_iff_eq.mp h
    subst this
    exact se_c pe_bl fun _ => .bool _
  · have := beq_iff_eq.mp h
    subst this
    exact se_c pe_int fun _ => .int _
  · have := beq_iff_eq.mp h
    subst this
    exact se_c pe_str fun _ => .str _
  · cases h
theorem ok_g {n : Nat} (ok : XOk X c G W) (h : chkE G c (.g n) ast = true) : EOk X σ0 G W (.g n) ast := by
  unfold chkE at h
  split at h <;> try contradiction
  rename_i n' x p hk
  cases hk
  simp only [Bool.and_eq_true] at h
  obtain ⟨⟨h1, h2⟩, h3⟩ := h
  split at h1
  · rename_i y hy
    have e := beq_iff_eq.mp h1
    subst e
    obtain ⟨u, v, m, rv, rd⟩ := ok.gvs n y hy
    simp only [plainName, Bool.and_eq_true, bne_iff_ne] at h3
    exact .of (se_c (pe_glob (gl_of ok h2) m rv (beq_eq_false_iff_ne.mpr h3.1.1)) rd) rfl (fun _ => rfl) (fun _ _ _ z => nomatch z)
  · cases h1
theorem ok_v {i : Nat} (ok : XOk X c G W) (h : chkE G c (.v i) ast = true) : EOk X σ0 G W (.v i) ast := by
  unfold chkE at h
  split at h <;> try contradiction
  rename_i n' x p hk
  cases hk
  obtain ⟨h1, h2, h3, h4⟩ := slot_of ok h
  exact .of (se_v h1 h2 h3 h4) rfl (fun _ => rfl) (fun _ _ _ z => nomatch z)
theorem ok_s {i : Nat} (ok : XOk X c G W) (h : chkE G c (.s i) ast = true) : EOk X σ0 G W (.s i) ast := by
  unfold chkE at h
  split at h <;> try contradiction
  rename_i n' x p hk
  cases hk
  obtain ⟨h1, h2, h3, h4⟩ := slot_of ok h
  exact .of (se_s h1 h2 h3 h4) rfl (fun _ => rfl) (fun _ _ _ z => nomatch z)
theorem ok_fz {i : Nat} (ok : XOk X c G W) (h : chkE G c (.fz i) ast = true) : EOk X σ0 G W (.fz i) ast := by
  unfold chkE at h
  split at h <;> try contradiction
  rename_i n' x p hk
  cases hk
  obtain ⟨h1, h2, h3, h4⟩ := slot_of ok h
  exact .of (se_fz h1 h2 h3 h4) rfl (fun _ => rfl) (fun _ _ _ z => nomatch z)
/-- a part of a term, in any context that is checked -/
def Part (e : Ex) : Prop := ∀ (X : Cx) (σ0 : L2.St) (G : Gi) (W : XK) (c : CC) (ast : Expr), XOk X c G W → chkE G c e ast = true → EOk X σ0 G W e ast
theorem opB_of {o : BOp} {p : Operator} (h : opB o p = true) : p = opOf o := by
  cases o <;> cases p <;> first | rfl | cases h
theorem cmB_of {o : COp} {p : CmpOp} (h : cmB o p = true) : p = cmOf o := by
  cases o <;> cases p <;> first | rfl | cases h
theorem ok_bin {o : BOp} {a b : Ex} (ia : Part a) (ib : Part b) : Part (.bin o a b) := by
  intro X σ0 G W c ast ok h
  unfold chkE at h
  split at h <;> try contradiction
  rename_i o' a' b' l p r pos hk
  cases hk
  simp only [Bool.and_eq_true] at h
  obtain ⟨⟨h1, h2⟩, h3⟩ := h
  have e := opB_of h1
  subst e
  exact .ofF (se_bin (ia X σ0 G W c _ ok h2).pe (ib X σ0 G W c _ ok h3).pe) (fun _ => rfl) (fun _ _ _ z => nomatch z)
theorem ok_neg {a : Ex} (ia : Part a) : Part (.neg a) := by
  intro X σ0 G W c ast ok h
  unfold chkE at h
  split at h <;> try contradiction
  rename_i a' x pos hk
  cases hk
  exact .of (se_neg (ia X σ0 G W c _ ok h).pe) rfl (fun _ => rfl) (fun _ _ _ z => nomatch z)
theorem ok_not {a : Ex} (ia : Part a) : Part (.not a) := by
  intro X σ0 G W c ast ok h
  unfold chkE at h
  split at h <;> try contradiction
  rename_i a' x pos hk
  cases hk
  simp only [Bool.and_eq_true] at h
  have i := ia X σ0 G W c _ ok h.2
  exact .ofT (se_not i.pe) rfl (st_not (i.pt h.1)) (fun _ _ _ z => nomatch z)
theorem ok_and {a b : Ex} (ia : Part a) (ib : Part b) : Part (.and a b) := by
  intro X σ0 G W c ast ok h
  unfold chkE at h
  split at h <;> try contradiction
  rename_i a' b' x y l pos hk
  cases hk
  simp only [Bool.and_eq_true] at h
  obtain ⟨⟨⟨h1, h2⟩, h3⟩, h4⟩ := h
  have i := ia X σ0 G W c _ ok h3
  have j : PE X (.BoolOp .And (y :: l) pos) (tE X.K σ0 (GW G.cv W) (ev G.cl G.mt G.gv b)) ∧ PW X (.BoolOp .And (y :: l) pos) (tB X.K σ0 (GW G.cv W) (ev G.cl G.mt G.gv b)) := by
    split at h4
    · have k := ib X σ0 G W c _ ok h4
      exact ⟨se_one k.pe, sw_one (k.pt h2) (.inl rfl)⟩
    · have k := ib X σ0 G W c _ ok h4
      exact ⟨k.pe, k.pw _ _ _ rfl⟩
  have w := sw_and (i.pt h1) j.2
  exact ⟨se_and i.pe j.1, fun z => (by cases z), fun _ => w.pt, fun _ _ _ _ => w⟩
theorem ok_or {a b : Ex} (ia : Part a) (ib : Part b) : Part (.or a b) := by
  intro X σ0 G W c ast ok h
  unfold chkE at h
  split at h <;> try contradiction
  rename_i a' b' x y l pos hk
  cases hk
  simp only [Bool.and_eq_true] at h
  obtain ⟨⟨⟨h1, h2⟩, h3⟩, h4⟩ := h
  have i := ia X σ0 G W c _ ok h3
  have j : PE X (.BoolOp .Or (y :: l) pos) (tE X.K σ0 (GW G.cv W) (ev G.cl G.mt G.gv b)) ∧ PW X (.BoolOp .Or (y :: l) pos) (tB X.K σ0 (GW G.cv W) (ev G.cl G.mt G.gv b)) := by
    split at h4
    · have k := ib X σ0 G W c _ ok h4
      exact ⟨se_one k.pe, sw_one (k.pt h2) (.inr rfl)⟩
    · have k := ib X σ0 G W c _ ok h4
      exact ⟨k.pe, k.pw _ _ _ rfl⟩
  have w := sw_or (i.pt h1) j.2
  exact ⟨se_or i.pe j.1, fun z => (by cases z), fun _ => w.pt, fun _ _ _ _ => w⟩
theorem ok_cmp {o : COp} {a b : Ex} (ia : Part a) (ib : Part b) : Part (.cmp o a b) := by
  intro X σ0 G W c ast ok h
  unfold chkE at h
  split at h <;> try contradiction
  rename_i o' a' b' x p y pos hk
  cases hk
  simp only [Bool.and_eq_true] at h
  obtain ⟨⟨⟨h1, h2⟩, h3⟩, h4⟩ := h
  have e := cmB_of h1
  subst e
  have i := ia X σ0 G W c _ ok h3
  have j := ib X σ0 G W c _ ok h4
  exact .ofT (se_cmp ok.wd ok.units (okE_in h2) i.pe j.pe) rfl (st_cmp ok.wd ok.units (okE_in h2) i.pe j.pe) (fun _ _ _ z => nomatch z)
theorem last_of {p q : CmpOp} {y z : Expr} (h : okE z = true) : lastMarks [p, q] [y, z] = false := by
  show behindInMarks q z = false
  exact okE_in h
theorem ok_chain {o1 o2 : COp} {a b d : Ex} (ia : Part a) (ib : Part b) (id : Part d) : Part (.chain o1 o2 a b d) := by
  intro X σ0 G W c ast ok h
  unfold chkE at h
  split at h <;> try contradiction
  rename_i o1' o2' a' b' d' x p q y z pos hk
  cases hk
  simp only [Bool.and_eq_true] at h
  obtain ⟨⟨⟨⟨⟨⟨h1, h2⟩, h3⟩, h4⟩, h5⟩, h6⟩, h7⟩ := h
  have e := cmB_of h1
  subst e
  have e := cmB_of h2
  subst e
  have i := ia X σ0 G W c _ ok h5
  have j := ib X σ0 G W c _ ok h6
  have k := id X σ0 G W c _ ok h7
  exact .ofT (se_chain ok.wd ok.units i.pe j.pe k.pe (last_of h4)) rfl (st_chain ok.wd ok.units i.pe j.pe k.pe (last_of h4)) (fun _ _ _ z => nomatch z)
theorem ok_isN {a : Ex} (ia : Part a) : Part (.isN a) := by
  intro X σ0 G W c ast ok h
  unfold chkE at h
  split at h <;> try contradiction
  rename_i a' x j p pos hk
  cases hk
  have i := ia X σ0 G W c _ ok h
  exact .ofT (se_isN i.pe) rfl (st_isN i.pe) (fun _ _ _ z => nomatch z)
theorem ok_notN {a : Ex} (ia : Part a) : Part (.notN a) := by
  intro X σ0 G W c ast ok h
  unfold chkE at h
  split at h <;> try contradiction
  rename_i a' x j p pos hk
  cases hk
  have i := ia X σ0 G W c _ ok h
  exact .ofT (se_notN i.pe) rfl (st_notN i.pe) (fun _ _ _ z => nomatch z)
theorem ok_ite {t a b : Ex} (it : Part t) (ia : Part a) (ib : Part b) : Part (.ite t a b) := by
  intro X σ0 G W c ast ok h
  unfold chkE at h
  split at h <;> try contradiction
  rename_i t' a' b' x y z pos hk
  cases hk
  simp only [Bool.and_eq_true] at h
  obtain ⟨⟨⟨h1, h2⟩, h3⟩, h4⟩ := h
  have k := it X σ0 G W c _ ok h2
  have i := ia X σ0 G W c _ ok h3
  have j := ib X σ0 G W c _ ok h4
  refine ⟨se_ite (k.pt h1) i.pe j.pe, fun f => ?_, fun z => (by cases z), fun _ _ _ z => nomatch z⟩
  simp only [isFresh, Bool.and_eq_true] at f
  exact sf_ite (k.pt h1) (i.pf f.1) (j.pf f.2)
theorem ok_idx {a b : Ex} (ia : Part a) (ib : Part b) : Part (.idx a b) := by
  intro X σ0 G W c ast ok h
  unfold chkE at h
  split at h <;> try contradiction
  rename_i a' b' x y pos hk
  cases hk
  simp only [Bool.and_eq_true] at h
  obtain ⟨⟨h1, h2⟩, h3⟩ := h
  exact .of (se_idx ok.wd ok.units (okE_ix h1) (ia X σ0 G W c _ ok h2).pe (ib X σ0 G W c _ ok h3).pe) rfl (fun _ => rfl) (fun _ _ _ z => nomatch z)
theorem ok_slc {p1 p2 : Bool} {a lo hi : Ex} (ia : Part a) (il : Part lo) (ih : Part hi) : Part (.slc p1 p2 a lo hi) := by
  intro X σ0 G W c ast ok h
  unfold chkE at h
  split at h <;> try contradiction
  rename_i p1' p2' a' lo' hi' x l hh q pos hk
  cases hk
  simp only [Bool.and_eq_true] at h
  obtain ⟨⟨h1, h2⟩, h3⟩ := h
  have part : ∀ {p : Bool} {b : Ex} {o : Option Expr}, Part b → ((match p, o with
      | false, none => true
      | true, some e => okE e && chkE G c b e
      | _, _ => false) = true) → PO X o (tPo X.K σ0 (GW G.cv W) (partR p (ev G.cl G.mt G.gv b))) := fun {p b o} ib hb => by
    split at hb
    · exact so_none
    · simp only [Bool.and_eq_true] at hb
      exact so_some (ib X σ0 G W c _ ok hb.2).pe
    · cases hb
  exact .ofF (sf_slc (ia X σ0 G W c _ ok h1).pe (part il h2) (part ih h3)) (fun _ => rfl) (fun _ _ _ z => nomatch z)
theorem baseE_of {x : Expr} {m : Str} {env : Env} (h : baseE x = true) : attributeBase x m env (eval x env) = eval x env := by
  unfold baseE at h
  split at h <;> first | rfl | cases h
theorem m1_of {x y : Expr} {m : Str} {ap cp : Pos} (hb : baseE x = true) (hl : (ap.endLine == cp.line) = true) (hy : okE y = true) : M1 X x m ap y cp := by
  have st : starEach [y] X.env = [(false, eval y X.env)] := okE_star hy
  refine ⟨baseE_of hb, ?_, hl, ?_⟩
  · rw [st]; rfl
  · rw [st]; rfl
theorem m2_of {x y z : Expr} {m : Str} {ap cp : Pos} (hb : baseE x = true) (hl : (ap.endLine == cp.line) = true) (hy : okE y = true) (hz : okE z = true) : M2 X x m ap y z cp := by
  have st : starEach [y, z] X.env = [(false, eval y X.env), (false, eval z X.env)] := (okE_star hy).trans (by rw [okE_star hz]; rfl)
  refine ⟨baseE_of hb, ?_, hl, ?_⟩
  · rw [st]; rfl
  · rw [st]; rfl
theorem ok_dct0 : Part .dct0 := by
  intro X σ0 G W c ast ok h
  unfold chkE at h
  split at h <;> try contradiction
  exact .ofF sf_dct0 (fun _ => rfl) (fun _ _ _ z => nomatch z)
theorem ok_dct1 {k v : Ex} (ik : Part k) (iv : Part v) : Part (.dct1 k v) := by
  intro X σ0 G W c ast ok h
  unfold chkE at h
  split at h <;> try contradiction
  rename_i k' v' x y pos hk
  cases hk
  simp only [Bool.and_eq_true] at h
  exact .ofF (sf_dct1 ok.wd ok.units (ik X σ0 G W c _ ok h.1).pe (iv X σ0 G W c _ ok h.2).pe) (fun _ => rfl) (fun _ _ _ z => nomatch z)
theorem ok_dget {a k : Ex} (ia : Part a) (ik : Part k) : Part (.dget a k) := by
  intro X σ0 G W c ast ok h
  unfold chkE at h
  split at h <;> try contradiction
  rename_i a' k' x m ap y cp hk
  cases hk
  simp only [Bool.and_eq_true] at h
  obtain ⟨⟨⟨⟨⟨h1, h2⟩, h3⟩, h4⟩, h5⟩, h6⟩ := h
  have e1 := beq_iff_eq.mp h1
  subst e1
  exact .of (se_get1 ok.wd ok.units (ia X σ0 G W c _ ok h5).pe (ik X σ0 G W c _ ok h6).pe (m1_of h3 h2 h4)) rfl (fun _ => rfl) (fun _ _ _ z => nomatch z)
theorem ok_dget2 {a k d : Ex} (ia : Part a) (ik : Part k) (id : Part d) : Part (.dget2 a k d) := by
  intro X σ0 G W c ast ok h
  unfold chkE at h
  split at h <;> try contradiction
  rename_i a' k' d' x m ap y w cp hk
  cases hk
  simp only [Bool.and_eq_true] at h
  obtain ⟨⟨⟨⟨⟨⟨⟨h1, h2⟩, h3⟩, h4⟩, h7⟩, h5⟩, h6⟩, h8⟩ := h
  have e1 := beq_iff_eq.mp h1
  subst e1
  exact .of (se_get2 ok.wd ok.units (ia X σ0 G W c _ ok h5).pe (ik X σ0 G W c _ ok h6).pe (id X σ0 G W c _ ok h8).pe (m2_of h3 h2 h4 h7)) rfl (fun _ => rfl) (fun _ _ _ z => nomatch z)
theorem ok_isE {neg : Bool} {a : Ex} (ia : Part a) : Part (.isE neg a) := by
  intro X σ0 G W c ast ok h
  unfold chkE at h
  split at h <;> try contradiction
  rename_i neg' a' x p dp pos hk
  cases hk
  simp only [Bool.and_eq_true] at h
  obtain ⟨h1, h2⟩ := h
  have i := ia X σ0 G W c _ ok h2
  have e : p = isEop neg := by
    split at h1 <;> first | rfl | cases h1
  subst e
  exact .ofT (se_isE ok.units i.pe rfl) rfl (st_isE ok.units i.pe rfl) (fun _ _ _ z => nomatch z)
end
end Er

set_option Elab.async false
set_option linter.all false
set_option maxRecDepth 100000
set_option maxHeartbeats 4000000
/-! C17: a checked term means what it says: lists of terms, calls, comprehensions, all of it. -/
namespace Er
open PySem L2
variable [Wd]
def Parts (l : Exs) : Prop := ∀ (X : Cx) (σ0 : L2.St) (G : Gi) (W : XK) (c : CC) (es : List Expr), XOk X c G W → chkEs G c l es = true →
  PA X es (tAS X.K σ0 (GW G.cv W) (evs G.cl G.mt G.gv l)) ∧ PA X es (tAO X.K σ0 (GW G.cv W) (evo G.cl G.mt G.gv l))
def PartPk (l : Exs) : Prop := ∀ (X : Cx) (σ0 : L2.St) (G : Gi) (W : XK) (c : CC) (ks : List Str) (keys : List (Option Expr)) (es : List Expr) (pos : Pos), XOk X c G W → chkPk G c ks l keys es = true →
  PpsOk X σ0 (GW G.cv W) pos keys es ks (evs G.cl G.mt G.gv l)
def PartI (it : It) : Prop := ∀ (X : Cx) (σ0 : L2.St) (G : Gi) (W : XK) (c : CC) (tg e : Expr), XOk X c G W → chkIt G c tg it e = true → PI X tg e (tI X.K σ0 (GW G.cv W) (evIt G.cl G.mt G.gv it))
theorem oks_nil : Parts .nil := by
  intro X σ0 G W c es ok h
  cases es with
  | nil => exact ⟨sa_nil, so_nil⟩
  | cons => simp [chkEs] at h
theorem oks_cons {a : Ex} {l : Exs} (ia : Part a) (il : Parts l) : Parts (.cons a l) := by
  intro X σ0 G W c es ok h
  cases es with
  | nil => simp [chkEs] at h
  | cons e es =>
    simp only [chkEs, Bool.and_eq_true] at h
    have i := ia X σ0 G W c _ ok h.1.2
    have j := il X σ0 G W c _ ok h.2
    exact ⟨sa_cons (okE_star h.1.1) i.pe j.1, so_cons (okE_star h.1.1) i.pe j.2⟩
theorem okp_nil : PartPk .nil := by
  intro X σ0 G W c ks keys es pos ok h
  unfold chkPk at h
  split at h <;> try contradiction
  exact pps_ok_nil
theorem okp_cons {a : Ex} {l : Exs} (ia : Part a) (il : PartPk l) : PartPk (.cons a l) := by
  intro X σ0 G W c ks keys es pos ok h
  unfold chkPk at h
  split at h <;> try contradiction
  rename_i k ks a' l' x j p keys e es hk
  cases hk
  simp only [Bool.and_eq_true] at h
  obtain ⟨⟨⟨h1, h2⟩, h3⟩, h4⟩ := h
  have e1 := beq_iff_eq.mp h1
  subst e1
  exact pps_ok_cons (ia X σ0 G W c _ ok h3).pe (il X σ0 G W c _ _ _ pos ok h4)
theorem ok_tup {l : Exs} (il : Parts l) : Part (.tup l) := by
  intro X σ0 G W c ast ok h
  unfold chkE at h
  split at h <;> try contradiction
  rename_i l' es k pos hk
  cases hk
  exact .of (se_tup (il X σ0 G W c _ ok h).1) rfl (fun _ => rfl) (fun _ _ _ z => nomatch z)
theorem ok_lst {l : Exs} (il : Parts l) : Part (.lst l) := by
  intro X σ0 G W c ast ok h
  unfold chkE at h
  split at h <;> try contradiction
  rename_i l' es pos hk
  cases hk
  exact .ofF (sf_lst (il X σ0 G W c _ ok h).1) (fun _ => rfl) (fun _ _ _ z => nomatch z)
theorem plain_of {x : Str} (h : plainName x = true) : (x == ("__debug__" : Str)) = false ∧ x ≠ ("__name__" : Str) := by
  simp only [plainName, Bool.and_eq_true, bne_iff_ne] at h
  exact ⟨beq_eq_false_iff_ne.mpr h.1.1, h.2⟩
theorem ok_call {f : Nat} {l : Exs} (il : Parts l) : Part (.call f l) := by
  intro X σ0 G W c ast ok h
  unfold chkE at h
  split at h <;> try contradiction
  rotate_left
  · rename_i f' x p pos hk
    cases hk
    simp only [Bool.and_eq_true] at h
    obtain ⟨⟨h1, h2⟩, h3⟩ := h
    split at h1
    · rename_i y hy
      have e1 := beq_iff_eq.mp h1
      subst e1
      obtain ⟨a, fd, ps, k, m, kp, bd, rm, F⟩ := ok.fns f y hy
      cases hf : G.fr f with
      | false =>
        rw [hf] at F
        exact .of (se_call0 (ms := G.mt f) F rm (gl_of ok h2) m kp bd ok.tk (plain_of h3).1) hf (fun _ => rfl) (fun _ _ _ z => nomatch z)
      | true =>
        rw [hf] at F
        exact .ofF (sf_call0 (ms := G.mt f) F rm (gl_of ok h2) m kp bd ok.tk (plain_of h3).1) (fun _ => rfl) (fun _ _ _ z => nomatch z)
    · cases h1
  rename_i f' l' x p e es pos hk
  cases hk
  simp only [Bool.and_eq_true] at h
  obtain ⟨⟨⟨h1, h2⟩, h3⟩, h4⟩ := h
  split at h1
  · rename_i y hy
    have e1 := beq_iff_eq.mp h1
    subst e1
    obtain ⟨a, fd, ps, k, m, kp, bd, rm, F⟩ := ok.fns f y hy
    have j := (il X σ0 G W c _ ok h4).2
    have st : starEach (e :: es) X.env = (false, eval e X.env) :: starEach es X.env := by
      cases l with
      | nil => simp [chkEs] at h4
      | cons a l =>
        simp only [chkEs, Bool.and_eq_true] at h4
        exact okE_star h4.1.1
    have hpl : (backTo pos (starEach es X.env)).any (·.1) = false := by
      cases l with
      | nil => simp [chkEs] at h4
      | cons a l =>
        simp only [chkEs, Bool.and_eq_true] at h4
        exact chkEs_star h4.2
    cases hf : G.fr f with
    | false =>
      rw [hf] at F
      exact .of (se_call (ms := G.mt f) F rm (gl_of ok h2) m kp bd ok.tk j (plain_of h3).1 st hpl) hf (fun _ => rfl) (fun _ _ _ z => nomatch z)
    | true =>
      rw [hf] at F
      exact .ofF (sf_call (ms := G.mt f) F rm (gl_of ok h2) m kp bd ok.tk j (plain_of h3).1 st hpl) (fun _ => rfl) (fun _ _ _ z => nomatch z)
  · cases h1
theorem biN_mem (b : Bi) : biN b ∈ bltns := by cases b <;> decide
theorem biN_boot (b : Bi) : bootBuiltins (biN b : Str) = some (biV b) := by cases b <;> (simp only [biN, biV]; decide +kernel)
theorem biN_plain (b : Bi) : ((biN b : Str) == ("__debug__" : Str)) = false ∧ (biN b : Str) ≠ ("__name__" : Str) := by cases b <;> (simp only [biN]; decide +kernel)
theorem ok_bi {b : Bi} {l : Exs} (il : Parts l) : Part (.bi b l) := by
  intro X σ0 G W c ast ok h
  unfold chkE at h
  split at h <;> try contradiction
  rename_i b' l' x p e es pos hk
  cases hk
  simp only [Bool.and_eq_true] at h
  obtain ⟨⟨h1, h2⟩, h4⟩ := h
  have e1 := beq_iff_eq.mp h1
  have m : X.mg x = none := blt_of ok e1 (biN_mem b)
  have bo : bootBuiltins x = some (biV b) := by rw [e1]; exact biN_boot b
  have nn : x ≠ ("__name__" : Str) := by rw [e1]; exact (biN_plain b).2
  have nd : (x == ("__debug__" : Str)) = false := by rw [e1]; exact (biN_plain b).1
  have j := (il X σ0 G W c _ ok h4).2
  have st : starEach (e :: es) X.env = (false, eval e X.env) :: starEach es X.env := by
    cases l with
    | nil => simp [chkEs] at h4
    | cons a l =>
      simp only [chkEs, Bool.and_eq_true] at h4
      exact okE_star h4.1.1
  have hpl : (backTo pos (starEach es X.env)).any (·.1) = false := by
    cases l with
    | nil => simp [chkEs] at h4
    | cons a l =>
      simp only [chkEs, Bool.and_eq_true] at h4
      exact chkEs_star h4.2
  refine .ofF (se_bi (b := b) ok.wd j ok.units ok.calm fun {t} ha => ?_) (fun _ => rfl) (fun _ _ _ z => nomatch z)
  have r := op_bi (X := X) ok.wd ok.units ok.calm b
  cases b <;> first
    | exact pe_callB r (gl_of ok h2) m bo ha nn nd st hpl
    | exact pe_callTy r (gl_of ok h2) m bo ha nn nd st hpl
theorem ty_mem (t : Ty) : tyN t ∈ bltns := by cases t <;> decide
theorem ty_boot (t : Ty) : bootBuiltins (tyN t : Str) = some (.type (tyN t)) := by cases t <;> (simp only [tyN]; decide +kernel)
theorem ty_plain (t : Ty) : ((tyN t : Str) == ("__debug__" : Str)) = false ∧ (tyN t : Str) ≠ ("__name__" : Str) := by cases t <;> (simp only [tyN]; decide +kernel)
theorem isi_boot : bootBuiltins ("isinstance" : Str) = some (.builtin "isinstance") := by decide +kernel
theorem isi_plain : (("isinstance" : Str) == ("__debug__" : Str)) = false ∧ ("isinstance" : Str) ≠ ("__name__" : Str) := by decide +kernel
theorem ok_isi {a : Ex} {ts : List Ty} (ia : Part a) : Part (.isi a ts) := by
  intro X σ0 G W c ast ok h
  unfold chkE at h
  split at h <;> try contradiction
  · rename_i a' t x p e y p2 pos hk
    cases hk
    simp only [Bool.and_eq_true] at h
    obtain ⟨⟨⟨⟨⟨h1, h2⟩, h3⟩, h4⟩, h5⟩, h6⟩ := h
    have e1 := beq_iff_eq.mp h1
    have e3 := beq_iff_eq.mp h3
    subst e1
    subst e3
    exact .of (se_isi (ia X σ0 G W c _ ok h6).pe (gl_of ok h2) (ok.blt "isinstance" (by decide)) isi_boot isi_plain.2 isi_plain.1 (gl_of ok h4) (ok.blt _ (ty_mem t)) (ty_boot t) (ty_plain t).2 (ty_plain t).1 (okE_star h5)) rfl (fun _ => rfl) (fun _ _ _ z => nomatch z)
  · rename_i a' t u x p e y p2 z p3 k p4 pos hk
    cases hk
    simp only [Bool.and_eq_true] at h
    obtain ⟨⟨⟨⟨⟨⟨⟨h1, h2⟩, h3⟩, h4⟩, h7⟩, h8⟩, h5⟩, h6⟩ := h
    have e1 := beq_iff_eq.mp h1
    have e3 := beq_iff_eq.mp h3
    have e7 := beq_iff_eq.mp h7
    subst e1
    subst e3
    subst e7
    exact .of (se_isi2 (ia X σ0 G W c _ ok h6).pe (gl_of ok h2) (ok.blt "isinstance" (by decide)) isi_boot isi_plain.2 isi_plain.1 (gl_of ok h4) (ok.blt _ (ty_mem t)) (ty_boot t) (ty_plain t).2 (ty_plain t).1
      (gl_of ok h8) (ok.blt _ (ty_mem u)) (ty_boot u) (ty_plain u).2 (ty_plain u).1 (okE_star h5)) rfl (fun _ => rfl) (fun _ _ _ z => nomatch z)
theorem ok_pick {ks : List Str} {l : Exs} {k : Ex} (il : PartPk l) (ik : Part k) : Part (.pick ks l k) := by
  intro X σ0 G W c ast ok h
  unfold chkE at h
  split at h <;> try contradiction
  rename_i ks' l' k' keys vals p2 y pos hk
  cases hk
  simp only [Bool.and_eq_true] at h
  obtain ⟨⟨⟨⟨⟨⟨⟨h1, h2⟩, h3⟩, h4⟩, h5⟩, h6⟩, h7⟩, h8⟩ := h
  have hu : X.A.units + 1 < cLine := by have := ok.units; omega
  exact .of (se_pick hu (il X σ0 G W c _ _ _ p2 ok h2) (ik X σ0 G W c _ ok h8).pe h3 (beq_iff_eq.mp h4) (fun z => by rw [z] at h5; cases h5) (of_decide_eq_true h6) (of_decide_eq_true h7) (okE_ix h1)) rfl (fun _ => rfl) (fun _ _ _ z => nomatch z)
/-! targets -/
theorem store_of {X : Cx} {c : CC} {G : Gi} {W : XK} {i : Nat} {x : Str} (ok : XOk X c G W) (h : storeB c i x = true) : X.N[i]? = some x ∧ L2.Loc X.env.scope x ∧ (X.fn x = true ∨ X.env.scope.names.lookup x = some .local) := by
  simp only [storeB, Bool.and_eq_true, Bool.or_eq_true, beq_iff_eq] at h
  obtain ⟨⟨h1, h2⟩, _⟩ := h
  rw [ok.N, ok.fn, L2.Loc, ok.sc]
  refine ⟨h1, ?_, ?_⟩
  · rcases h2 with h2 | h2
    · exact .inl h2
    · exact .inr h2.1
  · rcases h2 with h2 | h2
    · exact .inr h2
    · exact .inl h2.2
mutual
theorem tg_ok {X : Cx} {σ0 : L2.St} {G : Gi} {W : XK} {c : CC} (ok : XOk X c G W) : ∀ (t : Tg) (e : Expr), chkTg c t e = true → PG X e (tG X.K σ0 t)
  | .n i, e, h => by
    unfold chkTg at h
    split at h <;> try contradiction
    rename_i i' x p hk
    cases hk
    obtain ⟨h1, h2, h3⟩ := store_of ok h
    exact sg_name ok.nd h1 h2 h3
  | .t l, e, h => by
    unfold chkTg at h
    split at h <;> try contradiction
    rename_i l' es k p hk
    cases hk
    obtain ⟨g1, g2, g3⟩ := tgs_ok ok l es h
    exact sg_tup ok.calm g1 g2 g3
theorem tgs_ok {X : Cx} {σ0 : L2.St} {G : Gi} {W : XK} {c : CC} (ok : XOk X c G W) : ∀ (ts : List Tg) (es : List Expr), chkTgs c ts es = true → PGs X es (tGs X.K σ0 ts) ∧ (assignEach es X.env).length = ts.length ∧ (assignEach es X.env).findIdx? (·.1) = none
  | [], [], _ => ⟨sg_nil, rfl, rfl⟩
  | [], _ :: _, h => by simp [chkTgs] at h
  | _ :: _, [], h => by simp [chkTgs] at h
  | t :: ts, e :: es, h => by
    simp only [chkTgs, Bool.and_eq_true] at h
    obtain ⟨g1, g2, g3⟩ := tgs_ok ok ts es h.2
    have g := tg_ok (σ0 := σ0) ok t e h.1
    have ae : assignEach (e :: es) X.env = (false, assign e X.env) :: assignEach es X.env := by
      cases e <;> first | rfl | (cases t <;> simp [chkTg] at h)
    refine ⟨sg_cons g g1 (by rw [ae]; rfl), by rw [ae]; simp [g2], ?_⟩
    rw [ae, List.findIdx?_cons]
    simp [g3]
end
/-! what is walked -/
theorem oki_lst {a : Ex} (ia : Part a) : PartI (.lst a) := by
  intro X σ0 G W c tg e ok h
  simp only [chkIt, Bool.and_eq_true] at h
  exact si_lst (ia X σ0 G W c _ ok h.2).pe
theorem oki_tup {a : Ex} (ia : Part a) : PartI (.tup a) := by
  intro X σ0 G W c tg e ok h
  simp only [chkIt, Bool.and_eq_true] at h
  exact si_tup (ia X σ0 G W c _ ok h.2).pe
theorem star1 {e : Expr} {env : Env} (h : okE e = true) : starEach [e] env = [(false, eval e env)] := okE_star h
theorem oki_range1 {a : Ex} (ia : Part a) : PartI (.range1 a) := by
  intro X σ0 G W c tg e ok h
  unfold chkIt at h
  split at h <;> try contradiction
  rename_i a' f p x pos hk
  cases hk
  simp only [Bool.and_eq_true] at h
  obtain ⟨⟨⟨h1, h2⟩, h3⟩, h4⟩ := h
  have e1 := beq_iff_eq.mp h1
  subst e1
  exact si_range1 (gl_of ok h2) (ok.blt "range" (by decide)) (ia X σ0 G W c _ ok h4).pe (star1 h3)
theorem oki_range2 {a b : Ex} (ia : Part a) (ib : Part b) : PartI (.range2 a b) := by
  intro X σ0 G W c tg e ok h
  unfold chkIt at h
  split at h <;> try contradiction
  rename_i a' b' f p x y pos hk
  cases hk
  simp only [Bool.and_eq_true] at h
  obtain ⟨⟨⟨⟨⟨h1, h2⟩, h3⟩, h4⟩, h5⟩, h6⟩ := h
  have e1 := beq_iff_eq.mp h1
  subst e1
  exact si_range2 (gl_of ok h2) (ok.blt "range" (by decide)) (ia X σ0 G W c _ ok h5).pe (ib X σ0 G W c _ ok h6).pe ((okE_star h3).trans (by rw [star1 h4])) (star1 h4)
theorem oki_zip {a b : Ex} (ia : Part a) (ib : Part b) : PartI (.zip a b) := by
  intro X σ0 G W c tg e ok h
  unfold chkIt at h
  split at h <;> try contradiction
  rename_i a' b' f p x y pos hk
  cases hk
  simp only [Bool.and_eq_true] at h
  obtain ⟨⟨⟨⟨⟨⟨h1, h2⟩, h3⟩, h4⟩, h5⟩, h6⟩, h7⟩ := h
  have e1 := beq_iff_eq.mp h1
  subst e1
  split at h7 <;> try contradiction
  refine si_zip (gl_of ok h2) (ok.blt "zip" (by decide)) (ia X σ0 G W c _ ok h5).pe (ib X σ0 G W c _ ok h6).pe (okE_star h3) (okE_star h4) ?_
  rw [star1 h4]
  rfl
theorem oki_enum {a : Ex} (ia : Part a) : PartI (.enum a) := by
  intro X σ0 G W c tg e ok h
  unfold chkIt at h
  split at h <;> try contradiction
  rename_i a' f p x pos hk
  cases hk
  simp only [Bool.and_eq_true] at h
  obtain ⟨⟨⟨⟨h1, h2⟩, h3⟩, h4⟩, h5⟩ := h
  have e1 := beq_iff_eq.mp h1
  subst e1
  split at h5 <;> try contradiction
  exact si_enum (gl_of ok h2) (ok.blt "enumerate" (by decide)) (ia X σ0 G W c _ ok h4).pe (star1 h3)
theorem oki_enumZip {a b : Ex} (ia : Part a) (ib : Part b) : PartI (.enumZip a b) := by
  intro X σ0 G W c tg e ok h
  unfold chkIt at h
  split at h <;> try contradiction
  rename_i a' b' f p g p2 x y zpos pos hk
  cases hk
  simp only [Bool.and_eq_true] at h
  obtain ⟨⟨⟨⟨⟨⟨⟨⟨h1, h2⟩, h3⟩, h4⟩, h5⟩, h6⟩, h7⟩, h8⟩, h9⟩ := h
  have e1 := beq_iff_eq.mp h1
  subst e1
  have e3 := beq_iff_eq.mp h3
  subst e3
  split at h9 <;> try contradiction
  refine si_enumZ (gl_of ok h2) (ok.blt "enumerate" (by decide)) (gl_of ok h4) (ok.blt "zip" (by decide)) (ia X σ0 G W c _ ok h7).pe (ib X σ0 G W c _ ok h8).pe rfl (okE_star h5) (okE_star h6) ?_
  rw [star1 h6]
  rfl
theorem oki_keys {a : Ex} (ia : Part a) : PartI (.keys a) := by
  intro X σ0 G W c tg e ok h
  simp only [chkIt, Bool.and_eq_true] at h
  exact si_keys (ia X σ0 G W c _ ok h.2).pe
theorem oki_items {a : Ex} (ia : Part a) : PartI (.items a) := by
  intro X σ0 G W c tg e ok h
  unfold chkIt at h
  split at h <;> try contradiction
  rename_i a' x m ap cp hk
  cases hk
  simp only [Bool.and_eq_true] at h
  obtain ⟨⟨⟨⟨h1, h2⟩, h3⟩, h4⟩, h5⟩ := h
  have e1 := beq_iff_eq.mp h1
  subst e1
  split at h5 <;> try contradiction
  exact si_items (ia X σ0 G W c _ ok h4).pe (baseE_of h3) h2
/-! comprehensions -/
theorem e0_of {Y : Cx} {σ0 : L2.St} {cv : String → Value} {a : Expr} {f : Rho → R OV} (h : PE Y a (tE Y.K σ0 (GW cv fun _ _ _ => False) f)) : PE Y a (tE Y.K σ0 E0' f) := pe_conseq h fun σ H Q ⟨ρ, S, r, q⟩ => by
  refine ⟨ρ, S, r, ?_⟩
  revert q
  cases f ρ with
  | stuck => exact fun q => q
  | ok => exact fun q => q
  | exc => exact fun q S' H' a b => (q S' H' a b).elim
theorem t0_of {Y : Cx} {σ0 : L2.St} {cv : String → Value} {a : Expr} {f : Rho → R OV} (h : PT Y a (tB Y.K σ0 (GW cv fun _ _ _ => False) f)) : PT Y a (tB Y.K σ0 E0' f) := pt_conseq h fun σ H Q ⟨ρ, S, r, q⟩ => by
  refine ⟨ρ, S, r, ?_⟩
  revert q
  cases f ρ with
  | stuck => exact fun q => q
  | ok => exact fun q => q
  | exc => exact fun q S' H' a b => (q S' H' a b).elim
theorem comp_bits {e : Ex} {t : Tg} {it : It} {cn : Ex} {own : List Nat} (ie : Part e) (ii : PartI it) (ic : Part cn) {X : Cx} {σ0 : L2.St} {G : Gi} {W : XK} {c : CC} {elt tg iter : Expr} {ifs : List Expr} {scope : Scope} {pos : Pos} (ok : XOk X c G W)
    (h : chkE G c (.comp e t it cn own) (.ListComp elt [⟨tg, iter, ifs, 0⟩] scope pos) = true) :
    PI X tg iter (tI X.K σ0 (GW G.cv W) (evIt G.cl G.mt G.gv it)) ∧ BlkOk X.N X.env.scope scope (ownOf c.N own) ∧ (∀ (s : Shared) (H : Hp) (C : Addr) (cl : List (Str × Addr)) (fp : List Addr), PG (X.blk s H scope (compEnvC scope cl C X.env) fp) tg (tG X.K σ0 t)) ∧
    (∀ (s : Shared) (H : Hp) (C : Addr) (cl : List (Str × Addr)) (fp : List Addr), PTs (X.blk s H scope (compEnvC scope cl C X.env) fp) ifs (tB X.K σ0 E0' (ev G.cl G.mt G.gv cn))) ∧
    (∀ (s : Shared) (H : Hp) (C : Addr) (cl : List (Str × Addr)) (fp : List Addr), PE (X.blk s H scope (compEnvC scope cl C X.env) fp) elt (tE X.K σ0 E0' (ev G.cl G.mt G.gv e))) ∧ (∀ x, foldedSetIterable iter X.env x = pure x) ∧ (∀ i ∈ tgS t, i ∈ own) ∧ (ownOf c.N own).map (·.2) = own := by
  unfold chkE at h
  simp only [Bool.and_eq_true] at h
  obtain ⟨⟨⟨⟨⟨⟨h1, h2⟩, h3⟩, h4⟩, h5⟩, h6⟩, h7⟩ := h
  have ow : (ownOf c.N own).map (·.2) = own := by
    unfold ownOf
    rw [List.map_map]
    exact List.map_id own
  have bk : BlkOk X.N X.env.scope scope (ownOf c.N own) := by
    rw [ok.N, ok.sc]
    exact blkOk_by h2
  have hts : ∀ i ∈ tgS t, i ∈ own := fun i hi => by
    have := List.all_eq_true.mp h5 i hi
    exact List.contains_iff_mem.mp this
  refine ⟨ii X σ0 G W c tg iter ok h3, bk, fun s H C cl fp => tg_ok (ok.blk s H scope C cl fp) t tg h4, fun s H C cl fp => ?_, fun s H C cl fp => e0_of (ie _ σ0 G _ _ _ (ok.blk s H scope C cl fp) h6).pe, okE_fs h1, hts, ow⟩
  split at h7
  · refine ⟨fun pins s σ H Q I q => pts_nil.run pins s σ H Q I ?_⟩
    obtain ⟨ρ, S, r, q⟩ := q
    unfold isC at h7
    split at h7 <;> try contradiction
    obtain ⟨b, e1, q⟩ := After.ok (x := OV.d (PyData.bool true)) q r
    cases e1
    exact q
  · simp only [Bool.and_eq_true] at h7
    exact pts_one (t0_of ((ic _ σ0 G _ _ _ (ok.blk s H scope C cl fp) h7.2).pt h7.1))
  · cases h7
theorem ok_comp {e : Ex} {t : Tg} {it : It} {cn : Ex} {own : List Nat} (ie : Part e) (ii : PartI it) (ic : Part cn) : Part (.comp e t it cn own) := by
  intro X σ0 G W c ast ok h
  have h0 := h
  unfold chkE at h
  split at h <;> try contradiction
  rename_i e' t' it' cn' own' elt tg iter ifs scope pos hk
  cases hk
  obtain ⟨b1, b2, b3, b4, b5, b6, b7, b8⟩ := comp_bits (σ0 := σ0) ie ii ic ok h0
  have hp := pe_lc (pos := pos) ok.calm ok.nd b1 b2 b3 b4 b5 b6
  rw [b8] at hp
  exact .ofF (pe_conseq hp fun σ H Q q => lc_reads b7 q) (fun _ => rfl) (fun _ _ _ z => nomatch z)
theorem ti0_of {Y : Cx} {σ0 : L2.St} {cv : String → Value} {tg a : Expr} {f : Rho → R (List PD)} (h : PI Y tg a (tI Y.K σ0 (GW cv fun _ _ _ => False) f)) : PI Y tg a (tI Y.K σ0 E0' f) := pi_conseq h fun σ H Q ⟨ρ, S, r, q⟩ => by
  refine ⟨ρ, S, r, ?_⟩
  revert q
  cases f ρ with
  | stuck => exact fun q => q
  | ok => exact fun q => q
  | exc => exact fun q S' H' a b => (q S' H' a b).elim
theorem comp2_bits {e : Ex} {t t2 : Tg} {it it2 : It} {own : List Nat} (ie : Part e) (ii : PartI it) (ii2 : PartI it2) {X : Cx} {σ0 : L2.St} {G : Gi} {W : XK} {c : CC} {elt tg iter tg2 iter2 : Expr} {scope : Scope} {pos : Pos} (ok : XOk X c G W)
    (h : chkE G c (.comp2 e t it t2 it2 own) (.ListComp elt [⟨tg, iter, [], 0⟩, ⟨tg2, iter2, [], 0⟩] scope pos) = true) :
    PI X tg iter (tI X.K σ0 (GW G.cv W) (evIt G.cl G.mt G.gv it)) ∧ BlkOk X.N X.env.scope scope (ownOf c.N own) ∧ (∀ (s : Shared) (H : Hp) (C : Addr) (cl : List (Str × Addr)) (fp : List Addr), PG (X.blk s H scope (compEnvC scope cl C X.env) fp) tg (tG X.K σ0 t)) ∧
    (∀ (s : Shared) (H : Hp) (C : Addr) (cl : List (Str × Addr)) (fp : List Addr), PI (X.blk s H scope (compEnvC scope cl C X.env) fp) tg2 iter2 (tI X.K σ0 E0' (evIt G.cl G.mt G.gv it2))) ∧
    (∀ (s : Shared) (H : Hp) (C : Addr) (cl : List (Str × Addr)) (fp : List Addr), PG (X.blk s H scope (compEnvC scope cl C X.env) fp) tg2 (tG X.K σ0 t2)) ∧
    (∀ (s : Shared) (H : Hp) (C : Addr) (cl : List (Str × Addr)) (fp : List Addr), PE (X.blk s H scope (compEnvC scope cl C X.env) fp) elt (tE X.K σ0 E0' (ev G.cl G.mt G.gv e))) ∧ (∀ x, foldedSetIterable iter X.env x = pure x) ∧ (∀ env x, foldedSetIterable iter2 env x = pure x) ∧ (∀ i ∈ tgS t, i ∈ own) ∧ (∀ i ∈ tgS t2, i ∈ own) ∧ (ownOf c.N own).map (·.2) = own := by
  unfold chkE at h
  simp only [Bool.and_eq_true] at h
  obtain ⟨⟨⟨⟨⟨⟨⟨⟨⟨h1, h2⟩, h3⟩, h4⟩, h5⟩, h6⟩, h7⟩, h8⟩, h9⟩, h10⟩ := h
  have ow : (ownOf c.N own).map (·.2) = own := by
    unfold ownOf
    rw [List.map_map]
    exact List.map_id own
  have bk : BlkOk X.N X.env.scope scope (ownOf c.N own) := by
    rw [ok.N, ok.sc]
    exact blkOk_by h3
  exact ⟨ii X σ0 G W c tg iter ok h4, bk, fun s H C cl fp => tg_ok (ok.blk s H scope C cl fp) t tg h5, fun s H C cl fp => ti0_of (ii2 _ σ0 G _ _ _ _ (ok.blk s H scope C cl fp) h7), fun s H C cl fp => tg_ok (ok.blk s H scope C cl fp) t2 tg2 h8, fun s H C cl fp => e0_of (ie _ σ0 G _ _ _ (ok.blk s H scope C cl fp) h10).pe, okE_fs h1, fun env => okE_fs h2,
    fun i hi => List.contains_iff_mem.mp (List.all_eq_true.mp h6 i hi), fun i hi => List.contains_iff_mem.mp (List.all_eq_true.mp h9 i hi), ow⟩
theorem ok_comp2 {e : Ex} {t t2 : Tg} {it it2 : It} {own : List Nat} (ie : Part e) (ii : PartI it) (ii2 : PartI it2) : Part (.comp2 e t it t2 it2 own) := by
  intro X σ0 G W c ast ok h
  have h0 := h
  unfold chkE at h
  split at h <;> try contradiction
  rename_i e' t' it' t2' it2' own' elt tg iter tg2 iter2 scope pos hk
  cases hk
  obtain ⟨b1, b2, b3, b4, b5, b6, b7, b8, b9, b10, b11⟩ := comp2_bits (σ0 := σ0) ie ii ii2 ok h0
  have hp := pe_lc2 (pos := pos) (vs1 := tgS t2) ok.calm ok.nd b1 b2 (by rw [b11]; exact b10) b3 (fun _ _ _ _ _ => pts_nil) b4 b5 (fun _ _ _ _ _ => pts_nil) b6 b7 b8
  rw [b11] at hp
  exact .ofF (pe_conseq hp fun σ H Q q => lc2_reads b9 b10 q) (fun _ => rfl) (fun _ _ _ z => nomatch z)
mutual
theorem ev_ok : ∀ e : Ex, Part e
  | .c d => fun X σ0 G W c ast ok h => ok_c ok h
  | .g n => fun X σ0 G W c ast ok h => ok_g ok h
  | .v i => fun X σ0 G W c ast ok h => ok_v ok h
  | .s i => fun X σ0 G W c ast ok h => ok_s ok h
  | .fz i => fun X σ0 G W c ast ok h => ok_fz ok h
  | .bin o a b => ok_bin (ev_ok a) (ev_ok b)
  | .neg a => ok_neg (ev_ok a)
  | .not a => ok_not (ev_ok a)
  | .and a b => ok_and (ev_ok a) (ev_ok b)
  | .or a b => ok_or (ev_ok a) (ev_ok b)
  | .cmp o a b => ok_cmp (ev_ok a) (ev_ok b)
  | .chain o1 o2 a b c => ok_chain (ev_ok a) (ev_ok b) (ev_ok c)
  | .isN a => ok_isN (ev_ok a)
  | .notN a => ok_notN (ev_ok a)
  | .ite c a b => ok_ite (ev_ok c) (ev_ok a) (ev_ok b)
  | .tup l => ok_tup (evs_ok l)
  | .lst l => ok_lst (evs_ok l)
  | .idx a b => ok_idx (ev_ok a) (ev_ok b)
  | .slc p1 p2 a lo hi => ok_slc (ev_ok a) (ev_ok lo) (ev_ok hi)
  | .call f l => ok_call (evs_ok l)
  | .bi b l => ok_bi (evs_ok l)
  | .isi a ts => ok_isi (ev_ok a)
  | .pick ks l k => ok_pick (evp_ok l) (ev_ok k)
  | .comp e t it c own => ok_comp (ev_ok e) (evi_ok it) (ev_ok c)
  | .comp2 e t it t2 it2 own => ok_comp2 (ev_ok e) (evi_ok it) (evi_ok it2)
  | .dct0 => ok_dct0
  | .dct1 k v => ok_dct1 (ev_ok k) (ev_ok v)
  | .dget a k => ok_dget (ev_ok a) (ev_ok k)
  | .dget2 a k d => ok_dget2 (ev_ok a) (ev_ok k) (ev_ok d)
  | .isE neg a => ok_isE (ev_ok a)
  | .pop i => fun X σ0 G W c ast ok h => by simp [chkE] at h
  | .rev a => fun X σ0 G W c ast ok h => by simp [chkE] at h
theorem evs_ok : ∀ l : Exs, Parts l
  | .nil => oks_nil
  | .cons a l => oks_cons (ev_ok a) (evs_ok l)
theorem evp_ok : ∀ l : Exs, PartPk l
  | .nil => okp_nil
  | .cons a l => okp_cons (ev_ok a) (evp_ok l)
theorem evi_ok : ∀ it : It, PartI it
  | .lst a => oki_lst (ev_ok a)
  | .tup a => oki_tup (ev_ok a)
  | .range1 a => oki_range1 (ev_ok a)
  | .range2 a b => oki_range2 (ev_ok a) (ev_ok b)
  | .zip a b => oki_zip (ev_ok a) (ev_ok b)
  | .enum a => oki_enum (ev_ok a)
  | .enumZip a b => oki_enumZip (ev_ok a) (ev_ok b)
  | .keys a => oki_keys (ev_ok a)
  | .items a => oki_items (ev_ok a)
end
end Er

set_option Elab.async false
set_option linter.all false
set_option maxRecDepth 100000
set_option maxHeartbeats 4000000
/-! C18: a checked statement does what it says. -/
namespace Er
open PySem L2
variable [Wd]
/-- what is pending: data, and new objects at L -/
inductive MxOk (K : Frag) (S : Addr → Prop) (H : Hp) : List Bool → List PD → List V → List Addr → Prop
  | nil : MxOk K S H [] [] [] []
  | d {x : PD} {v : V} {ms : List Bool} {xs : List PD} {vs : List V} {L : List Addr} : RD K H x v → MxOk K S H ms xs vs L → MxOk K S H (false :: ms) (x :: xs) (v :: vs) L
  | o {l : List PD} {p : Addr} {ys : List V} {ms : List Bool} {xs : List PD} {vs : List V} {L : List Addr} : H p = some (.lst ys) → RDs K H l ys → ¬ S p → p ∉ L → MxOk K S H ms xs vs L → MxOk K S H (true :: ms) (.list l :: xs) (.ref p :: vs) (p :: L)
  | dq {l : List (PD × PD)} {p : Addr} {ms : List Bool} {xs : List PD} {vs : List V} {L : List Addr} : DO K H p l → ¬ S p → p ∉ L → MxOk K S H ms xs vs L → MxOk K S H (true :: ms) (.dict l :: xs) (.ref p :: vs) (p :: L)
  | w {x : PD} {v : V} {ms : List Bool} {xs : List PD} {vs : List V} {L : List Addr} : obOf x = none → MxOk K S H ms xs vs L → MxOk K S H (true :: ms) (x :: xs) (v :: vs) L
def tAM (K : Frag) (σ0 : L2.St) (E : Exc → Hp → Prop) (ms : List Bool) (f : Rho → R (List PD)) : TA := fun σ H Q => ∃ ρ S, Rep K σ0 σ ρ H S ∧ After K σ0 E σ S H (f ρ) fun xs _ S' H' => ∀ vs L, MxOk K S' H' ms xs vs L → (∀ p ∈ L, S p ∨ H p = none) → Q vs H'
def setAll (σ : L2.St) : List Nat → List V → L2.St
  | i :: is, v :: vs => setAll (σ.set i (some v)) is vs
  | _, _ => σ
section
variable {K : Frag} {σ0 : L2.St} {E : Exc → Hp → Prop}
theorem MxOk.step {S S' : Addr → Prop} {H H' : Hp} (k : Keeps H H') (st : ∀ p o, H p = some o → ¬ S p → H' p = some o ∧ ¬ S' p) : ∀ {ms : List Bool} {xs : List PD} {vs : List V} {L : List Addr}, MxOk K S H ms xs vs L → MxOk K S' H' ms xs vs L
  | _, _, _, _, .nil => .nil
  | _, _, _, _, .d r t => .d (r.mono k) (MxOk.step k st t)
  | _, _, _, _, .o h r n m t => .o (st _ _ h n).1 (r.mono k) (st _ _ h n).2 m (MxOk.step k st t)
  | _, _, _, _, .dq h n m t => by
    obtain ⟨u, e, _⟩ := h.mut
    exact .dq (h.mono k fun o q => (st _ _ q n).1) (st _ _ e n).2 m (MxOk.step k st t)
  | _, _, _, _, .w e t => .w e (MxOk.step k st t)
theorem MxOk.sub {S S' : Addr → Prop} {H : Hp} : ∀ {ms : List Bool} {xs : List PD} {vs : List V} {L : List Addr}, MxOk K S H ms xs vs L → (∀ p ∈ L, ¬ S' p) → MxOk K S' H ms xs vs L
  | _, _, _, _, .nil, _ => .nil
  | _, _, _, _, .d r t, h => .d r (MxOk.sub t h)
  | _, _, _, _, .o h r n m t, q => .o h r (q _ (by simp)) m (MxOk.sub t fun p hp => q p (by simp [hp]))
  | _, _, _, _, .dq h n m t, hq => .dq h (hq _ (by simp)) m (MxOk.sub t fun p hp => hq p (by simp [hp]))
  | _, _, _, _, .w e t, q => .w e (MxOk.sub t q)
theorem MxOk.not {S : Addr → Prop} {H : Hp} : ∀ {ms : List Bool} {xs : List PD} {vs : List V} {L : List Addr}, MxOk K S H ms xs vs L → ∀ p ∈ L, ¬ S p ∧ ∃ u, H p = some u
  | _, _, _, _, .nil, _, h => by simp at h
  | _, _, _, _, .d r t, p, h => MxOk.not t p h
  | _, _, _, _, .o h r n m t, p, q => by
    rcases List.mem_cons.mp q with e | q
    · subst e
      exact ⟨n, _, h⟩
    · exact MxOk.not t p q
  | _, _, _, _, .dq h n m t, p, hq => by
    rcases List.mem_cons.mp hq with e | hq
    · subst e
      obtain ⟨u, e, _⟩ := h.mut
      exact ⟨n, u, e⟩
    · exact MxOk.not t p hq
  | _, _, _, _, .w _ t, p, h => MxOk.not t p h
theorem MxOk.len {S : Addr → Prop} {H : Hp} : ∀ {ms : List Bool} {xs : List PD} {vs : List V} {L : List Addr}, MxOk K S H ms xs vs L → vs.length = ms.length
  | _, _, _, _, .nil => rfl
  | _, _, _, _, .d _ t => by simp [MxOk.len t]
  | _, _, _, _, .o _ _ _ _ t => by simp [MxOk.len t]
  | _, _, _, _, .dq _ _ _ t => by simp [MxOk.len t]
  | _, _, _, _, .w _ t => by simp [MxOk.len t]
theorem par_rep {H : Hp} : ∀ {l : List (Nat × Bool)} {xs : List PD} {vs : List V} {L : List Addr} {ρ ρ' : Rho} {σ : L2.St} {S : Addr → Prop}, Rep K σ0 σ ρ H S → parR l xs ρ = some ρ' → MxOk K S H (l.map (·.2)) xs vs L →
    ∃ S', Rep K σ0 (setAll σ (l.map (·.1)) vs) ρ' H S' ∧ ∀ b, S' b → S b ∨ b ∈ L
  | [], [], vs, L, ρ, ρ', σ, S, r, e, m => by
    cases e
    cases m
    exact ⟨S, r, fun b h => .inl h⟩
  | [], _ :: _, vs, L, ρ, ρ', σ, S, r, e, m => by cases e
  | (i, b) :: l, [], vs, L, ρ, ρ', σ, S, r, e, m => by cases e
  | (i, b) :: l, x :: xs, vs, L, ρ, ρ', σ, S, r, e, m => by
    have m : MxOk K S H (b :: l.map (·.2)) (x :: xs) vs L := m
    cases m with
    | d rd t =>
      have e : (put ρ i (.d x)).bind (parR l xs) = some ρ' := e
      obtain ⟨ρ1, e1, e2⟩ := Option.bind_eq_some_iff.mp e
      obtain ⟨S1, r1, s1⟩ := r.put e1 rd
      obtain ⟨S2, r2, s2⟩ := par_rep r1 e2 (t.sub fun p hp z => (t.not p hp).1 (s1 p z))
      exact ⟨S2, r2, fun b h => (s2 b h).elim (fun z => .inl (s1 b z)) .inr⟩
    | w e0 t =>
      have e : (match (obOf x).map SV.o with
        | some y => (put ρ i y).bind (parR l xs)
        | none => none) = some ρ' := e
      rw [e0] at e
      cases e
    | @o l' p ys _ _ _ L' hp rd n nl t =>
      have e : (put ρ i (.o (.lst l'))).bind (parR l xs) = some ρ' := e
      obtain ⟨ρ1, e1, e2⟩ := Option.bind_eq_some_iff.mp e
      obtain ⟨S1, r1, s1⟩ := r.putO (x := .list l') (S0 := fun b => b = p) (H0 := fun _ => some (.lst [])) rfl e1 (show FRok K (fun b => b = p) (fun _ => some (.lst [])) S H (.d (.list l')) (.ref p) from ⟨p, ys, rfl, hp, rd, n, .inl rfl⟩)
      have s1 : ∀ b, S1 b → S b ∨ b = p := fun b h => by
        rcases s1 b h with z | z | z
        · exact .inl z
        · exact .inr z
        · cases z
      obtain ⟨S2, r2, s2⟩ := par_rep r1 e2 (t.sub fun q hq z => by
        rcases s1 q z with z | z
        · exact (t.not q hq).1 z
        · subst z
          exact nl hq)
      refine ⟨S2, r2, fun b h => ?_⟩
      rcases s2 b h with z | z
      · rcases s1 b z with z | z
        · exact .inl z
        · exact .inr (by simp [z])
      · exact .inr (by simp [z])
    | @dq l' p _ _ _ L' hp n nl t =>
      have e : (put ρ i (.o (.dct l'))).bind (parR l xs) = some ρ' := e
      obtain ⟨ρ1, e1, e2⟩ := Option.bind_eq_some_iff.mp e
      obtain ⟨S1, r1, s1⟩ := r.putO (x := .dict l') (S0 := fun b => b = p) (H0 := fun _ => some (.lst [])) rfl e1 (show FRok K (fun b => b = p) (fun _ => some (.lst [])) S H (.d (.dict l')) (.ref p) from ⟨p, rfl, hp, n, .inl rfl⟩)
      have s1 : ∀ b, S1 b → S b ∨ b = p := fun b h => by
        rcases s1 b h with z | z | z
        · exact .inl z
        · exact .inr z
        · cases z
      obtain ⟨S2, r2, s2⟩ := par_rep r1 e2 (t.sub fun q hq z => by
        rcases s1 q z with z | z
        · exact (t.not q hq).1 z
        · subst z
          exact nl hq)
      refine ⟨S2, r2, fun b h => ?_⟩
      rcases s2 b h with z | z
      · rcases s1 b z with z | z
        · exact .inl z
        · exact .inr (by simp [z])
      · exact .inr (by simp [z])
end
section
variable {X : Cx} {σ0 : L2.St} {E : Exc → Hp → Prop} {fr : Bool} {pos : Pos}
theorem sm_nil : PA X [] (tAM X.K σ0 E [] fun ρ => .ok [] ρ) := pa_conseq pa_nil fun σ H Q ⟨ρ, S, r, q⟩ => q.ok r [] [] .nil (fun _ h => by simp at h)
theorem sm_cons {e : Expr} {es : List Expr} {f : Rho → R OV} {g : Rho → R (List PD)} {ms : List Bool} (hs : starEach (e :: es) X.env = (false, eval e X.env) :: starEach es X.env) (h : PE X e (tE X.K σ0 E f)) (hr : PA X es (tAM X.K σ0 E ms g)) :
    PA X (e :: es) (tAM X.K σ0 E (false :: ms) fun ρ => (f ρ).bind fun x ρ => (esc x ρ).bind fun x ρ => (g ρ).bind fun xs ρ => .ok (x :: xs) ρ) := by
  refine pa_conseq (pa_cons h hr hs) fun σ H Q ⟨ρ, S, r, q⟩ => ?_
  refine ⟨ρ, S, r, (After.bind (r := f ρ) q).mono fun x ρ1 S1 H1 r1 s1 q1 v o => ?_⟩
  cases x with
  | s j => exact q1.elim
  | d y =>
    have q1 : After X.K σ0 E σ S1 H1 ((g ρ1).bind fun xs ρ => .ok (y :: xs) ρ) _ := q1
    refine ⟨ρ1, S1, r1, q1.bind.mono fun xs ρ2 S2 H2 r2 s2 q2 vs L m hL => ?_⟩
    have o : RD X.K H1 y v := o
    refine q2.ok r2 (v :: vs) L (.d (o.mono (r1.keeps s2)) m) fun p hp => ?_
    rcases hL p hp with z | z
    · exact s1.own p z
    · exact s1.free z
theorem sm_consO {e : Expr} {es : List Expr} {f : Rho → R OV} {g : Rho → R (List PD)} {ms : List Bool} (hs : starEach (e :: es) X.env = (false, eval e X.env) :: starEach es X.env) (h : PE X e (tF X.K σ0 E f)) (hr : PA X es (tAM X.K σ0 E ms g)) :
    PA X (e :: es) (tAM X.K σ0 E (true :: ms) fun ρ => (f ρ).bind fun x ρ => (esc x ρ).bind fun x ρ => (g ρ).bind fun xs ρ => .ok (x :: xs) ρ) := by
  refine pa_conseq (pa_cons h hr hs) fun σ H Q ⟨ρ, S, r, q⟩ => ?_
  refine ⟨ρ, S, r, (After.bind (r := f ρ) q).mono fun x ρ1 S1 H1 r1 s1 q1 v o => ?_⟩
  cases x with
  | s j => exact q1.elim
  | d y =>
    have q1 : After X.K σ0 E σ S1 H1 ((g ρ1).bind fun xs ρ => .ok (y :: xs) ρ) _ := q1
    refine ⟨ρ1, S1, r1, q1.bind.mono fun xs ρ2 S2 H2 r2 s2 q2 vs L m hL => ?_⟩
    have hL2 : ∀ p ∈ L, S p ∨ H p = none := fun p hp => by
      rcases hL p hp with z | z
      · exact s1.own p z
      · exact s1.free z
    match y, o with
    | .list l, o =>
      obtain ⟨p, ys, rfl, hp, rd, np, fp⟩ := o
      have hp2 := s2.keep p _ hp np
      refine q2.ok r2 (.ref p :: vs) (p :: L) (.o hp2 (rd.mono (r1.keeps s2)) (fun z => ?_) (fun z => ?_) m) fun q hq => ?_
      · rcases s2.own p z with z | z
        · exact np z
        · rw [hp] at z; cases z
      · rcases hL p z with z | z
        · exact np z
        · rw [hp] at z; cases z
      · rcases List.mem_cons.mp hq with e | hq
        · subst e
          exact fp
        · exact hL2 q hq
    | .dict l, o =>
      obtain ⟨p, rfl, hp, np, fp⟩ := o
      obtain ⟨u, eu, _⟩ := hp.mut
      refine q2.ok r2 (.ref p :: vs) (p :: L) (.dq (hp.mono (r1.keeps s2) fun o q => s2.keep p o q np) (fun z => ?_) (fun z => ?_) m) fun q hq => ?_
      · rcases s2.own p z with z | z
        · exact np z
        · rw [eu] at z; cases z
      · rcases hL p z with z | z
        · exact np z
        · rw [eu] at z; cases z
      · rcases List.mem_cons.mp hq with e | hq
        · subst e
          exact fp
        · exact hL2 q hq
    | .none, o => exact q2.ok r2 (v :: vs) L (.w rfl m) hL2
    | .bool _, o => exact q2.ok r2 (v :: vs) L (.w rfl m) hL2
    | .int _, o => exact q2.ok r2 (v :: vs) L (.w rfl m) hL2
    | .str _, o => exact q2.ok r2 (v :: vs) L (.w rfl m) hL2
    | .tuple _, o => exact q2.ok r2 (v :: vs) L (.w rfl m) hL2
/-- a, b = x, y -/
theorem ss_par {st : Stmt} {l : List (Nat × Bool)} {f : Rho → R (List PD)} (h : PS X st (fun D σ H => tAM X.K σ0 E (l.map (·.2)) f σ H fun vs H1 => vs.length = l.length ∧ D.nx (setAll σ (l.map (·.1)) vs) H1)) :
    PS X st (tS X.K σ0 E fr fun ρ => (f ρ).bind fun xs ρ => match parR l xs ρ with
      | some ρ => .ok .next ρ
      | none => .stuck) := by
  refine ps_conseq h fun D σ H ⟨ρ, S, r, q⟩ => ?_
  refine ⟨ρ, S, r, ?_⟩
  have q : AftS X.K σ0 E fr S H ((f ρ).bind fun xs ρ => match parR l xs ρ with
      | some ρ => .ok .next ρ
      | none => .stuck) D := q
  revert q
  cases f ρ with
  | stuck => exact fun q => q
  | exc e ρ' => exact fun q S' H' a b => q σ S' H' a b
  | ok xs ρ' =>
    intro q S1 H1 r1 s1 vs L m hL
    have q : AftS X.K σ0 E fr S H (match parR l xs ρ' with
        | some ρ => .ok .next ρ
        | none => .stuck) D := q
    split at q
    · rename_i ρ2 e
      obtain ⟨S2, r2, sub⟩ := par_rep r1 e m
      refine ⟨by rw [m.len, List.length_map], q _ S2 H1 r2 ⟨s1.keep, fun b hb => ?_⟩⟩
      rcases sub b hb with z | z
      · exact s1.own b z
      · exact hL b z
    · exact q.elim
end
end Er

set_option Elab.async false
set_option linter.all false
set_option maxRecDepth 100000
set_option maxHeartbeats 4000000
/-! C19: a checked statement does what it says. -/
namespace Er
open PySem L2
variable [Wd]
def SPart (s : Sm) : Prop := ∀ (X : Cx) (σ0 : L2.St) (G : Gi) (W : XK) (c : CC) (fr : Bool) (wf : Nat) (st : Stmt), XOk X c G W → chkS G c fr s st = true → PS X st (tS X.K σ0 (GW G.cv W) fr (exec G.cl G.mt G.gv wf s))
def SParts (l : Sms) : Prop := ∀ (X : Cx) (σ0 : L2.St) (G : Gi) (W : XK) (c : CC) (fr : Bool) (wf : Nat) (st : List Stmt), XOk X c G W → chkSs G c fr l st = true → PSs X st (tS X.K σ0 (GW G.cv W) fr (execs G.cl G.mt G.gv wf l))
section
variable {X : Cx} {σ0 : L2.St} {G : Gi} {W : XK} {c : CC} {fr : Bool} {wf : Nat}
theorem okm : ∀ {ms : List Bool} {l : Exs} {es : List Expr}, XOk X c G W → chkMs G c ms l es = true → PA X es (tAM X.K σ0 (GW G.cv W) ms (evs G.cl G.mt G.gv l))
  | [], .nil, [], ok, h => sm_nil
  | [], .nil, _ :: _, ok, h => by simp [chkMs] at h
  | [], .cons _ _, _, ok, h => by simp [chkMs] at h
  | _ :: _, .nil, _, ok, h => by simp [chkMs] at h
  | _ :: _, .cons _ _, [], ok, h => by simp [chkMs] at h
  | m :: ms, .cons a l, e :: es, ok, h => by
    simp only [chkMs, Bool.and_eq_true] at h
    obtain ⟨⟨⟨h1, h2⟩, h3⟩, h4⟩ := h
    have i := ev_ok a X σ0 G W c _ ok h3
    have j := okm ok h4
    cases m with
    | false => exact sm_cons (okE_star h1) i.pe j
    | true =>
      have hf : isFresh G a = true := by simpa using h2
      exact sm_consO (okE_star h1) (i.pf hf) j
theorem scope_fun (ok : XOk X c G W) (h : (c.sc.kind == .function) = true) : X.env.scope.kind = .function := by
  rw [ok.sc]
  exact beq_iff_eq.mp h
theorem parNs_len {line : Nat} : ∀ {l : List (Nat × Bool)} {ts : List Expr}, parNs c line l ts = true → ts.length = l.length
  | [], [], _ => rfl
  | [], _ :: _, h => by simp [parNs] at h
  | _ :: _, [], h => by simp [parNs] at h
  | (i, b) :: l, t :: ts, h => by
    unfold parNs at h
    split at h <;> try contradiction
    rename_i i' b' l' x p ts' e1 e2
    cases e1
    cases e2
    simp only [Bool.and_eq_true] at h
    simp [parNs_len h.2]
theorem chkMs_len : ∀ {ms : List Bool} {l : Exs} {es : List Expr}, chkMs G c ms l es = true → es.length = ms.length
  | [], .nil, [], h => rfl
  | [], .nil, _ :: _, h => by simp [chkMs] at h
  | [], .cons _ _, _, h => by simp [chkMs] at h
  | _ :: _, .nil, _, h => by simp [chkMs] at h
  | _ :: _, .cons _ _, [], h => by simp [chkMs] at h
  | m :: ms, .cons a l, e :: es, h => by
    simp only [chkMs, Bool.and_eq_true] at h
    simp [chkMs_len h.2]
theorem chkMs_star : ∀ {ms : List Bool} {l : Exs} {es : List Expr}, chkMs G c ms l es = true → es.all okE = true
  | [], .nil, [], h => rfl
  | [], .nil, _ :: _, h => by simp [chkMs] at h
  | [], .cons _ _, _, h => by simp [chkMs] at h
  | _ :: _, .nil, _, h => by simp [chkMs] at h
  | _ :: _, .cons _ _, [], h => by simp [chkMs] at h
  | m :: ms, .cons a l, e :: es, h => by
    simp only [chkMs, Bool.and_eq_true] at h
    rw [List.all_cons, h.1.1.1, chkMs_star h.2]
    rfl
theorem okE_nsts : ∀ {es : List Expr}, es.all okE = true → (es.any fun | .Starred .. => true | _ => false) = false
  | [], _ => rfl
  | e :: es, h => by
    rw [List.all_cons, Bool.and_eq_true] at h
    rw [List.any_cons, okE_nsts h.2, Bool.or_false]
    revert h
    cases e <;> first | (intro _; rfl) | (intro h; cases h.1)
theorem swapped2 {x y : Str} {px py pt pt2 : Pos} {kt k2 : Nat} {a b : Expr} {env : Env} (hk : env.scope.kind = .function) (hx : env.scope.names.lookup x = some .local) (hy : env.scope.names.lookup y = some .local) (hp : (py.line == px.line) = true) (hxy : x ≠ y)
    (hs : ([a, b].any fun | .Starred .. => true | _ => false) = false) (h1 : [a, b].all (foldedForSure 8) = false) (h2 : [a, b].all (constantsAlone 8) = false) :
    swappedStores [.Tuple [.Name x px, .Name y py] kt pt] (.Tuple [a, b] k2 pt2) env = pure (some [x, y]) := by
  have kx : env.kindOf x = some .local := hx
  have ky : env.kindOf y = some .local := hy
  have hb : env.blockKind = .function := by unfold Env.blockKind; rw [hk]; rfl
  have hyx : (y == x) = false := beq_eq_false_iff_ne.mpr (Ne.symm hxy)
  have hxx : (px.line == px.line) = true := beq_self_eq_true _
  have he : [x, y].eraseDups.length = 2 := by
    rw [List.eraseDups_cons]
    simp [hyx, List.eraseDups_cons, Ne.symm hxy]
  unfold swappedStores
  simp only [hs, h1, h2, hb]
  simp [Expr.pos, kx, ky, eq_of_beq hp, he, List.filterMap]
  intro q
  exfalso
  simp only [List.any_cons, List.any_nil, Bool.or_false, Bool.or_eq_false_iff] at hs
  rcases q with q | q
  · exact Bool.noConfusion (hs.1.symm.trans q)
  · exact Bool.noConfusion (hs.2.symm.trans q)
theorem swapped3 {x y z : Str} {px py pz pt pt2 : Pos} {kt k2 : Nat} {a b d : Expr} {env : Env} (hk : env.scope.kind = .function) (hx : env.scope.names.lookup x = some .local) (hy : env.scope.names.lookup y = some .local) (hz : env.scope.names.lookup z = some .local) (hp : (py.line == px.line) = true) (hp2 : (pz.line == px.line) = true) (hxy : x ≠ y) (hxz : x ≠ z) (hyz : y ≠ z)
    (hs : ([a, b, d].any fun | .Starred .. => true | _ => false) = false) (h1 : [a, b, d].all (foldedForSure 8) = false) (h2 : [a, b, d].all (constantsAlone 8) = false) :
    swappedStores [.Tuple [.Name x px, .Name y py, .Name z pz] kt pt] (.Tuple [a, b, d] k2 pt2) env = pure (some [x, y, z]) := by
  have kx : env.kindOf x = some .local := hx
  have ky : env.kindOf y = some .local := hy
  have kz : env.kindOf z = some .local := hz
  have hb : env.blockKind = .function := by unfold Env.blockKind; rw [hk]; rfl
  have he : [x, y, z].eraseDups.length = 3 := by
    simp [List.eraseDups_cons, Ne.symm hxy, Ne.symm hxz, Ne.symm hyz]
  unfold swappedStores
  simp only [hs, h1, h2, hb]
  simp [Expr.pos, kx, ky, kz, eq_of_beq hp, eq_of_beq hp2, he, List.filterMap]
  intro q
  exfalso
  simp only [List.any_cons, List.any_nil, Bool.or_false, Bool.or_eq_false_iff] at hs
  rcases q with q | q | q
  · exact Bool.noConfusion (hs.1.symm.trans q)
  · exact Bool.noConfusion (hs.2.1.symm.trans q)
  · exact Bool.noConfusion (hs.2.2.symm.trans q)
end
theorem okS_dead : SPart .dead := by
  intro X σ0 G W c fr wf st ok h
  exact ⟨fun pins s σ H D I ⟨ρ, S, r, q⟩ => q.elim⟩
theorem oks_par {l : List (Nat × Bool)} {es : Exs} : SPart (.par l es) := by
  intro X σ0 G W c fr wf st ok h
  unfold chkS at h
  split at h <;> try contradiction
  rename_i l' es' ts kt pt vs k2 pt2 pos hk
  cases hk
  simp only [Bool.and_eq_true, Bool.not_eq_true', decide_eq_true_eq] at h
  obtain ⟨⟨⟨⟨⟨⟨⟨h1, h2⟩, h3⟩, h4⟩, h5⟩, h6⟩, h7⟩, h8⟩ := h
  have fk := scope_fun ok h1
  have hl := parNs_len h3
  have hv : vs.length = l.length := by rw [chkMs_len h8, List.length_map]
  have hm := okm (σ0 := σ0) (X := X) (W := W) ok h8
  have hst := okE_nsts (chkMs_star h8)
  refine ss_par (l := l) ?_
  simp only [Bool.or_eq_true, beq_iff_eq] at h2
  rcases h2 with h2 | h2
  · match l, ts, vs, h2, hl, hv, h3, h4, h5, h6, h7, hm, hst with
    | [(i, m1), (j, m2)], [t1, t2], [a, b], _, _, _, h3, h4, h5, h6, h7, hm, hst =>
      unfold parNs at h3
      split at h3 <;> try contradiction
      rename_i e1 e2
      cases e1
      cases e2
      simp only [Bool.and_eq_true] at h3
      obtain ⟨⟨⟨g1, g2⟩, g3⟩, h3⟩ := h3
      unfold parNs at h3
      split at h3 <;> try contradiction
      rename_i e1 e2
      cases e1
      cases e2
      simp only [Bool.and_eq_true] at h3
      obtain ⟨⟨⟨g4, g5⟩, g6⟩, _⟩ := h3
      have n1 := (store_of ok g1).1
      have n2 := (store_of ok g4).1
      rw [← ok.sc] at g2 g5
      simp [nmOf] at h5
      simp at h4
      refine ps_conseq (ps_par ok.calm ok.nd n1 n2 h4 (beq_iff_eq.mp g2) (beq_iff_eq.mp g5) hm (swapped2 fk (beq_iff_eq.mp g2) (beq_iff_eq.mp g5) g6 h5 hst h6 h7)) fun D σ H q => ?_
      obtain ⟨ρ, S, r, q⟩ := q
      refine ⟨ρ, S, r, q.mono fun xs ρ1 S1 H1 r1 s1 q1 us L m hL => ?_⟩
      obtain ⟨e, q2⟩ := q1 us L m hL
      match us, e, q2 with
      | [u, v], _, q2 => exact ⟨u, v, rfl, q2⟩
  · match l, ts, vs, h2, hl, hv, h3, h4, h5, h6, h7, hm, hst with
    | [(i, m1), (j, m2), (k, m3)], [t1, t2, t3], [a, b, d], _, _, _, h3, h4, h5, h6, h7, hm, hst =>
      unfold parNs at h3
      split at h3 <;> try contradiction
      rename_i e1 e2
      cases e1
      cases e2
      simp only [Bool.and_eq_true] at h3
      obtain ⟨⟨⟨g1, g2⟩, g3⟩, h3⟩ := h3
      unfold parNs at h3
      split at h3 <;> try contradiction
      rename_i e1 e2
      cases e1
      cases e2
      simp only [Bool.and_eq_true] at h3
      obtain ⟨⟨⟨g4, g5⟩, g6⟩, h3⟩ := h3
      unfold parNs at h3
      split at h3 <;> try contradiction
      rename_i e1 e2
      cases e1
      cases e2
      simp only [Bool.and_eq_true] at h3
      obtain ⟨⟨⟨g7, g8⟩, g9⟩, _⟩ := h3
      have n1 := (store_of ok g1).1
      have n2 := (store_of ok g4).1
      have n3 := (store_of ok g7).1
      rw [← ok.sc] at g2 g5 g8
      simp [nmOf] at h5
      simp at h4
      refine ps_conseq (ps_par3 ok.calm ok.nd n1 n2 n3 h4.1.1 h4.1.2 h4.2 (beq_iff_eq.mp g2) (beq_iff_eq.mp g5) (beq_iff_eq.mp g8) hm (swapped3 fk (beq_iff_eq.mp g2) (beq_iff_eq.mp g5) (beq_iff_eq.mp g8) g6 g9 h5.1.1 h5.1.2 h5.2 hst h6 h7)) fun D σ H q => ?_
      obtain ⟨ρ, S, r, q⟩ := q
      refine ⟨ρ, S, r, q.mono fun xs ρ1 S1 H1 r1 s1 q1 us L m hL => ?_⟩
      obtain ⟨e, q2⟩ := q1 us L m hL
      match us, e, q2 with
      | [u, v, w], _, q2 => exact ⟨u, v, w, rfl, q2⟩
def noComp : Expr → Bool
  | .ListComp .. => false
  | .SetComp .. => false
  | .DictComp .. => false
  | _ => true
/-- values whose comprehension is not written into the name -/
theorem sw_false {v : Expr} {t : Option Expr} {n : Nat} {env : Env} (h : noComp v = true) : swapsWith v t n env = pure false := by
  cases v <;> first | rfl | cases h
theorem comp_no {G : Gi} {c : CC} {e : Ex} {v : Expr} (h3 : chkE G c e v = true) (z1 : ∀ elt tg iter ifs scope pos, v = .ListComp elt [⟨tg, iter, ifs, 0⟩] scope pos → False) (z4 : ∀ elt tg iter tg2 iter2 scope pos, v = .ListComp elt [⟨tg, iter, [], 0⟩, ⟨tg2, iter2, [], 0⟩] scope pos → False) (z2 : ∀ a b c d, v = .SetComp a b c d → False) (z3 : ∀ a b c d e, v = .DictComp a b c d e → False) : noComp v = true := by
  cases v with
  | ListComp elt gs scope pos =>
    cases e with
    | comp ee tt it cn own =>
      unfold chkE at h3
      split at h3 <;> try contradiction
      rename_i a1 a2 a3 a4 a5 b1 b2 b3 b4 b5 b6 hk1 hk
      cases hk
      exact (z1 _ _ _ _ _ _ rfl).elim
    | comp2 ee tt it t2 it2 own =>
      unfold chkE at h3
      split at h3 <;> try contradiction
      rename_i a1 a2 a3 a4 a5 a6 b1 b2 b3 b4 b5 b6 b7 hk1 hk
      cases hk
      exact (z4 _ _ _ _ _ _ _ rfl).elim
    | _ => simp [chkE] at h3
  | SetComp => exact (z2 _ _ _ _ rfl).elim
  | DictComp => exact (z3 _ _ _ _ _ rfl).elim
  | _ => rfl
theorem oks_set {i : Nat} {e : Ex} : SPart (.set i e) := by
  intro X σ0 G W c fr wf st ok h
  unfold chkS at h
  split at h <;> try contradiction
  rename_i i' e' x py v pos hk
  cases hk
  simp only [Bool.and_eq_true] at h
  obtain ⟨⟨h1, h2⟩, h3⟩ := h
  obtain ⟨n1, n2, n3⟩ := store_of ok h1
  split at h2
  · rename_i elt tg iter ifs scope lp
    simp only [Bool.and_eq_true, Bool.not_eq_true'] at h2
    obtain ⟨⟨⟨k1, k2⟩, k3⟩, k4⟩ := h2
    have k2 : X.env.scope.names.lookup x = some .local := by rw [ok.sc]; exact beq_iff_eq.mp k2
    cases e with
    | comp ee tt it cn own =>
      obtain ⟨b1, b2, b3, b4, b5, b6, b7, b8⟩ := comp_bits (σ0 := σ0) (ev_ok ee) (evi_ok it) (ev_ok cn) ok h3
      have hp := ps_setLc (spos := pos) (pos := lp) (py := py) ok.calm ok.nd n1 k2 (sw_true (scope_fun ok k1) k2 k3 k4) b1 b2 b3 b4 b5 b6
      rw [b8] at hp
      exact ss_setF hp fun σ H Q q => lc_reads b7 q
    | _ => simp [chkE] at h3
  · rename_i elt tg iter tg2 iter2 scope lp
    simp only [Bool.and_eq_true, Bool.not_eq_true'] at h2
    obtain ⟨⟨⟨k1, k2⟩, k3⟩, k4⟩ := h2
    have k2 : X.env.scope.names.lookup x = some .local := by rw [ok.sc]; exact beq_iff_eq.mp k2
    cases e with
    | comp2 ee tt it t2 it2 own =>
      obtain ⟨b1, b2, b3, b4, b5, b6, b7, b8, b9, b10, b11⟩ := comp2_bits (σ0 := σ0) (ev_ok ee) (evi_ok it) (evi_ok it2) ok h3
      have hp := ps_setLc2 (spos := pos) (pos := lp) (py := py) (vs1 := tgS t2) ok.calm ok.nd n1 k2 (sw_true (scope_fun ok k1) k2 k3 k4) b1 b2 (by rw [b11]; exact b10) b3 (fun _ _ _ _ _ => pts_nil) b4 b5 (fun _ _ _ _ _ => pts_nil) b6 b7 b8
      rw [b11] at hp
      exact ss_setF hp fun σ H Q q => lc2_reads b9 b10 q
    | _ => simp [chkE] at h3
  · cases h2
  · cases h2
  · rename_i z1 z4 z2 z3
    refine ss_set (ps_set ok.nd n1 n2 (ev_ok e X σ0 G W c _ ok h3).pe (sw_false (comp_no h3 z1 z4 z2 z3)) n3) fun σ H Q q => q
end Er

set_option Elab.async false
set_option linter.all false
set_option maxRecDepth 100000
set_option maxHeartbeats 4000000
/-! C20: a checked statement does what it says: the rest. -/
namespace Er
open PySem L2
variable [Wd]
theorem sole_false {t v : Expr} {n : Nat} {env : Env} (h : noComp v = true) : swapsWithSole [t] v n env = pure false := by
  unfold swapsWithSole
  exact sw_false h
theorem oks_setO {i : Nat} {e : Ex} : SPart (.setO i e) := by
  intro X σ0 G W c fr wf st ok h
  unfold chkS at h
  split at h <;> try contradiction
  rename_i i' e' x py v pos hk
  cases hk
  simp only [Bool.and_eq_true] at h
  obtain ⟨⟨⟨h1, hf⟩, h2⟩, h3⟩ := h
  obtain ⟨n1, n2, n3⟩ := store_of ok h1
  split at h2
  · rename_i elt tg iter ifs scope lp
    simp only [Bool.and_eq_true, Bool.not_eq_true'] at h2
    obtain ⟨⟨⟨k1, k2⟩, k3⟩, k4⟩ := h2
    have k2 : X.env.scope.names.lookup x = some .local := by rw [ok.sc]; exact beq_iff_eq.mp k2
    cases e with
    | comp ee tt it cn own =>
      obtain ⟨b1, b2, b3, b4, b5, b6, b7, b8⟩ := comp_bits (σ0 := σ0) (ev_ok ee) (evi_ok it) (ev_ok cn) ok h3
      have hp := ps_setLc (spos := pos) (pos := lp) (py := py) ok.calm ok.nd n1 k2 (sw_true (scope_fun ok k1) k2 k3 k4) b1 b2 b3 b4 b5 b6
      rw [b8] at hp
      exact ss_setO hp fun σ H Q q => lc_reads b7 q
    | _ => simp [chkE] at h3
  · cases h2
  · cases h2
  · cases h2
  · rename_i z1 z4 z2 z3
    exact ss_setO (ps_set ok.nd n1 n2 ((ev_ok e X σ0 G W c _ ok h3).pf hf) (sw_false (comp_no h3 z1 (fun elt tg iter tg2 iter2 scope pos e => z4 _ _ _ _ _ e) z2 z3)) n3) fun σ H Q q => q
theorem notNames : ∀ {es : List Expr} {env : Env} {line : Nat}, es.any (notLoc env.scope) = true → ((es.filterMap fun
    | .Name id pos => if env.kindOf id == some .local && pos.line == line then some id else none
    | _ => none).length != es.length) = true := by
  intro es env line
  have le : ∀ es : List Expr, (es.filterMap fun
    | .Name id pos => if env.kindOf id == some .local && pos.line == line then some id else none
    | _ => none).length ≤ es.length := fun es => List.length_filterMap_le _ _
  induction es with
  | nil => intro h; simp at h
  | cons e es ih =>
    intro h
    have l := le es
    rw [List.any_cons, Bool.or_eq_true] at h
    rw [bne_iff_ne]
    rcases h with h | h
    · cases e with
      | Name x p =>
        have h2 : ¬ env.kindOf x = some .local := by
          have h : (!(env.scope.names.lookup x == some .local)) = true := h
          intro z
          have z : env.scope.names.lookup x = some .local := z
          rw [z] at h
          cases h
        have h3 : (env.kindOf x == some .local) = false := beq_eq_false_iff_ne.mpr h2
        rw [List.filterMap_cons]
        simp only [h3, Bool.false_and, Bool.false_eq_true, if_false, List.length_cons]
        omega
      | _ => simp only [List.filterMap_cons, List.length_cons]; omega
    · have := bne_iff_ne.mp (ih h)
      rw [List.filterMap_cons]
      split <;> (simp only [List.length_cons]; omega)
theorem swapped_none {es vs : List Expr} {k k2 : Nat} {p p2 : Pos} {env : Env} (h : (vs.all (foldedForSure 8) || es.any (notLoc env.scope) || !(es.length == 2 || es.length == 3) || vs.length != es.length) = true) :
    swappedStores [.Tuple es k p] (.Tuple vs k2 p2) env = pure none := by
  unfold swappedStores
  dsimp only
  split
  · rfl
  · split
    · rfl
    · rename_i h1 h2
      split
      · rfl
      · rename_i h3
        split
        · rfl
        · exfalso
          rename_i h4
          simp only [Bool.or_eq_true] at h
          rcases h with ((h | h) | h) | h
          · exact h4 h
          · exact h3 ((Bool.or_eq_true _ _).mpr (.inl (notNames h)))
          · exact h1 (by rw [h]; rfl)
          · exact h1 (by rw [h, Bool.or_true]; rfl)
theorem oks_asg {t : Tg} {e : Ex} : SPart (.asg t e) := by
  intro X σ0 G W c fr wf st ok h
  unfold chkS at h
  split at h <;> try contradiction
  rename_i l e' es kt pt v pos hk
  cases hk
  simp only [Bool.and_eq_true] at h
  obtain ⟨⟨h1, h2⟩, h3⟩ := h
  obtain ⟨g1, g2, g3⟩ := tgs_ok (σ0 := σ0) ok l es h2
  have g := sg_tup (pos := pt) (k := kt) ok.calm g1 g2 g3
  have nc : noComp v = true := by
    cases v <;> first | rfl | cases h1
  have hw : swappedStores [.Tuple es kt pt] v X.env = pure none := by
    cases v <;> first | rfl | exact swapped_none (ok.sc ▸ h1)
  exact ss_asg (ev_ok e X σ0 G W c _ ok h3).pe g (sole_false nc) hw rfl
theorem oks_putIx {i : Nat} {k e : Ex} : SPart (.putIx i k e) := by
  intro X σ0 G W c fr wf st ok h
  unfold chkS at h
  split at h <;> try contradiction
  rename_i i' k' e' x po y sp v pos hk
  cases hk
  simp only [Bool.and_eq_true] at h
  obtain ⟨⟨⟨⟨h1, h2⟩, h3⟩, h4⟩, h5⟩ := h
  obtain ⟨n1, n2, n3, n4⟩ := slot_of ok h1
  have nc : noComp v = true := by
    cases v <;> first | rfl | cases h5
  refine ss_putIx (o := v) n1 n2 n3 n4 (ev_ok e X σ0 G W c _ ok h4).pe (ev_ok k X σ0 G W c _ ok h3).pe fun he ho hk hs => ps_asg he (pg_sub ho hk hs fun v => ?_) (sole_false nc) rfl rfl
  revert h2
  cases y <;> intro h2 <;> first | rfl | cases h2
theorem oks_putD {i : Nat} {k e : Ex} : SPart (.putD i k e) := by
  intro X σ0 G W c fr wf st ok h
  unfold chkS at h
  split at h <;> try contradiction
  rename_i i' k' e' x po y sp v pos hk
  cases hk
  simp only [Bool.and_eq_true] at h
  obtain ⟨⟨⟨⟨h1, h2⟩, h3⟩, h4⟩, h5⟩ := h
  obtain ⟨n1, n2, n3, n4⟩ := slot_of ok h1
  have nc : noComp v = true := by
    cases v <;> first | rfl | cases h5
  refine ss_putD ok.wd ok.units n1 n2 n3 n4 (ev_ok e X σ0 G W c _ ok h4).pe (ev_ok k X σ0 G W c _ ok h3).pe fun he ho hk hs => ps_asg he (pg_sub ho hk hs fun v => ?_) (sole_false nc) rfl rfl
  revert h2
  cases y <;> intro h2 <;> first | rfl | cases h2
theorem oks_app {i : Nat} {e : Ex} : SPart (.app i e) := by
  intro X σ0 G W c fr wf st ok h
  unfold chkS at h
  split at h <;> try contradiction
  rename_i i' e' x po m ap v cp pos hk
  cases hk
  simp only [Bool.and_eq_true] at h
  obtain ⟨⟨⟨⟨h1, h2⟩, h3⟩, h4⟩, h5⟩ := h
  obtain ⟨n1, n2, n3, n4⟩ := slot_of ok h1
  have e1 := beq_iff_eq.mp h2
  subst e1
  have st1 : starEach [v] X.env = [(false, eval v X.env)] := okE_star h4
  refine ss_app (te := fun _ _ _ => False) n1 n2 n3 n4 (ev_ok e X σ0 G W c _ ok h5).pe fun ho he => ps_expr (pe_bm PySem.F.plainAttrs_list PySem.F.slot_list_append PySem.F.type_list_append mt_append ho (pa_cons he pa_nil (okE_star h4)) rfl ?_ h3 (okE_star h4) rfl) rfl
  rw [st1]
  rfl
theorem oks_ex {e : Ex} : SPart (.ex e) := by
  intro X σ0 G W c fr wf st ok h
  unfold chkS at h
  split at h <;> try contradiction
  rename_i e' v pos hk
  cases hk
  simp only [Bool.and_eq_true] at h
  have nc : noComp v = true := by
    have h := h.1
    cases v <;> first | rfl | cases h
  exact ss_ex (ev_ok e X σ0 G W c _ ok h.2).pe (sw_false nc)
theorem oks_ret {e : Ex} : SPart (.ret e) := by
  intro X σ0 G W c fr wf st ok h
  unfold chkS at h
  split at h <;> try contradiction
  rename_i e' v pos hk
  cases hk
  simp only [Bool.and_eq_true, Bool.not_eq_true'] at h
  obtain ⟨h1, h2⟩ := h
  subst h1
  exact ss_ret (ev_ok e X σ0 G W c _ ok h2).pe
theorem oks_retO {e : Ex} : SPart (.retO e) := by
  intro X σ0 G W c fr wf st ok h
  unfold chkS at h
  split at h <;> try contradiction
  rename_i e' v pos hk
  cases hk
  simp only [Bool.and_eq_true] at h
  obtain ⟨⟨h1, h2⟩, h3⟩ := h
  subst h1
  exact ss_retO ((ev_ok e X σ0 G W c _ ok h3).pf h2)
theorem oks_ite {t : Ex} {a b : Sms} (ia : SParts a) (ib : SParts b) : SPart (.ite t a b) := by
  intro X σ0 G W c fr wf st ok h
  unfold chkS at h
  split at h <;> try contradiction
  rename_i t' a' b' x y z pos hk
  cases hk
  simp only [Bool.and_eq_true] at h
  obtain ⟨⟨⟨h1, h2⟩, h3⟩, h4⟩ := h
  exact ss_ite ((ev_ok t X σ0 G W c _ ok h2).pt h1) (ia X σ0 G W c fr wf _ ok h3) (ib X σ0 G W c fr wf _ ok h4)
theorem oks_for {t : Tg} {it : It} {b : Sms} (ib : SParts b) : SPart (.for_ t it b) := by
  intro X σ0 G W c fr wf st ok h
  unfold chkS at h
  split at h <;> try contradiction
  rename_i t' it' b' tg iter body pos hk
  cases hk
  simp only [Bool.and_eq_true] at h
  obtain ⟨⟨⟨h1, h2⟩, h3⟩, h4⟩ := h
  exact ss_for ok.own ok.calm (evi_ok it X σ0 G W c _ _ ok h2) (tg_ok ok t tg h3) (ib X σ0 G W c fr wf _ ok h4) (okE_fs h1)
theorem oks_while {t : Ex} {b : Sms} (ib : SParts b) : SPart (.while_ t b) := by
  intro X σ0 G W c fr wf st ok h
  unfold chkS at h
  split at h <;> try contradiction
  rename_i t' b' x body pos hk
  cases hk
  simp only [Bool.and_eq_true] at h
  obtain ⟨⟨h1, h2⟩, h3⟩ := h
  exact ss_while (n := wf) ok.own ((ev_ok t X σ0 G W c _ ok h2).pt h1) (ib X σ0 G W c fr wf _ ok h3)
theorem okss_nil : SParts .nil := by
  intro X σ0 G W c fr wf st ok h
  cases st with
  | nil => exact ss_nil
  | cons => simp [chkSs] at h
theorem okss_cons {s : Sm} {l : Sms} (is : SPart s) (il : SParts l) : SParts (.cons s l) := by
  intro X σ0 G W c fr wf st ok h
  unfold chkSs at h
  split at h <;> try contradiction
  · rename_i i l' hk
    cases hk
    exact ss_gfz (il X σ0 G W c fr wf _ ok h)
  · rename_i s' l' x xs _ hk
    cases hk
    simp only [Bool.and_eq_true] at h
    exact ss_cons (is X σ0 G W c fr wf _ ok h.1) (il X σ0 G W c fr wf _ ok h.2)
mutual
theorem exec_ok : ∀ s : Sm, SPart s
  | .set i e => oks_set
  | .setO i e => oks_setO
  | .asg t e => oks_asg
  | .par l es => oks_par
  | .putIx i k e => oks_putIx
  | .app i e => oks_app
  | .ex e => oks_ex
  | .ret e => oks_ret
  | .retO e => oks_retO
  | .ite c a b => oks_ite (execs_ok a) (execs_ok b)
  | .for_ t it b => oks_for (execs_ok b)
  | .while_ c b => oks_while (execs_ok b)
  | .raise cls => fun X σ0 G W c fr wf st ok h => by unfold chkS at h; cases h
  | .dead => okS_dead
  | .putD i k e => oks_putD
  | .setL i => fun X σ0 G W c fr wf st ok h => by unfold chkS at h; cases h
  | .putL i k => fun X σ0 G W c fr wf st ok h => by unfold chkS at h; cases h
  | .appL i k e => fun X σ0 G W c fr wf st ok h => by unfold chkS at h; cases h
  | .gfz i => fun X σ0 G W c fr wf st ok h => by unfold chkS at h; cases h
theorem execs_ok : ∀ l : Sms, SParts l
  | .nil => okss_nil
  | .cons s l => okss_cons (exec_ok s) (execs_ok l)
end
end Er

set_option Elab.async false
set_option linter.all false
set_option maxRecDepth 100000
set_option maxHeartbeats 4000000
/-! C21: defs. -/
namespace Er
open PySem L2
theorem look_zip {β : Type} : ∀ {ps : List Str} {us : List β} {n : Str}, us.length = ps.length → n ∈ ps → ((ps.zip us).lookup n).isNone = false
  | p :: ps, u :: us, n, h, m => by
    rw [List.zip_cons_cons, List.lookup_cons]
    cases e : (n == p) with
    | true => rfl
    | false =>
      rcases List.mem_cons.mp m with z | z
      · rw [z, beq_self_eq_true] at e
        cases e
      · exact look_zip (by simpa using h) z
  | [], _, _, _, m => by simp at m
  | _ :: _, [], _, h, _ => by simp at h
theorem fm_congr {α β : Type} {f g : α → Option β} : ∀ {l : List α}, (∀ x ∈ l, f x = g x) → l.filterMap f = l.filterMap g
  | [], _ => rfl
  | x :: l, h => by
    rw [List.filterMap_cons, List.filterMap_cons, h x (by simp), fm_congr fun y hy => h y (by simp [hy])]
theorem map_zip {β : Type} : ∀ {ps : List Str} {us : List β}, ps.Nodup → us.length = ps.length → ps.filterMap (fun n => ((ps.zip us).lookup n).map fun x => (n, x)) = ps.zip us
  | [], _, _, _ => by simp
  | _ :: _, [], _, h => by simp at h
  | p :: ps, u :: us, nd, h => by
    obtain ⟨n1, n2⟩ := List.nodup_cons.mp nd
    have ih := map_zip n2 (us := us) (by simpa using h)
    rw [List.zip_cons_cons, List.filterMap_cons, List.lookup_cons, beq_self_eq_true]
    show (p, u) :: _ = _
    congr 1
    refine Eq.trans (fm_congr fun n hn => ?_) ih
    have hne : (n == p) = false := beq_eq_false_iff_ne.mpr fun z => n1 (by rw [← z]; exact hn)
    rw [List.lookup_cons, hne]
theorem bind_plain {x qual : Str} {as : List Arg} {body : List Stmt} {sc : Scope} {kV doc pm cdv ct : Value} {an : Option Addr} {us : List Value} (nd : (as.map (·.arg)).Nodup) (hl : us.length = as.length) :
    bindArgs (PySem.W.fnOf x qual ⟨[], as, none, [], [], none, []⟩ body sc .none kV doc pm an cdv ct) ⟨us, []⟩ = pure ((as.map (·.arg)).zip us) := by
  have hl2 : us.length = (as.map (·.arg)).length := by simpa using hl
  have miss : (List.filter (fun n => (((as.map (·.arg)).zip us).lookup n).isNone) (as.map (·.arg))) = [] := by
    rw [List.filter_eq_nil_iff]
    intro n hn z
    rw [look_zip hl2 hn] at z
    cases z
  unfold bindArgs
  have e1 : (seqItems? (Value.none) : Sem (Option (Array Value))) = pure none := rfl
  simp only [PySem.W.fnOf, e1, pure_bind, List.map_nil, List.nil_append, List.length_map, hl, Option.getD_none, Array.size_empty, Nat.zero_sub, List.drop_nil, List.length_nil, Nat.sub_zero, List.take_length]
  simp only [forIn, List.forIn'_nil, pure_bind, gt_iff_lt, Nat.lt_irrefl, decide_false, Bool.false_and, Bool.false_eq_true, if_false]
  simp only [List.drop_nil, List.length_nil, Nat.sub_zero, Array.toList_empty, ← List.length_map (f := fun x : Arg => x.arg), List.take_length, List.drop_length, miss, List.isEmpty_nil, Bool.not_true, Bool.false_eq_true, if_false, List.zip_nil_left]
  simp only [List.zip_nil_right, List.forIn'_nil, pure_bind, List.append_nil]
  rw [map_zip nd hl2]

/-- the arguments of a def: no more is followed -/
def plainArgs (a : Arguments) : Option (List Arg) := match a with
  | ⟨[], as, none, [], [], none, []⟩ => some as
  | _ => none
theorem plainArgs_eq {a : Arguments} {as : List Arg} (h : plainArgs a = some as) : a = ⟨[], as, none, [], [], none, []⟩ := by
  unfold plainArgs at h
  split at h
  · cases h
    rfl
  · cases h
/-- the check of a def against the program's text -/
def scB (N P : List Str) (sc : Scope) : Bool :=
  (sc.kind == .function) && !sc.isCoroutine && !sc.isGenerator && decide N.Nodup && (N.take P.length == P) && P.all (fun x => sc.names.lookup x == some .local || sc.names.lookup x == some .cell) && sc.names.all (fun y => !(y.2 == .free))
theorem scB_ok {N P : List Str} {sc : Scope} (h : scB N P sc = true) : FnScope N P sc := by
  unfold scB at h
  simp only [Bool.and_eq_true, Bool.not_eq_true', decide_eq_true_eq, List.all_eq_true, Bool.or_eq_true, beq_iff_eq, beq_eq_false_iff_ne] at h
  obtain ⟨⟨⟨⟨⟨⟨h1, h2⟩, h3⟩, h4⟩, h5⟩, h6⟩, h7⟩ := h
  exact ⟨h1, h2, h3, h4, h5, h6, h7⟩
def namesOf (d : Df) : List Str := d.names.map Str.ofString
def chkDf (G : Gc) (d : Df) (st : Stmt) : Bool := match plainArgs (defArgs st) with
  | some as => as.length == d.np && scB (namesOf d) (as.map (·.arg)) (defScope st) && chkSs G ⟨namesOf d, defScope st, fun _ => true⟩ d.fresh d.body (defBody st)
  | none => false
section
variable (Pt : Nat → Option Df) (L : List (Nat × Nat)) (gn : Nat → Option String) (gv : Nat → PD) (cv : String → Value) (wf : Nat)
def gc : Gc := ⟨fun f => (L.lookup f).bind fun _ => (Pt f).map (·.name), fun f => match Pt f with
  | some d => d.fresh
  | none => false, gn⟩
def gi (n : Nat) : Gi := { gc Pt L gn with mt := mtOf Pt, cl := run Pt gv wf n, gv := gv, cv := cv }
end
/-! the arguments behind a body -/
theorem outArgs_len : ∀ {as : List SV} {ρ : Rho} {bs : List SV}, outArgs as ρ = some bs → bs.length = as.length
  | [], ρ, bs, h => by cases h; rfl
  | .b _ :: as, .b y :: ρ, bs, h => by
    simp only [outArgs, Option.map_eq_some_iff] at h
    obtain ⟨cs, e, rfl⟩ := h
    simp [outArgs_len e]
  | .d x :: as, y :: ρ, bs, h => by
    simp only [outArgs, Option.map_eq_some_iff] at h
    obtain ⟨cs, e, rfl⟩ := h
    simp [outArgs_len e]
  | .un :: _, _, _, h => by cases h
  | .o _ :: _, _, _, h => by cases h
  | .d _ :: _, [], _, h => by cases h
  | .b _ :: _, [], _, h => by cases h
  | .b _ :: _, .un :: _, _, h => by cases h
  | .b _ :: _, .d _ :: _, _, h => by cases h
  | .b _ :: _, .o _ :: _, _, h => by cases h
theorem outArgs_get : ∀ {as : List SV} {ρ : Rho} {bs : List SV} {i : Nat} {y : SV}, outArgs as ρ = some bs → bs[i]? = some y → (∃ x, y = .d x ∧ as[i]? = some (.d x)) ∨ ∃ ob ob', y = .b ob ∧ as[i]? = some (.b ob') ∧ ρ[i]? = some (.b ob)
  | [], ρ, bs, i, y, h, e => by cases h; simp at e
  | .b x :: as, .b z :: ρ, bs, i, y, h, e => by
    simp only [outArgs, Option.map_eq_some_iff] at h
    obtain ⟨cs, e1, rfl⟩ := h
    cases i with
    | zero =>
      simp at e
      subst e
      exact .inr ⟨z, x, rfl, rfl, rfl⟩
    | succ i => exact outArgs_get (i := i) e1 (by simpa using e)
  | .d x :: as, z :: ρ, bs, i, y, h, e => by
    simp only [outArgs, Option.map_eq_some_iff] at h
    obtain ⟨cs, e1, rfl⟩ := h
    cases i with
    | zero =>
      simp at e
      subst e
      exact .inl ⟨x, rfl, rfl⟩
    | succ i =>
      rcases outArgs_get (i := i) e1 (by simpa using e) with h | ⟨ob, ob', h1, h2, h3⟩
      · obtain ⟨x', h1, h2⟩ := h
        exact .inl ⟨x', h1, by simpa using h2⟩
      · exact .inr ⟨ob, ob', h1, by simpa using h2, by simpa using h3⟩
  | .un :: _, _, _, _, _, h, _ => by cases h
  | .o _ :: _, _, _, _, _, h, _ => by cases h
  | .d _ :: _, [], _, _, _, h, _ => by cases h
  | .b _ :: _, [], _, _, _, h, _ => by cases h
  | .b _ :: _, .un :: _, _, _, _, h, _ => by cases h
  | .b _ :: _, .d _ :: _, _, _, _, h, _ => by cases h
  | .b _ :: _, .o _ :: _, _, _, _, h, _ => by cases h
section
variable [Wd]
variable {K : Frag} {H H' : Hp} {S S' : Addr → Prop} {vs : List V} {args bs : List SV} {N : List Str} {σ : L2.St} {ρ : Rho}
theorem start_len (hl : vs.length ≤ N.length) : (L2.start N vs).length = N.length := by
  unfold L2.start
  rw [List.length_append, List.length_map, List.length_replicate]
  omega
/-- at a def's entry -/
theorem Rep.enter (r : Rep K (vs.map some) (vs.map some) args H S) (hl : vs.length ≤ N.length) : Rep K (L2.start N vs) (L2.start N vs) (args ++ List.replicate (N.length - args.length) .un) H S := by
  obtain ⟨W, rw', eS⟩ := r
  have la : vs.length = args.length := by
    have := rw'.len
    rwa [List.length_map] at this
  have get : ∀ (i : Nat) (y : SV), (args ++ List.replicate (N.length - args.length) SV.un)[i]? = some y → args[i]? = some y ∨ y = .un := fun i y h => by
    rw [List.getElem?_append] at h
    split at h
    · exact .inl h
    · rw [List.getElem?_replicate] at h
      split at h
      · cases h
        exact .inr rfl
      · cases h
  have obj : ∀ i, objAt (args ++ List.replicate (N.length - args.length) SV.un) i = objAt args i := fun i => by
    unfold objAt
    by_cases hi : i < args.length
    · rw [List.getElem?_append_left hi]
    · rw [List.getElem?_append_right (by omega), List.getElem?_eq_none (l := args) (by omega), List.getElem?_replicate]
      by_cases h : i - args.length < N.length - args.length
      · rw [if_pos h]
      · rw [if_neg h]
  have sg : ∀ (i : Nat) (v : V), (vs.map some)[i]? = some (some v) → (L2.start N vs)[i]? = some (some v) := fun i v h => by
    unfold L2.start
    rw [List.getElem?_append_left (by exact (List.getElem?_eq_some_iff.mp h).1)]
    exact h
  refine ⟨W, ⟨?_, fun i x h => ?_, fun i x h => ?_, fun i x h => rfl, fun i j b hij h1 h2 => ?_⟩, fun b => (eS b).trans ?_⟩
  · rw [start_len hl, List.length_append, List.length_replicate]
    omega
  · rcases get i _ h with h | h
    · obtain ⟨v, h1, h2⟩ := rw'.dat i x h
      exact ⟨v, sg i v h1, h2⟩
    · cases h
  · rw [obj] at h
    obtain ⟨a, h1, h2⟩ := rw'.obj i x h
    exact ⟨a, sg i _ h1, h2⟩
  · rw [obj] at h1 h2
    exact rw'.sep i j b hij h1 h2
  · unfold SOf
    simp only [obj]
/-- at a def's end -/
theorem Rep.leave (r : Rep K (vs.map some) (vs.map some) args H S) (r' : Rep K (L2.start N vs) σ ρ H' S') (k : Keeps H H') (e : outArgs args ρ = some bs) : ∃ S2, Rep K (vs.map some) (vs.map some) bs H' S2 ∧ ∀ b, S2 b → S' b := by
  obtain ⟨W, rw', eS⟩ := r
  obtain ⟨W', rw2, eS2⟩ := r'
  have la : vs.length = args.length := by
    have := rw'.len
    rwa [List.length_map] at this
  have lb := outArgs_len e
  have obj : ∀ i ob, objAt bs i = some ob → bs[i]? = some (.b ob) ∧ ρ[i]? = some (.b ob) ∧ i < vs.length := fun i ob h => by
    have hx : ∃ y, bs[i]? = some y := by
      unfold objAt at h
      split at h
      · exact ⟨_, by assumption⟩
      · exact ⟨_, by assumption⟩
      · cases h
    obtain ⟨y, hy⟩ := hx
    have hi : i < vs.length := by
      have := (List.getElem?_eq_some_iff.mp hy).1
      omega
    rcases outArgs_get e hy with ⟨x, rfl, _⟩ | ⟨ob1, ob2, rfl, _, h3⟩
    · unfold objAt at h
      rw [hy] at h
      cases h
    · unfold objAt at h
      rw [hy] at h
      cases h
      exact ⟨hy, h3, hi⟩
  have ofb : ∀ {i ob}, ρ[i]? = some (SV.b ob) → objAt ρ i = some ob := fun {i ob} h => by
    unfold objAt
    rw [h]
  have sg : ∀ (i : Nat), i < vs.length → (L2.start N vs)[i]? = (vs.map some)[i]? := fun i h => by
    unfold L2.start
    rw [List.getElem?_append_left (by rw [List.length_map]; exact h)]
  refine ⟨SOf bs W', ⟨W', ⟨?_, fun i x h => ?_, fun i x h => ?_, fun i x h => rfl, fun i j b hij h1 h2 => ?_⟩, fun b => Iff.rfl⟩, fun b h => ?_⟩
  · rw [List.length_map, lb, la]
  · rcases outArgs_get e h with ⟨x', h1, h2⟩ | ⟨_, _, h1, _⟩
    · cases h1
      obtain ⟨v, h3, h4⟩ := rw'.dat i x h2
      exact ⟨v, h3, h4.mono k⟩
    · cases h1
  · obtain ⟨h1, h2, h3⟩ := obj i x h
    obtain ⟨a, h4, h5⟩ := rw2.obj i x (ofb h2)
    rw [rw2.bor i x h2, sg i h3] at h4
    exact ⟨a, h4, h5⟩
  · obtain ⟨o1, h1⟩ := Option.isSome_iff_exists.mp h1
    obtain ⟨o2, h2⟩ := Option.isSome_iff_exists.mp h2
    exact rw2.sep i j b hij (by rw [ofb (obj i o1 h1).2.1]; rfl) (by rw [ofb (obj j o2 h2).2.1]; rfl)
  · obtain ⟨i, h1, h2⟩ := h
    obtain ⟨o1, h1⟩ := Option.isSome_iff_exists.mp h1
    exact (eS2 b).mpr ⟨i, by rw [ofb (obj i o1 h1).2.1]; rfl, h2⟩
theorem RetOk.sub {fr : Bool} {S2 : Addr → Prop} {x : PD} {v : V} (h : RetOk K fr S H S' H' x v) (s : ∀ b, S2 b → S' b) : RetOk K fr S H S2 H' x v := by
  cases fr with
  | false => exact h
  | true =>
    match x, h with
    | .list l, h =>
      obtain ⟨p, xs, h1, h2, h3, h4, h5⟩ := h
      exact ⟨p, xs, h1, h2, h3, fun z => h4 (s p z), h5⟩
    | .dict l, h =>
      obtain ⟨p, h1, h2, h4, h5⟩ := h
      exact ⟨p, h1, h2, fun z => h4 (s p z), h5⟩
    | .none, h => exact h
    | .bool _, h => exact h
    | .int _, h => exact h
    | .str _, h => exact h
    | .tuple _, h => exact h
end
end Er

set_option Elab.async false
set_option linter.all false
set_option maxRecDepth 100000
set_option maxHeartbeats 4000000
/-! C22: all defs of a text, at all levels. -/
namespace Er
open PySem L2
section
variable {Pg : Program} {w : World} {K : Frag} {mg : Str → Option Value} {base : Heap} {Pt : Nat → Option Df} {L : List (Nat × Nat)} {top : Nat → Stmt} {gn : Nat → Option String} {gv : Nat → PD} {cv : String → Value} {wf : Nat}
/-- a def as it stands behind the top -/
structure DefAt (K : Frag) (mg : Str → Option Value) (d : Df) (st : Stmt) (a : Addr) (fd : FuncData) : Prop where
  fn : FunD K d.name d.name (defArgs st) (defBody st) (defScope st) [] [] a fd
  mgf : mg d.name = some (.ref a)
theorem chk_binds {d : Df} {st : Stmt} {a : Addr} {fd : FuncData} {G : Gc} (hd : DefAt K mg d st a fd) (hc : chkDf G d st = true) : ∃ ps : List Str, Binds K fd ps [] ∧ (∀ (s : Shared) (us : List Value), us.length = ps.length → BindsTo s fd ⟨us, []⟩ (ps.zip us)) ∧ ps.length = d.np ∧ FnScope (namesOf d) ps (defScope st) ∧
    (∀ as, plainArgs (defArgs st) = some as → ps = as.map (·.arg)) ∧ chkSs G ⟨namesOf d, defScope st, fun _ => true⟩ d.fresh d.body (defBody st) = true := by
  unfold chkDf at hc
  split at hc
  · rename_i as ha
    simp only [Bool.and_eq_true] at hc
    obtain ⟨⟨h1, h2⟩, h3⟩ := hc
    have S := scB_ok h2
    have nd : (as.map (·.arg)).Nodup := by
      rw [← S.pre]
      exact List.Sublist.nodup (List.take_sublist _ _) S.nd
    have ea := plainArgs_eq ha
    have F := hd.fn
    refine ⟨as.map (·.arg), F.bindsN fun kV doc pm an cdv ct us hl => ?_, F.bindsA fun kV doc pm an cdv ct us hl => ?_, ?_, S, fun as' e => ?_, h3⟩
    · rw [ea]
      exact bind_plain nd (by simpa using hl)
    · rw [ea]
      exact bind_plain nd (by simpa using hl)
    · rw [List.length_map]
      exact beq_iff_eq.mp h1
    · rw [ha] at e
      cases e
      rfl
  · cases hc
theorem mem_look : ∀ {L : List (Nat × Nat)} {f i : Nat}, L.lookup f = some i → (f, i) ∈ L
  | [], f, i, h => by cases h
  | (g, j) :: L, f, i, h => by
    rw [List.lookup_cons] at h
    cases e : (f == g) with
    | true =>
      rw [e] at h
      cases h
      rw [eq_of_beq e]
      exact List.mem_cons_self
    | false =>
      rw [e] at h
      exact List.mem_cons_of_mem _ (mem_look h)
theorem levels [Wd] (wd : w = Wd.w) (hc : ∀ fi ∈ L, ∃ d, Pt fi.1 = some d ∧ chkDf (gc Pt L gn) d (top fi.2) = true)
    (hF : ∀ fi ∈ L, ∀ d, Pt fi.1 = some d → ∃ a fd, DefAt K mg d (top fi.2) a fd)
    (hb : ∀ x ∈ bltns, mg (x : Str) = none) (hg : ∀ n x, gn n = some x → ∃ u v, mg (x : Str) = some u ∧ RelV v u ∧ ∀ H, RD K H (gv n) v) :
    ∀ n, ∀ fi ∈ L, ∀ d, Pt fi.1 = some d → ∀ a fd, DefAt K mg d (top fi.2) a fd → ∀ ps, (∀ as, plainArgs (defArgs (top fi.2)) = some as → ps = as.map (·.arg)) → FnOk Pg w K mg base (L2.CX Pg w) n a fd ps (spF K cv d.fresh (run Pt gv wf n fi.1)) := by
  intro n
  induction n with
  | zero =>
    intro fi hfi d hd a fd hat ps hps
    exact ⟨fun vs H Q E ⟨args, S, r, z⟩ => z.elim, fun A outer s H args us vs Q E hr e0 hb r ⟨args, S, r', z⟩ => z.elim⟩
  | succ n ih =>
    intro fi hfi d hd a fd hat ps hps
    obtain ⟨d', e', ck⟩ := hc fi hfi
    rw [hd] at e'
    cases e'
    obtain ⟨ps', bk, _, hnp, S, hps', cb⟩ := chk_binds hat ck
    have eps : ps = ps' := by
      cases e : plainArgs (defArgs (top fi.2)) with
      | none =>
        unfold chkDf at ck
        rw [e] at ck
        cases ck
      | some as => rw [hps as e, hps' as e]
    subst eps
    have run_eq : ∀ args, run Pt gv wf (n + 1) fi.1 args = if args.length = d.np then callDf (run Pt gv wf n) (mtOf Pt) gv wf d args else none := fun args => by
      unfold run
      rw [hd]
    have rep_len : ∀ {vs : List V} {args : List SV} {H : Hp} {S : Addr → Prop}, Rep K (vs.map some) (vs.map some) args H S → vs.length = args.length := fun ⟨W, rw', _⟩ => by
      have := rw'.len
      rwa [List.length_map] at this
    refine hat.fn.ok S (fun vs H Q E h => ?_) (fun cdv A outer s H vs Q E hr h => ?_)
    · obtain ⟨args, S', r, q⟩ := h
      rw [run_eq] at q
      split at q
      · exact q.elim
      · rename_i e
        split at e
        · rename_i hl
          rw [rep_len r, hl, hnp]
        · cases e
      · rename_i e
        split at e
        · rename_i hl
          rw [rep_len r, hl, hnp]
        · cases e
    · obtain ⟨args, S', r, q⟩ := h
      rw [run_eq] at q
      have hlen : args.length = d.np := by
        by_cases z : args.length = d.np
        · exact z
        · rw [if_neg z] at q
          exact q.elim
      rw [if_pos hlen] at q
      have hN : vs.length ≤ (namesOf d).length := by
        rw [rep_len r, hlen, ← hnp]
        have := congrArg List.length S.pre
        rw [List.length_take] at this
        omega
      have hN2 : (namesOf d).length = d.names.length := by
        unfold namesOf
        rw [List.length_map]
      let X : Cx := cxOf (L2.CX Pg w) Pg w K mg base (namesOf d) d.name (defScope (top fi.2)) a cdv A outer s H E
      have ok : XOk X ⟨namesOf d, defScope (top fi.2), fun _ => true⟩ (gi Pt L gn gv cv wf n) E :=
        { N := rfl
          nd := S.nd
          sc := rfl
          fn := rfl
          calm := rfl
          wd := wd
          units := by
            have := hr.un
            show (A.deeper _).units + 65 < cLine
            omega
          own := passes_of (K := fun e s'' => L2.CX Pg w outer H s E e s'') rfl
          tk := takes_of (E := E) rfl rfl rfl rfl
          blt := hb
          gvs := hg
          fns := fun f x hx => by
            have hx : ((L.lookup f).bind fun _ => (Pt f).map (·.name)) = some x := hx
            obtain ⟨i, hi, hx⟩ := Option.bind_eq_some_iff.mp hx
            obtain ⟨d2, hd2, rfl⟩ := Option.map_eq_some_iff.mp hx
            have m : (f, i) ∈ L := mem_look hi
            obtain ⟨a2, fd2, at2⟩ := hF (f, i) m d2 hd2
            obtain ⟨d3, e3, ck3⟩ := hc (f, i) m
            have e3 : Pt f = some d3 := e3
            rw [hd2] at e3
            cases e3
            obtain ⟨ps2, bk2, _, _, _, hps2, _⟩ := chk_binds at2 ck3
            have fr2 : (gc Pt L gn).fr f = d2.fresh := by
              show (match Pt f with
                | some d => d.fresh
                | none => false) = _
              rw [hd2]
            have z := ih (f, i) m d2 hd2 a2 fd2 at2 ps2 hps2
            rw [← fr2] at z
            exact ⟨a2, fd2, ps2, n, at2.mgf, at2.fn.kp, bk2, hr, z⟩ }
      refine ⟨_, execs_ok d.body X (L2.start (namesOf d) vs) (gi Pt L gn gv cv wf n) E _ d.fresh wf _ ok cb, ?_⟩
      refine ⟨args ++ List.replicate (d.names.length - args.length) .un, S', by rw [← hN2]; exact r.enter hN, ?_⟩
      unfold callDf at q
      show AftS K _ _ _ _ _ (execs (run Pt gv wf n) (mtOf Pt) gv wf d.body (args ++ List.replicate (d.names.length - args.length) .un)) _
      revert q
      cases execs (run Pt gv wf n) (mtOf Pt) gv wf d.body (args ++ List.replicate (d.names.length - args.length) .un) with
      | stuck => exact fun q => q
      | exc e ρ =>
        intro q
        dsimp only at q
        cases eo : outArgs args ρ with
        | none =>
          rw [eo] at q
          exact q.elim
        | some bs =>
          rw [eo] at q
          intro σ' S2 H' r2 st
          have kk : Keeps H H' := r.keeps st
          obtain ⟨S3, r3, sub⟩ := r.leave r2 kk eo
          exact q S3 H' r3 ⟨fun b o h1 h2 => st.keep b o h1 h2, fun b h => st.own b (sub b h)⟩
      | ok fl ρ =>
        cases fl with
        | next =>
          intro q
          dsimp only at q
          cases eo : outArgs args ρ with
          | none =>
            rw [eo] at q
            exact q.elim
          | some bs =>
            rw [eo] at q
            intro σ' S2 H' r2 st
            have kk : Keeps H H' := r.keeps st
            obtain ⟨S3, r3, sub⟩ := r.leave r2 kk eo
            refine q S3 H' r3 ⟨fun b o h1 h2 => st.keep b o h1 h2, fun b h => st.own b (sub b h)⟩ .non ?_
            cases d.fresh with
            | false => exact .none
            | true => exact .none
        | ret x =>
          intro q
          dsimp only at q
          cases eo : outArgs args ρ with
          | none =>
            rw [eo] at q
            exact q.elim
          | some bs =>
            rw [eo] at q
            intro σ' S2 H' r2 st v ro
            have kk : Keeps H H' := r.keeps st
            obtain ⟨S3, r3, sub⟩ := r.leave r2 kk eo
            exact q S3 H' r3 ⟨fun b o h1 h2 => st.keep b o h1 h2, fun b h => st.own b (sub b h)⟩ v (ro.sub sub)
end
end Er

set_option Elab.async false
set_option linter.all false
set_option maxRecDepth 100000
set_option maxHeartbeats 4000000
/-! C23: a law's end. -/
namespace Er
open PySem L2
/-! constants of the module -/
mutual
def pdB (K : Frag) : PD → Value → Bool
  | .none, .none => true
  | .bool b, .bool c => b == c
  | .int i, .int j _ => decide (i = j)
  | .str x, .str y _ => decide (x = y)
  | .tuple ds, .ref a => match K.lookup a with
    | some ⟨.type c, _, .seq its _, _⟩ => decide (c = "tuple") && decide (its.size ≤ sizeLine) && pdsB K ds its.toList
    | _ => false
  | _, _ => false
def pdsB (K : Frag) : List PD → List Value → Bool
  | [], [] => true
  | d :: ds, u :: us => pdB K d u && pdsB K ds us
  | _, _ => false
end
mutual
theorem pdB_ok [Wd] {K : Frag} : ∀ {d : PD} {u : Value}, pdB K d u = true → ∃ v, RelV v u ∧ ∀ H, RD K H d v
  | .none, u, h => by
    cases u <;> first | exact ⟨.non, rfl, fun _ => .none⟩ | cases h
  | .bool b, u, h => by
    cases u with
    | bool c =>
      have e : b = c := eq_of_beq (show (b == c) = true from h)
      subst e
      exact ⟨.bl b, rfl, fun _ => .bool b⟩
    | _ => cases h
  | .int i, u, h => by
    cases u with
    | int j t =>
      have e : i = j := of_decide_eq_true h
      subst e
      exact ⟨.int i, ⟨t, rfl⟩, fun _ => .int i⟩
    | _ => cases h
  | .str x, u, h => by
    cases u with
    | str y t =>
      have e : x = y := of_decide_eq_true h
      subst e
      exact ⟨.str x, ⟨t, rfl⟩, fun _ => .str x⟩
    | _ => cases h
  | .tuple ds, u, h => by
    cases u with
    | ref a =>
      have h : (match K.lookup a with
        | some ⟨.type c, _, .seq its _, _⟩ => decide (c = "tuple") && decide (its.size ≤ sizeLine) && pdsB K ds its.toList
        | _ => false) = true := h
      split at h
      · rename_i c od its n osl e
        simp only [Bool.and_eq_true, decide_eq_true_eq] at h
        obtain ⟨⟨rfl, h2⟩, h3⟩ := h
        obtain ⟨vs, h4, h5⟩ := pdsB_ok h3
        exact ⟨.ref a, rfl, fun H => .tup (.inr ⟨_, its, n, e, rfl, rfl, h2, h4⟩) (h5 H)⟩
      · cases h
    | _ => cases h
  | .list _, u, h => by cases u <;> cases h
  | .dict _, u, h => by cases u <;> cases h
theorem pdsB_ok [Wd] {K : Frag} : ∀ {ds : List PD} {us : List Value}, pdsB K ds us = true → ∃ vs, Vals vs us ∧ ∀ H, RDs K H ds vs
  | [], [], _ => ⟨[], .nil, fun _ => .nil⟩
  | [], _ :: _, h => by cases h
  | _ :: _, [], h => by cases h
  | d :: ds, u :: us, h => by
    have h : (pdB K d u && pdsB K ds us) = true := h
    simp only [Bool.and_eq_true] at h
    obtain ⟨v, h1, h2⟩ := pdB_ok h.1
    obtain ⟨vs, h3, h4⟩ := pdsB_ok h.2
    exact ⟨v :: vs, .cons h1 h3, fun H => .cons (h2 H) (h4 H)⟩
end
/-! what the head tells -/
abbrev AlE : Type := He.AlD × Bool
def obsE (n : Nat) (fa : List He.Fa) (fn : List He.DefD) (ex : Frag → Bool) (g : Addr → Option Obj) : AlE := (He.obsD fa fn (He.frG g (He.asD g n)), ex (He.frG g (He.asD g n)))
def hookE (n : Nat) (fa : List He.Fa) (fn : List He.DefD) (ex : Frag → Bool) : PySem.W.Hook where
  α := AlE
  obs := fun s => obsE n fa fn ex s.heap.get?
  val := fun _ => (He.valD fn, true)
  says := fun _ h => ∃ K : Frag, K.In h ∧ He.SaysD fa fn K ∧ ex K = true
  of := fun _ _ e => ⟨_, He.frG_in, congrArg (fun z : AlE => z.1) e, congrArg (fun z : AlE => z.2) e⟩
  keeps := fun _ _ _ ⟨K, hK, c⟩ k => ⟨K, PySem.W.Frag.In.keeps hK k, c⟩
theorem obsE_eq {n : Nat} {fa : List He.Fa} {fn : List He.DefD} {ex : Frag → Bool} {g : Addr → Option Obj} {s : Shared} (h : ∀ a, g a = s.heap.get? a) : obsE n fa fn ex g = (hookE n fa fn ex).obs s := by
  have e : g = s.heap.get? := funext h
  rw [e] <;> rfl
section
variable (Pt : Nat → Option Df) (L : List (Nat × Nat)) (top : Nat → Stmt) (Ct : Nat → Option (String × PD)) (Cn : List Nat)
def exC (K : Frag) : Bool := (Cn.all fun n => match Ct n with
  | some p => (match PySem.W.nsIn K mainGlobals p.1 with
    | some (some u) => pdB K p.2 u
    | _ => false)
  | none => false) && K.all fun p => !(p.2.cls == .type "list")
def gnOf (n : Nat) : Option String := if Cn.contains n then (Ct n).map (·.1) else none
def gvOf (n : Nat) : PD := match Ct n with
  | some p => p.2
  | none => .none
def fnL : List He.DefD := L.filterMap fun fi => (Pt fi.1).map fun d => ⟨(d.name, none), d.name, d.name, defArgs (top fi.2), defBody (top fi.2), defScope (top fi.2), [], []⟩
def faL : List He.Fa := (L.filterMap fun fi => (Pt fi.1).map fun d => He.Fa.glo d.name) ++ bltns.map fun x => He.Fa.free (Str.ofString x)
end
section
variable {Pg : Program} {w : World} {K : Frag} {mg : Str → Option Value} {base h : Heap} {Pt : Nat → Option Df} {L : List (Nat × Nat)} {top : Nat → Stmt} {Ct : Nat → Option (String × PD)} {Cn : List Nat} {wf : Nat}
theorem defs_of (X : K.In h) (G : h.Ns mainGlobals mg) (c : He.SaysD (faL Pt L) (fnL Pt L top) K) : ∀ fi ∈ L, ∀ d, Pt fi.1 = some d → ∃ a fd, DefAt K mg d (top fi.2) a fd := fun fi hfi d hd => by
  have m1 : (⟨(d.name, none), d.name, d.name, defArgs (top fi.2), defBody (top fi.2), defScope (top fi.2), [], []⟩ : He.DefD) ∈ fnL Pt L top := List.mem_filterMap.mpr ⟨fi, hfi, by rw [hd]; rfl⟩
  have m2 : He.Fa.glo d.name ∈ faL Pt L := List.mem_append_left _ (List.mem_filterMap.mpr ⟨fi, hfi, by rw [hd]; rfl⟩)
  obtain ⟨fd, F⟩ := c.defs m1
  exact ⟨_, fd, F, He.glo_ok X G (c.facts m2)⟩
theorem blts_of (X : K.In h) (G : h.Ns mainGlobals mg) (c : He.SaysD (faL Pt L) (fnL Pt L top) K) : ∀ x ∈ bltns, mg (x : Str) = none := fun x hx =>
  He.free_ok X G (c.facts (List.mem_append_right _ (List.mem_map.mpr ⟨x, hx, rfl⟩)))
theorem gvs_of [Wd] (X : K.In h) (G : h.Ns mainGlobals mg) (c : exC Ct Cn K = true) : ∀ n x, gnOf Ct Cn n = some x → ∃ u v, mg (x : Str) = some u ∧ RelV v u ∧ ∀ H, RD K H (gvOf Ct n) v := fun n x hx => by
  unfold gnOf at hx
  split at hx
  · rename_i hc
    obtain ⟨p, hp, rfl⟩ := Option.map_eq_some_iff.mp hx
    unfold exC at c
    rw [Bool.and_eq_true] at c
    have c1 := List.all_eq_true.mp c.1 n (List.contains_iff_mem.mp hc)
    rw [hp] at c1
    dsimp only at c1
    split at c1
    · rename_i u e
      obtain ⟨v, h1, h2⟩ := pdB_ok c1
      refine ⟨u, v, PySem.W.mg_of X G e, h1, fun H => ?_⟩
      unfold gvOf
      rw [hp]
      exact h2 H
    · cases c1
  · cases hx
theorem mem_lk {β : Type} : ∀ {L : List (Addr × β)} {f : Addr} {i : β}, L.lookup f = some i → (f, i) ∈ L
  | [], f, i, h => by cases h
  | (g, j) :: L, f, i, h => by
    rw [List.lookup_cons] at h
    cases e : (f == g) with
    | true =>
      rw [e] at h
      cases h
      rw [eq_of_beq e]
      exact List.mem_cons_self
    | false =>
      rw [e] at h
      exact List.mem_cons_of_mem _ (mem_lk h)
theorem noList (c : exC Ct Cn K = true) {a : Addr} {o : Obj} (e : K.lookup a = some o) : o.cls ≠ .type "list" := by
  unfold exC at c
  rw [Bool.and_eq_true] at c
  have m : (a, o) ∈ K := mem_lk e
  have := List.all_eq_true.mp c.2 _ m
  simpa using this
/-- the law, by its meaning -/
theorem walk_er {cv : String → Value} {l : PySem.W.OpenLaw} {N f0 i0 : Nat} {d0 : Df} {q : Program} {loose : List Str} {XP : (Str → Option Value) → Heap → Prop} {d : DefRec} {x : Str}
    (hn : l.most = some 63) (hdf : d.params.defaults = []) (hr : Room N callerA)
    (hf0 : Pt f0 = some d0) (hL : (f0, i0) ∈ L) (hfr : d0.fresh = false) (hx : (plainArgs (defArgs (top i0))).map (fun as => as.map (·.arg)) = some [x]) (hdn : d.name = d0.name)
    (hc : ∀ fi ∈ L, ∃ d, Pt fi.1 = some d ∧ chkDf (gc Pt L (gnOf Ct Cn)) d (top fi.2) = true)
    (law : ∀ ns : List Int, ns.length ≤ 63 → ∃ as, run Pt (gvOf Ct) wf N f0 [.d (.list (ns.map .int))] = some (.ret (.bool true), as)) :
    PySem.W.WalkO q loose XP (hookE 5 (faL Pt L) (fnL Pt L top) (exC Ct Cn)).says l.row.toRowW d [] (fun f vs => PySem.call f vs) := by
  refine Att.attach_call hn hdf fun w s₀ s₁ mg mb fa o pm cd doc a vs ns G Y ho hd hcd hmg hobj hints hlen hg => ?_
  obtain ⟨K, KX, c, ce⟩ := Y
  letI : Wd := ⟨w⟩
  have G0 : s₁.heap.Ns mainGlobals mg := G.T.g
  have hF := defs_of KX G0 c
  obtain ⟨a0, fd, hat⟩ := hF (f0, i0) hL d0 hf0
  have e0 := hat.mgf
  rw [← hdn, hmg] at e0
  cases e0
  obtain ⟨d1, e1, ck⟩ := hc (f0, i0) hL
  have e1 : Pt f0 = some d1 := e1
  rw [hf0] at e1
  cases e1
  obtain ⟨ps, _, hb, hnp, S, hps, _⟩ := chk_binds hat ck
  have eps : ps = [x] := by
    obtain ⟨as, h1, h2⟩ := Option.map_eq_some_iff.mp hx
    rw [hps as h1, h2]
  subst eps
  have F : ∀ base : Heap, K.In base → base.Ns mainGlobals mg → FnOk l.prog w K mg base (L2.CX l.prog w) N fa fd [x] (spF K cv d0.fresh (run Pt (gvOf Ct) wf N f0)) := fun base _ _ =>
    levels rfl hc hF (blts_of KX G0 c) (gvs_of KX G0 ce) N (f0, i0) hL d0 hf0 fa fd hat [x] hps
  refine law_call KX G.T.g G.T.b G.T.builtins G.T.nolimit hg hobj hints (Nat.le_trans hlen (by decide)) hr F (fun s u => hb s [u] rfl) (fun H hO hS => ?_) fun H e s' z => ?_
  · obtain ⟨as, hr⟩ := law ns hlen
    have rd : RD K H (.list (ns.map .int)) (.ref a) := by
      rcases hS with (h | ⟨o, h⟩) | ⟨o, its, n, h, h2, _⟩
      · rcases hO a with z | ⟨o, xs, z⟩
        · rw [z] at h; cases h
        · rw [z] at h; cases h
      · refine .lst h ?_
        have : ∀ ns : List Int, RDs K H (ns.map .int) (ns.map V.int) := fun ns => by
          induction ns with
          | nil => exact .nil
          | cons n ns ih => exact .cons (.int n) ih
        exact this ns
      · exact (noList ce h h2).elim
    refine ⟨[.d (.list (ns.map .int))], fun _ => False, ⟨fun _ => [], ⟨rfl, fun i y h => ?_, fun i y h => ?_, fun i y h => ?_, fun i j b _ _ _ h _ => ?_⟩, fun b => ⟨fun h => h.elim, fun ⟨i, _, h⟩ => by cases h⟩⟩, ?_⟩
    · cases i with
      | zero =>
        cases h
        exact ⟨.ref a, rfl, rd⟩
      | succ i => simp at h
    · cases i with
      | zero => cases h
      | succ i => simp [objAt] at h
    · cases i with
      | zero => cases h
      | succ i => simp at h
    · cases h
    · rw [hr, hfr]
      intro S' H' r st v ro
      have ro : RD K H' (.bool true) v := ro
      exact ro.bool_eq
  · obtain ⟨_, _, _, _, _, _, _, _, _, _, _, _, z⟩ := z
    exact z.elim
end
end Er

set_option Elab.async false
set_option linter.all false
set_option maxRecDepth 100000
set_option maxHeartbeats 4000000
/-! E1: the meaning, as equations that simp uses. -/
namespace Er
open PySem L2
def ifB {α : Type} (o : Option Bool) (t f : R α) : R α := match o with
  | some true => t
  | some false => f
  | none => .stuck
@[simp] theorem ifB_t {α : Type} {t f : R α} : ifB (some true) t f = t := rfl
@[simp] theorem ifB_f {α : Type} {t f : R α} : ifB (some false) t f = f := rfl
@[simp] theorem ifB_n {α : Type} {t f : R α} : ifB none t f = .stuck := rfl
@[simp] theorem bind_ifB {α β : Type} {o : Option Bool} {t f : R α} {k : α → Rho → R β} : (ifB o t f).bind k = ifB o (t.bind k) (f.bind k) := by
  rcases o with _ | _ | _ <;> rfl
@[simp] theorem ifB_same {α : Type} {b : Bool} {t : R α} : ifB (some b) t t = t := by cases b <;> rfl
@[simp] theorem ifB_not {α : Type} {b : Bool} {t f : R α} : ifB (some (!b)) t f = ifB (some b) f t := by cases b <;> rfl
@[simp] theorem ifB_and {b y : Bool} {ρ : Rho} : ifB (some b) (.ok (OV.d (.bool y)) ρ) (.ok (OV.d (.bool false)) ρ) = .ok (OV.d (.bool (b && y))) ρ := by cases b <;> rfl
@[simp] theorem ifB_or {b y : Bool} {ρ : Rho} : ifB (some b) (.ok (OV.d (.bool true)) ρ) (.ok (OV.d (.bool y)) ρ) = .ok (OV.d (.bool (b || y))) ρ := by cases b <;> rfl
@[simp] theorem ifB_int {b : Bool} {x y : Int} {ρ : Rho} : ifB (some b) (.ok (OV.d (.int x)) ρ) (.ok (OV.d (.int y)) ρ) = .ok (OV.d (.int (if b = true then x else y))) ρ := by cases b <;> rfl
def getV (x : Option SV) (ρ : Rho) : R OV := match x with
  | some (.d x) => .ok (.d x) ρ
  | _ => .stuck
@[simp] theorem getV_d {x : PD} {ρ : Rho} : getV (some (.d x)) ρ = .ok (.d x) ρ := rfl
def obj1 (x : Option SV) : Option OB := match x with
  | some (.o x) => some x
  | some (.b x) => some x
  | _ => none
@[simp] theorem obj1_o {x : OB} : obj1 (some (.o x)) = some x := rfl
@[simp] theorem obj1_b {x : OB} : obj1 (some (.b x)) = some x := rfl
@[simp] theorem obj1_d {x : PD} : obj1 (some (.d x)) = none := rfl
@[simp] theorem obj1_u : obj1 (some .un) = none := rfl
@[simp] theorem obj1_n : obj1 none = none := rfl
theorem objAt_eq {ρ : Rho} {i : Nat} : objAt ρ i = obj1 ρ[i]? := rfl
def getS (x : Option OB) (i : Nat) (ρ : Rho) : R OV := match x with
  | some _ => .ok (.s i) ρ
  | none => .stuck
@[simp] theorem getS_s {x : OB} {i : Nat} {ρ : Rho} : getS (some x) i ρ = .ok (.s i) ρ := rfl
def frz1 (x : Option SV) (i : Nat) (ρ : Rho) : R OV := match x with
  | some (.o ob) => .ok (.d ob.toD) (ρ.set i (.d ob.toD))
  | _ => .stuck
@[simp] theorem frz1_o {x : OB} {i : Nat} {ρ : Rho} : frz1 (some (.o x)) i ρ = .ok (.d x.toD) (ρ.set i (.d x.toD)) := rfl
@[simp] theorem toD_lst {l : List PD} : OB.toD (.lst l) = .list l := rfl
@[simp] theorem toD_dct {l : List (PD × PD)} : OB.toD (.dct l) = .dict l := rfl
@[simp] theorem get_d {x : PD} {ρ : Rho} : OV.get ρ (.d x) = some x := rfl
@[simp] theorem rd_lst {l : List PD} : OB.rd (.lst l) = some (.list l) := rfl
@[simp] theorem rd_dct {l : List (PD × PD)} : OB.rd (.dct l) = some (.dict l) := rfl
theorem get_s {i : Nat} {ρ : Rho} : OV.get ρ (.s i) = (obj1 ρ[i]?).bind OB.rd := rfl
def two {α : Type} (x y : Option PD) (g : PD → PD → R α) : R α := match x, y with
  | some x, some y => g x y
  | _, _ => .stuck
@[simp] theorem two_s {α : Type} {x y : PD} {g : PD → PD → R α} : two (some x) (some y) g = g x y := rfl
@[simp] theorem ofO_s {α : Type} {x : α} {ρ : Rho} : ofO (some x) ρ = .ok x ρ := rfl
@[simp] theorem esc_d {x : PD} {ρ : Rho} : esc (.d x) ρ = .ok x ρ := rfl
@[simp] theorem needB_b {b : Bool} : needB (.d (.bool b)) = some b := rfl
def getAll (ρ : Rho) : List OV → Option (List PD)
  | [] => some []
  | x :: l => (x.get ρ).bind fun y => (getAll ρ l).map (y :: ·)
theorem mapM_getAll {ρ : Rho} : ∀ l : List OV, l.mapM (OV.get ρ) = getAll ρ l
  | [] => rfl
  | x :: l => by
    rw [List.mapM_cons, getAll, ← mapM_getAll l]
    cases x.get ρ <;> cases l.mapM (OV.get ρ) <;> rfl
@[simp] theorem getAll_nil {ρ : Rho} : getAll ρ [] = some [] := rfl
@[simp] theorem getAll_cons {ρ : Rho} {x : OV} {l : List OV} : getAll ρ (x :: l) = (x.get ρ).bind fun y => (getAll ρ l).map (y :: ·) := rfl
def biK (b : Bi) (x : Option (List PD)) (ρ : Rho) : R OV := match x with
  | some ys => ofO ((biD b ys).map .d) ρ
  | none => .stuck
@[simp] theorem biK_s {b : Bi} {ys : List PD} {ρ : Rho} : biK b (some ys) ρ = ofO ((biD b ys).map .d) ρ := rfl
def out1 (out : Out) (x : Option Rho) : R OV := match x with
  | none => .stuck
  | some ρ => match out with
    | .ret x => .ok (.d x) ρ
    | .exc e => .exc e ρ
@[simp] theorem out1_ret {x : PD} {ρ : Rho} : out1 (.ret x) (some ρ) = .ok (.d x) ρ := rfl
@[simp] theorem out1_exc {x : Exc} {ρ : Rho} : out1 (.exc x) (some ρ) = .exc x ρ := rfl
def out0 (xs : List OV) (ρ : Rho) (x : Option (Out × List SV)) : R OV := match x with
  | none => .stuck
  | some (out, as) => out1 out (backArgs xs as ρ)
@[simp] theorem out0_s {xs : List OV} {ρ : Rho} {out : Out} {as : List SV} : out0 xs ρ (some (out, as)) = out1 out (backArgs xs as ρ) := rfl
def call0 (g : List SV → Option (Out × List SV)) (ms : List Bool) (xs : List OV) (ρ : Rho) : R OV := if distinctS xs = true then out0 xs ρ ((argsOf ms xs ρ).bind g) else .stuck
@[simp] theorem argsOf_nil {ρ : Rho} : argsOf [] [] ρ = some [] := rfl
@[simp] theorem argsOf_d {ρ : Rho} {y : PD} {ms : List Bool} {xs : List OV} : argsOf (false :: ms) (.d y :: xs) ρ = (argsOf ms xs ρ).map (.d y :: ·) := rfl
@[simp] theorem argsOf_s {ρ : Rho} {i : Nat} {ms : List Bool} {xs : List OV} : argsOf (true :: ms) (.s i :: xs) ρ = (obj1 ρ[i]?).bind fun ob => (argsOf ms xs ρ).map (.b ob :: ·) := rfl
@[simp] theorem backArgs_nil {ρ : Rho} : backArgs [] [] ρ = some ρ := rfl
@[simp] theorem backArgs_d {ρ : Rho} {x y : PD} {xs : List OV} {ys : List SV} : backArgs (.d x :: xs) (.d y :: ys) ρ = backArgs xs ys ρ := rfl
def put1 (x : Option SV) (i : Nat) (y : OB) (ρ : Rho) : Option Rho := match x with
  | some (.o _) => some (ρ.set i (.o y))
  | some (.b _) => some (ρ.set i (.b y))
  | _ => none
@[simp] theorem put1_o {x y : OB} {i : Nat} {ρ : Rho} : put1 (some (.o x)) i y ρ = some (ρ.set i (.o y)) := rfl
@[simp] theorem put1_b {x y : OB} {i : Nat} {ρ : Rho} : put1 (some (.b x)) i y ρ = some (ρ.set i (.b y)) := rfl
@[simp] theorem backArgs_s {ρ : Rho} {i : Nat} {ob : OB} {xs : List OV} {ys : List SV} : backArgs (.s i :: xs) (.b ob :: ys) ρ = (put1 ρ[i]? i ob ρ).bind (backArgs xs ys) := by
  show (putObj ρ i ob).bind _ = _
  congr 1
@[simp] theorem distinctS_nil : distinctS [] = true := rfl
@[simp] theorem distinctS_d {x : PD} {xs : List OV} : distinctS (.d x :: xs) = distinctS xs := rfl
@[simp] theorem distinctS_s {i : Nat} {xs : List OV} : distinctS (.s i :: xs) = ((slotIx i xs).isNone && distinctS xs) := rfl
@[simp] theorem slotIx_nil {i : Nat} : slotIx i [] = none := rfl
@[simp] theorem slotIx_d {i : Nat} {x : PD} {xs : List OV} : slotIx i (.d x :: xs) = (slotIx i xs).map (· + 1) := rfl
@[simp] theorem slotIx_s {i j : Nat} {xs : List OV} : slotIx i (.s j :: xs) = if j = i then some 0 else (slotIx i xs).map (· + 1) := rfl
def stor (x : Option SV) : Bool := match x with
  | some (.b _) => false
  | some _ => true
  | none => false
@[simp] theorem stor_d {x : PD} : stor (some (.d x)) = true := rfl
@[simp] theorem stor_o {x : OB} : stor (some (.o x)) = true := rfl
@[simp] theorem stor_u : stor (some .un) = true := rfl
theorem put_eq {ρ : Rho} {i : Nat} {x : SV} : put ρ i x = if stor ρ[i]? = true then some (ρ.set i x) else none := by
  unfold put
  cases ρ[i]? with
  | none => rfl
  | some y => cases y <;> rfl
def setR (i : Nat) (x : SV) (ρ : Rho) : R Flow := if stor ρ[i]? = true then .ok .next (ρ.set i x) else .stuck
theorem setR_eq {ρ : Rho} {i : Nat} {x : SV} : (match put ρ i x with
    | some ρ => R.ok Flow.next ρ
    | none => .stuck) = setR i x ρ := by
  rw [put_eq, setR]
  cases stor ρ[i]? <;> rfl
def setO1 (i : Nat) (x : Option OB) (ρ : Rho) : R Flow := match x with
  | some ob => setR i (.o ob) ρ
  | none => .stuck
@[simp] theorem setO1_s {i : Nat} {x : OB} {ρ : Rho} : setO1 i (some x) ρ = setR i (.o x) ρ := rfl
@[simp] theorem obOf_l {l : List PD} : obOf (.list l) = some (.lst l) := rfl
@[simp] theorem obOf_dc {l : List (PD × PD)} : obOf (.dict l) = some (.dct l) := rfl
def some1 (x : Option Rho) : R Flow := match x with
  | some ρ => .ok .next ρ
  | none => .stuck
@[simp] theorem some1_s {ρ : Rho} : some1 (some ρ) = .ok .next ρ := rfl
def flowK (f : Flow) (k : Rho → R Flow) (ρ : Rho) : R Flow := match f with
  | .next => k ρ
  | .ret x => .ok (.ret x) ρ
@[simp] theorem flowK_n {k : Rho → R Flow} {ρ : Rho} : flowK .next k ρ = k ρ := rfl
@[simp] theorem flowK_r {k : Rho → R Flow} {x : PD} {ρ : Rho} : flowK (.ret x) k ρ = .ok (.ret x) ρ := rfl
section
variable {cl : Call} {mt : Nat → List Bool} {gv : Nat → PD} {wf : Nat} {ρ : Rho}
@[simp] theorem ev_c {x : PD} : ev cl mt gv (.c x) ρ = .ok (.d x) ρ := rfl
@[simp] theorem ev_g {n : Nat} : ev cl mt gv (.g n) ρ = .ok (.d (gv n)) ρ := rfl
@[simp] theorem ev_v {i : Nat} : ev cl mt gv (.v i) ρ = getV ρ[i]? ρ := rfl
@[simp] theorem ev_s {i : Nat} : ev cl mt gv (.s i) ρ = getS (obj1 ρ[i]?) i ρ := rfl
@[simp] theorem ev_fz {i : Nat} : ev cl mt gv (.fz i) ρ = frz1 ρ[i]? i ρ := rfl
@[simp] theorem ev_bin {o : BOp} {a b : Ex} : ev cl mt gv (.bin o a b) ρ = (ev cl mt gv a ρ).bind fun x ρ => (ev cl mt gv b ρ).bind fun y ρ => two (x.get ρ) (y.get ρ) fun x y => ofO ((binD o x y).map .d) ρ := rfl
def neg1 (x : OV) (ρ : Rho) : R OV := match x with
  | .d (.int i) => .ok (.d (.int (-i))) ρ
  | _ => .stuck
@[simp] theorem neg1_i {i : Int} : neg1 (.d (.int i)) ρ = .ok (.d (.int (-i))) ρ := rfl
@[simp] theorem ev_neg {a : Ex} : ev cl mt gv (.neg a) ρ = (ev cl mt gv a ρ).bind neg1 := rfl
def not1 (x : OV) (ρ : Rho) : R OV := match needB x with
  | some b => .ok (.d (.bool (!b))) ρ
  | none => .stuck
@[simp] theorem not1_b {b : Bool} : not1 (.d (.bool b)) ρ = .ok (.d (.bool (!b))) ρ := rfl
@[simp] theorem ev_not {a : Ex} : ev cl mt gv (.not a) ρ = (ev cl mt gv a ρ).bind not1 := rfl
theorem m3 {α : Type} {o : Option Bool} {t f : R α} : (match o with
    | some true => t
    | some false => f
    | none => .stuck) = ifB o t f := rfl
@[simp] theorem ev_and {a b : Ex} : ev cl mt gv (.and a b) ρ = (ev cl mt gv a ρ).bind fun x ρ => ifB (needB x) (ev cl mt gv b ρ) (.ok (.d (.bool false)) ρ) := rfl
@[simp] theorem ev_or {a b : Ex} : ev cl mt gv (.or a b) ρ = (ev cl mt gv a ρ).bind fun x ρ => ifB (needB x) (.ok (.d (.bool true)) ρ) (ev cl mt gv b ρ) := rfl
@[simp] theorem ev_ite {c a b : Ex} : ev cl mt gv (.ite c a b) ρ = (ev cl mt gv c ρ).bind fun x ρ => ifB (needB x) (ev cl mt gv a ρ) (ev cl mt gv b ρ) := rfl
@[simp] theorem ev_cmp {o : COp} {a b : Ex} : ev cl mt gv (.cmp o a b) ρ = (ev cl mt gv a ρ).bind fun x ρ => (ev cl mt gv b ρ).bind fun y ρ => two (x.get ρ) (y.get ρ) fun x y => ofO ((cmpD o x y).map fun b => OV.d (.bool b)) ρ := rfl
@[simp] theorem ev_chain {o1 o2 : COp} {a b c : Ex} : ev cl mt gv (.chain o1 o2 a b c) ρ = (ev cl mt gv a ρ).bind fun x ρ => (ev cl mt gv b ρ).bind fun y ρ => two (α := OV) (x.get ρ) (y.get ρ) fun x' y' => ifB (cmpD o1 x' y')
    ((ev cl mt gv c ρ).bind fun z ρ => two (y.get ρ) (z.get ρ) fun y z => ofO ((cmpD o2 y z).map fun b => OV.d (.bool b)) ρ) (.ok (OV.d (.bool false)) ρ) := rfl
def isN1 (x : OV) (ρ : Rho) : R OV := match x with
  | .d .none => .ok (.d (.bool true)) ρ
  | .d _ => .ok (.d (.bool false)) ρ
  | .s _ => .stuck
def notN1 (x : OV) (ρ : Rho) : R OV := match x with
  | .d .none => .ok (.d (.bool false)) ρ
  | .d _ => .ok (.d (.bool true)) ρ
  | .s _ => .stuck
def isNone (x : PD) : Bool := match x with
  | .none => true
  | _ => false
@[simp] theorem isN1_d {x : PD} : isN1 (.d x) ρ = .ok (.d (.bool (isNone x))) ρ := by cases x <;> rfl
@[simp] theorem notN1_d {x : PD} : notN1 (.d x) ρ = .ok (.d (.bool (!isNone x))) ρ := by cases x <;> rfl
@[simp] theorem isNone_n : isNone .none = true := rfl
@[simp] theorem isNone_i {i : Int} : isNone (.int i) = false := rfl
@[simp] theorem isNone_b {i : Bool} : isNone (.bool i) = false := rfl
@[simp] theorem isNone_s {i : Str} : isNone (.str i) = false := rfl
@[simp] theorem isNone_t {i : List PD} : isNone (.tuple i) = false := rfl
@[simp] theorem isNone_l {i : List PD} : isNone (.list i) = false := rfl
@[simp] theorem isNone_d {i : List (PD × PD)} : isNone (.dict i) = false := rfl
@[simp] theorem ev_isN {a : Ex} : ev cl mt gv (.isN a) ρ = (ev cl mt gv a ρ).bind isN1 := rfl
@[simp] theorem ev_notN {a : Ex} : ev cl mt gv (.notN a) ρ = (ev cl mt gv a ρ).bind notN1 := rfl
@[simp] theorem ev_tup {l : Exs} : ev cl mt gv (.tup l) ρ = (evs cl mt gv l ρ).bind fun xs ρ => if xs.length ≤ lim then .ok (.d (.tuple xs)) ρ else .stuck := rfl
@[simp] theorem ev_lst {l : Exs} : ev cl mt gv (.lst l) ρ = (evs cl mt gv l ρ).bind fun xs ρ => if xs.length ≤ lim then .ok (.d (.list xs)) ρ else .stuck := rfl
@[simp] theorem ev_idx {a b : Ex} : ev cl mt gv (.idx a b) ρ = (ev cl mt gv a ρ).bind fun x ρ => (ev cl mt gv b ρ).bind fun y ρ => two (x.get ρ) (y.get ρ) fun x y => ofO ((idxD x y).map .d) ρ := rfl
def slc1 (x : Option PD) (lo hi : Option Int) (ρ : Rho) : R OV := match x with
  | some x => ofO ((slcD x lo hi).map .d) ρ
  | none => .stuck
@[simp] theorem slc1_s {x : PD} {lo hi : Option Int} : slc1 (some x) lo hi ρ = ofO ((slcD x lo hi).map .d) ρ := rfl
def bndR (p : Bool) (r : R OV) (ρ : Rho) : R (Option Int) := (if p = true then r else .ok (OV.d .none) ρ).bind fun y ρ => ofO (bndO p y) ρ
@[simp] theorem bndR_f {r : R OV} : bndR false r ρ = .ok none ρ := rfl
@[simp] theorem bndR_t {r : R OV} : bndR true r ρ = r.bind fun y ρ => ofO (bndO true y) ρ := rfl
@[simp] theorem bndO_i {i : Int} : bndO true (.d (.int i)) = some (some i) := rfl
@[simp] theorem ev_slc {p1 p2 : Bool} {a lo hi : Ex} : ev cl mt gv (.slc p1 p2 a lo hi) ρ = (ev cl mt gv a ρ).bind fun x ρ => (bndR p1 (ev cl mt gv lo ρ) ρ).bind fun lo ρ => (bndR p2 (ev cl mt gv hi ρ) ρ).bind fun hi ρ => slc1 (x.get ρ) lo hi ρ := rfl
@[simp] theorem ev_call {f : Nat} {l : Exs} : ev cl mt gv (.call f l) ρ = (evo cl mt gv l ρ).bind fun xs ρ => call0 (cl f) (mt f) xs ρ := by
  show R.bind _ _ = R.bind _ _
  congr 1
  funext xs ρ
  unfold call0 out0 out1
  split
  · cases argsOf (mt f) xs ρ with
    | none => rfl
    | some as =>
      show _ = (match cl f as with
        | none => R.stuck
        | some (out, as) => match backArgs xs as ρ with
          | none => .stuck
          | some ρ => match out with
            | .ret x => R.ok (OV.d x) ρ
            | .exc e => R.exc e ρ)
      rfl
  · rfl
@[simp] theorem call0_t {g : List SV → Option (Out × List SV)} {ms : List Bool} {xs : List OV} : call0 g ms xs ρ = if distinctS xs = true then out0 xs ρ ((argsOf ms xs ρ).bind g) else .stuck := rfl
@[simp] theorem ev_bi {b : Bi} {l : Exs} : ev cl mt gv (.bi b l) ρ = (evo cl mt gv l ρ).bind fun xs ρ => biK b (getAll ρ xs) ρ := by
  show R.bind _ _ = R.bind _ _
  congr 1
  funext xs ρ
  rw [← mapM_getAll]
  rfl
def isi1 (x : Option PD) (ts : List Ty) (ρ : Rho) : R OV := match x with
  | some x => .ok (.d (.bool (ts.any (isTy x)))) ρ
  | none => .stuck
@[simp] theorem isi1_s {x : PD} {ts : List Ty} : isi1 (some x) ts ρ = .ok (.d (.bool (ts.any (isTy x)))) ρ := rfl
@[simp] theorem ev_isi {a : Ex} {ts : List Ty} : ev cl mt gv (.isi a ts) ρ = (ev cl mt gv a ρ).bind fun x ρ => isi1 (x.get ρ) ts ρ := rfl
def pick1 (ks : List Str) (xs : List PD) (y : OV) (ρ : Rho) : R OV := match y with
  | .d (.str y) => ofO ((pickD ks xs y).map .d) ρ
  | _ => .stuck
@[simp] theorem pick1_s {ks : List Str} {xs : List PD} {y : Str} : pick1 ks xs (.d (.str y)) ρ = ofO ((pickD ks xs y).map .d) ρ := rfl
@[simp] theorem ev_pick {ks : List Str} {l : Exs} {k : Ex} : ev cl mt gv (.pick ks l k) ρ = (evs cl mt gv l ρ).bind fun xs ρ => (ev cl mt gv k ρ).bind fun y ρ => pick1 ks xs y ρ := rfl
def fin1 (own : List Nat) (ρ : Rho) (r : R (List PD)) : R OV := match r with
  | .ok ys ρ' => if ys.length ≤ lim then .ok (.d (.list ys)) (backR ρ ρ' own) else .stuck
  | _ => .stuck
@[simp] theorem fin1_ok {own : List Nat} {ρ' : Rho} {ys : List PD} : fin1 own ρ (.ok ys ρ') = if ys.length ≤ lim then .ok (.d (.list ys)) (backR ρ ρ' own) else .stuck := rfl
theorem ev_comp {e : Ex} {t : Tg} {it : It} {c : Ex} {own : List Nat} : ev cl mt gv (.comp e t it c own) ρ = (evIt cl mt gv it ρ).bind fun xs ρ => fin1 own ρ (loopC t own (ev cl mt gv c) (ev cl mt gv e) xs ρ) := rfl
@[simp] theorem evs_nil : evs cl mt gv .nil ρ = .ok [] ρ := rfl
@[simp] theorem evs_cons {a : Ex} {l : Exs} : evs cl mt gv (.cons a l) ρ = (ev cl mt gv a ρ).bind fun x ρ => (esc x ρ).bind fun x ρ => (evs cl mt gv l ρ).bind fun xs ρ => .ok (x :: xs) ρ := rfl
@[simp] theorem evo_nil : evo cl mt gv .nil ρ = .ok [] ρ := rfl
@[simp] theorem evo_cons {a : Ex} {l : Exs} : evo cl mt gv (.cons a l) ρ = (ev cl mt gv a ρ).bind fun x ρ => (evo cl mt gv l ρ).bind fun xs ρ => .ok (x :: xs) ρ := rfl
def seq1 (x : OV) (ρ : Rho) : R (List PD) := match x with
  | .d (.tuple l) => .ok l ρ
  | .d (.list l) => .ok l ρ
  | _ => .stuck
@[simp] theorem seq1_t {l : List PD} : seq1 (.d (.tuple l)) ρ = .ok l ρ := rfl
@[simp] theorem seq1_l {l : List PD} : seq1 (.d (.list l)) ρ = .ok l ρ := rfl
@[simp] theorem evIt_tup {a : Ex} : evIt cl mt gv (.tup a) ρ = (ev cl mt gv a ρ).bind seq1 := rfl
def rng1 (x : OV) (ρ : Rho) : R (List PD) := match x with
  | .d (.int i) => if small62 i = true then .ok (rangeL 0 i) ρ else .stuck
  | _ => .stuck
@[simp] theorem rng1_i {i : Int} : rng1 (.d (.int i)) ρ = if small62 i = true then .ok (rangeL 0 i) ρ else .stuck := rfl
@[simp] theorem evIt_range1 {a : Ex} : evIt cl mt gv (.range1 a) ρ = (ev cl mt gv a ρ).bind rng1 := rfl
def rng2 (x y : OV) (ρ : Rho) : R (List PD) := match x, y with
  | .d (.int i), .d (.int j) => if small62 i = true ∧ small62 j = true then .ok (rangeL i j) ρ else .stuck
  | _, _ => .stuck
@[simp] theorem rng2_i {i j : Int} : rng2 (.d (.int i)) (.d (.int j)) ρ = if small62 i = true ∧ small62 j = true then .ok (rangeL i j) ρ else .stuck := rfl
@[simp] theorem evIt_range2 {a b : Ex} : evIt cl mt gv (.range2 a b) ρ = (ev cl mt gv a ρ).bind fun x ρ => (ev cl mt gv b ρ).bind fun y ρ => rng2 x y ρ := rfl
def zip1 (x y : OV) (ρ : Rho) : R (List PD) := match x, y with
  | .d (.tuple xs), .d (.tuple ys) => .ok (zipL xs ys) ρ
  | .d (.list xs), .d (.list ys) => .ok (zipL xs ys) ρ
  | _, _ => .stuck
@[simp] theorem zip1_t {x y : List PD} : zip1 (.d (.tuple x)) (.d (.tuple y)) ρ = .ok (zipL x y) ρ := rfl
@[simp] theorem zip1_l {x y : List PD} : zip1 (.d (.list x)) (.d (.list y)) ρ = .ok (zipL x y) ρ := rfl
@[simp] theorem evIt_zip {a b : Ex} : evIt cl mt gv (.zip a b) ρ = (ev cl mt gv a ρ).bind fun x ρ => (ev cl mt gv b ρ).bind fun y ρ => zip1 x y ρ := rfl
def enum1 (x : OV) (ρ : Rho) : R (List PD) := match x with
  | .d (.tuple l) => .ok (enumL 0 l) ρ
  | _ => .stuck
@[simp] theorem enum1_t {x : List PD} : enum1 (.d (.tuple x)) ρ = .ok (enumL 0 x) ρ := rfl
@[simp] theorem evIt_enum {a : Ex} : evIt cl mt gv (.enum a) ρ = (ev cl mt gv a ρ).bind enum1 := rfl
@[simp] theorem ev_dct0 : ev cl mt gv .dct0 ρ = .ok (.d (.dict [])) ρ := rfl
@[simp] theorem ev_dct1 {k v : Ex} : ev cl mt gv (.dct1 k v) ρ = (ev cl mt gv k ρ).bind fun x ρ => (esc x ρ).bind fun x ρ => (ev cl mt gv v ρ).bind fun y ρ => (esc y ρ).bind fun y ρ => ofO ((if isTup x = true then dPut [] x y else none).map fun l => OV.d (.dict l)) ρ := rfl
def ifD (x : Option PD) (r : R OV) : R OV := match x with
  | some (.dict _) => r
  | _ => .stuck
@[simp] theorem ifD_d {l : List (PD × PD)} {r : R OV} : ifD (some (.dict l)) r = r := rfl
def dget1 (x y : Option PD) (ρ : Rho) : R OV := match x, y with
  | some (.dict l), some y => ofO ((dGet l y).map fun o => .d (o.getD .none)) ρ
  | _, _ => .stuck
@[simp] theorem dget1_d {l : List (PD × PD)} {y : PD} : dget1 (some (.dict l)) (some y) ρ = ofO ((dGet l y).map fun o => OV.d (o.getD .none)) ρ := rfl
@[simp] theorem ev_dget {a k : Ex} : ev cl mt gv (.dget a k) ρ = (ev cl mt gv a ρ).bind fun x ρ => ifD (x.get ρ) ((ev cl mt gv k ρ).bind fun y ρ => dget1 (x.get ρ) (y.get ρ) ρ) := rfl
def isE1 (neg : Bool) (x : Option PD) (ρ : Rho) : R OV := match x with
  | some (.dict l) => .ok (.d (.bool (l.isEmpty != neg))) ρ
  | _ => .stuck
@[simp] theorem isE1_d {neg : Bool} {l : List (PD × PD)} : isE1 neg (some (.dict l)) ρ = .ok (.d (.bool (l.isEmpty != neg))) ρ := rfl
@[simp] theorem ev_isE {neg : Bool} {a : Ex} : ev cl mt gv (.isE neg a) ρ = (ev cl mt gv a ρ).bind fun x ρ => isE1 neg (x.get ρ) ρ := rfl
def keys1 (x : OV) (ρ : Rho) : R (List PD) := match x with
  | .d (.dict l) => .ok (l.map (·.1)) ρ
  | _ => .stuck
@[simp] theorem keys1_d {l : List (PD × PD)} : keys1 (.d (.dict l)) ρ = .ok (l.map (·.1)) ρ := rfl
@[simp] theorem evIt_keys {a : Ex} : evIt cl mt gv (.keys a) ρ = (ev cl mt gv a ρ).bind keys1 := rfl
def items1 (x : OV) (ρ : Rho) : R (List PD) := match x with
  | .d (.dict l) => .ok (l.map fun p => .tuple [p.1, p.2]) ρ
  | _ => .stuck
@[simp] theorem items1_d {l : List (PD × PD)} : items1 (.d (.dict l)) ρ = .ok (l.map fun p => .tuple [p.1, p.2]) ρ := rfl
@[simp] theorem evIt_items {a : Ex} : evIt cl mt gv (.items a) ρ = (ev cl mt gv a ρ).bind items1 := rfl
/-! statements -/
@[simp] theorem ex_set {i : Nat} {e : Ex} : exec cl mt gv wf (.set i e) ρ = (ev cl mt gv e ρ).bind fun x ρ => (esc x ρ).bind fun x ρ => setR i (.d x) ρ := by
  show R.bind _ _ = R.bind _ _
  congr 1
  funext x ρ
  congr 1
  funext x ρ
  exact setR_eq
def setO0 (i : Nat) (x : OV) (ρ : Rho) : R Flow := match x with
  | .d x => setO1 i (obOf x) ρ
  | .s _ => .stuck
@[simp] theorem setO0_d {i : Nat} {x : PD} : setO0 i (.d x) ρ = setO1 i (obOf x) ρ := rfl
@[simp] theorem ex_setO {i : Nat} {e : Ex} : exec cl mt gv wf (.setO i e) ρ = (ev cl mt gv e ρ).bind fun x ρ => setO0 i x ρ := by
  show R.bind _ _ = R.bind _ _
  congr 1
  funext x ρ
  unfold setO0 setO1
  cases x with
  | s _ => rfl
  | d x =>
    cases x <;> first | rfl | exact setR_eq
@[simp] theorem ex_asg {t : Tg} {e : Ex} : exec cl mt gv wf (.asg t e) ρ = (ev cl mt gv e ρ).bind fun x ρ => (esc x ρ).bind fun x ρ => some1 (asgR t x ρ) := rfl
@[simp] theorem ex_par {l : List (Nat × Bool)} {es : Exs} : exec cl mt gv wf (.par l es) ρ = (evs cl mt gv es ρ).bind fun xs ρ => some1 (parR l xs ρ) := rfl
@[simp] theorem asgR_n {i : Nat} {x : PD} : asgR (.n i) x ρ = if stor ρ[i]? = true then some (ρ.set i (.d x)) else none := put_eq
@[simp] theorem asgR_t {ts : List Tg} {xs : List PD} : asgR (.t ts) (.tuple xs) ρ = asgRs ts xs ρ := rfl
@[simp] theorem asgRs_nil : asgRs [] [] ρ = some ρ := rfl
@[simp] theorem asgRs_cons {t : Tg} {ts : List Tg} {x : PD} {xs : List PD} : asgRs (t :: ts) (x :: xs) ρ = (asgR t x ρ).bind (asgRs ts xs) := rfl
@[simp] theorem parR_nil : parR [] [] ρ = some ρ := rfl
@[simp] theorem parR_d {i : Nat} {l : List (Nat × Bool)} {x : PD} {xs : List PD} : parR ((i, false) :: l) (x :: xs) ρ = (if stor ρ[i]? = true then some (ρ.set i (.d x)) else none).bind (parR l xs) := by
  show (put ρ i (.d x)).bind _ = _
  rw [put_eq]
@[simp] theorem parR_o {i : Nat} {l : List (Nat × Bool)} {x : List PD} {xs : List PD} : parR ((i, true) :: l) (.list x :: xs) ρ = (if stor ρ[i]? = true then some (ρ.set i (.o (.lst x))) else none).bind (parR l xs) := by
  show (put ρ i (.o (.lst x))).bind _ = _
  rw [put_eq]
def putIx0 (i : Nat) (x : PD) (y : OV) (ob : Option OB) (ρ : Rho) : R Flow := match ob, y with
  | some (.lst l), .d (.int j) => match ixN l.length j with
    | some n => some1 (put1 ρ[i]? i (.lst (l.set n x)) ρ)
    | none => .stuck
  | _, _ => .stuck
@[simp] theorem putIx0_l {i : Nat} {x : PD} {l : List PD} {j : Int} {n : Nat} (h : ixN l.length j = some n) : putIx0 i x (.d (.int j)) (some (.lst l)) ρ = some1 (put1 ρ[i]? i (.lst (l.set n x)) ρ) := by
  show (match ixN l.length j with
    | some n => some1 (put1 ρ[i]? i (.lst (l.set n x)) ρ)
    | none => .stuck) = _
  rw [h]
def thenS (x : Option OB) (r : R Flow) : R Flow := match x with
  | none => .stuck
  | some _ => r
@[simp] theorem thenS_s {x : OB} {r : R Flow} : thenS (some x) r = r := rfl
@[simp] theorem ex_putIx {i : Nat} {k e : Ex} : exec cl mt gv wf (.putIx i k e) ρ = (ev cl mt gv e ρ).bind fun x ρ => (esc x ρ).bind fun x ρ => thenS (obj1 ρ[i]?) ((ev cl mt gv k ρ).bind fun y ρ => putIx0 i x y (obj1 ρ[i]?) ρ) := by
  rfl
@[simp] theorem parR_q {i : Nat} {l : List (Nat × Bool)} {x : List (PD × PD)} {xs : List PD} : parR ((i, true) :: l) (.dict x :: xs) ρ = (if stor ρ[i]? = true then some (ρ.set i (.o (.dct x))) else none).bind (parR l xs) := by
  show (put ρ i (.o (.dct x))).bind _ = _
  rw [put_eq]
def putD1 (i : Nat) (l : Option (List (PD × PD))) (ρ : Rho) : R Flow := match l with
  | some l' => some1 (put1 ρ[i]? i (.dct l') ρ)
  | none => .stuck
@[simp] theorem putD1_s {i : Nat} {l : List (PD × PD)} : putD1 i (some l) ρ = some1 (put1 ρ[i]? i (.dct l) ρ) := rfl
def putD0 (i : Nat) (x y : PD) (ob : Option OB) (ρ : Rho) : R Flow := match ob with
  | some (.dct l) => putD1 i (dPut l y x) ρ
  | _ => .stuck
@[simp] theorem putD0_d {i : Nat} {x y : PD} {l : List (PD × PD)} : putD0 i x y (some (.dct l)) ρ = putD1 i (dPut l y x) ρ := rfl
@[simp] theorem ex_putD {i : Nat} {k e : Ex} : exec cl mt gv wf (.putD i k e) ρ = (ev cl mt gv e ρ).bind fun x ρ => (esc x ρ).bind fun x ρ => thenS (obj1 ρ[i]?) ((ev cl mt gv k ρ).bind fun y ρ => (esc y ρ).bind fun y ρ => putD0 i x y (obj1 ρ[i]?) ρ) := by
  rfl
def gfz1 (x : Option SV) (i : Nat) (ρ : Rho) : R Flow := match x with
  | some (.o ob) => .ok .next (ρ.set i (.d ob.toD))
  | _ => .stuck
@[simp] theorem gfz1_o {x : OB} {i : Nat} : gfz1 (some (.o x)) i ρ = .ok .next (ρ.set i (.d x.toD)) := rfl
@[simp] theorem ex_gfz {i : Nat} : exec cl mt gv wf (.gfz i) ρ = gfz1 ρ[i]? i ρ := rfl
def app0 (i : Nat) (x : PD) (ob : Option OB) (ρ : Rho) : R Flow := match ob with
  | some (.lst l) => if l.length < lim then some1 (put1 ρ[i]? i (.lst (l ++ [x])) ρ) else .stuck
  | _ => .stuck
@[simp] theorem app0_l {i : Nat} {x : PD} {l : List PD} : app0 i x (some (.lst l)) ρ = if l.length < lim then some1 (put1 ρ[i]? i (.lst (l ++ [x])) ρ) else .stuck := rfl
def thenL (x : Option OB) (r : R Flow) : R Flow := match x with
  | some (.lst _) => r
  | _ => .stuck
@[simp] theorem thenL_s {x : List PD} {r : R Flow} : thenL (some (.lst x)) r = r := rfl
@[simp] theorem ex_app {i : Nat} {e : Ex} : exec cl mt gv wf (.app i e) ρ = thenL (obj1 ρ[i]?) ((ev cl mt gv e ρ).bind fun x ρ => (esc x ρ).bind fun x ρ => app0 i x (obj1 ρ[i]?) ρ) := by
  rw [← objAt_eq]
  rfl
@[simp] theorem ex_ex {e : Ex} : exec cl mt gv wf (.ex e) ρ = (ev cl mt gv e ρ).bind fun _ ρ => .ok .next ρ := rfl
@[simp] theorem ex_ret {e : Ex} : exec cl mt gv wf (.ret e) ρ = (ev cl mt gv e ρ).bind fun x ρ => (esc x ρ).bind fun x ρ => .ok (.ret x) ρ := rfl
@[simp] theorem ex_retO {e : Ex} : exec cl mt gv wf (.retO e) ρ = (ev cl mt gv e ρ).bind fun x ρ => (esc x ρ).bind fun x ρ => .ok (.ret x) ρ := by
  show R.bind _ _ = R.bind _ _
  congr 1
  funext x ρ
  cases x <;> rfl
@[simp] theorem ex_ite {c : Ex} {a b : Sms} : exec cl mt gv wf (.ite c a b) ρ = (ev cl mt gv c ρ).bind fun x ρ => ifB (needB x) (execs cl mt gv wf a ρ) (execs cl mt gv wf b ρ) := rfl
theorem ex_for {t : Tg} {it : It} {b : Sms} : exec cl mt gv wf (.for_ t it b) ρ = (evIt cl mt gv it ρ).bind fun xs ρ => loopF t (execs cl mt gv wf b) xs ρ := rfl
theorem ex_while {c : Ex} {b : Sms} : exec cl mt gv wf (.while_ c b) ρ = loopW (ev cl mt gv c) (execs cl mt gv wf b) wf ρ := rfl
@[simp] theorem ex_dead : exec cl mt gv wf .dead ρ = .stuck := rfl
@[simp] theorem exs_nil : execs cl mt gv wf .nil ρ = .ok .next ρ := rfl
@[simp] theorem exs_cons {s : Sm} {l : Sms} : execs cl mt gv wf (.cons s l) ρ = (exec cl mt gv wf s ρ).bind fun f ρ => flowK f (execs cl mt gv wf l) ρ := rfl
def fin (as : List SV) (r : R Flow) : Option (Out × List SV) := match r with
  | .ok (.ret x) ρ => (outArgs as ρ).map fun as => (.ret x, as)
  | .ok .next ρ => (outArgs as ρ).map fun as => (.ret .none, as)
  | .exc e ρ => (outArgs as ρ).map fun as => (.exc e, as)
  | .stuck => none
@[simp] theorem fin_ret {as : List SV} {x : PD} : fin as (.ok (.ret x) ρ) = (outArgs as ρ).map fun as => (.ret x, as) := rfl
@[simp] theorem fin_next {as : List SV} : fin as (.ok .next ρ) = (outArgs as ρ).map fun as => (.ret .none, as) := rfl
@[simp] theorem fin_exc {as : List SV} {e : Exc} : fin as (.exc e ρ) = (outArgs as ρ).map fun as => (.exc e, as) := rfl
@[simp] theorem fin_stuck {as : List SV} : fin as .stuck = none := rfl
@[simp] theorem fin_ifB {as : List SV} {b : Bool} {t f : R Flow} : fin as (ifB (some b) t f) = if b = true then fin as t else fin as f := by cases b <;> rfl
@[simp] theorem outArgs_nil : outArgs [] ρ = some [] := rfl
@[simp] theorem outArgs_d {x : PD} {y : SV} {as : List SV} : outArgs (.d x :: as) (y :: ρ) = (outArgs as ρ).map (.d x :: ·) := rfl
@[simp] theorem outArgs_b {x y : OB} {as : List SV} : outArgs (.b x :: as) (.b y :: ρ) = (outArgs as ρ).map (.b y :: ·) := rfl
theorem call_fin {d : Df} {as : List SV} : callDf cl mt gv wf d as = fin as (execs cl mt gv wf d.body (as ++ List.replicate (d.names.length - as.length) .un)) := rfl
theorem run_of {Pt : Nat → Option Df} {n f : Nat} {as : List SV} {d : Df} (h : Pt f = some d) (hl : as.length = d.np) : run Pt gv wf (n + 1) f as = fin as (execs (run Pt gv wf n) (mtOf Pt) gv wf d.body (as ++ List.replicate (d.names.length - as.length) .un)) := by
  rw [← call_fin, run, h]
  simp [hl]
end
/-! values -/
theorem bi_sortedG {l : List PD} (h1 : srtOk l = true) (h5 : ∀ d ∈ l, d.canLay0 = true) (h2 : l.length ≤ lim) (h3 : ∀ d ∈ l, ∀ e ∈ l, PySem.W.alike d e = true) (h4 : ∀ d ∈ l, d.depth ≤ 8) :
    biD .sorted [.list l] = some (.list (l.mergeSort (PySem.W.dataLe false id))) := by
  show (if srtOk l = true ∧ (l.all fun d => d.canLay0) = true ∧ l.length ≤ lim ∧ (l.all fun d => l.all fun e => PySem.W.alike d e) = true ∧ (l.all fun d => decide (d.depth ≤ 8)) = true then some (PyData.list (l.mergeSort (PySem.W.dataLe false id))) else none) = _
  exact if_pos ⟨h1, List.all_eq_true.mpr h5, h2, List.all_eq_true.mpr fun d hd => List.all_eq_true.mpr fun e he => h3 d hd e he, List.all_eq_true.mpr fun d hd => decide_eq_true (h4 d hd)⟩
theorem bi_sorted {l : List PD} (h1 : (l.all (fun d => match d with | .tuple (_ :: _) => true | _ => false) || l.all isInt) = true) (h5 : ∀ d ∈ l, d.canLay0 = true) (h2 : l.length ≤ lim) (h3 : ∀ d ∈ l, ∀ e ∈ l, PySem.W.alike d e = true) (h4 : ∀ d ∈ l, d.depth ≤ 8) :
    biD .sorted [.list l] = some (.list (l.mergeSort (PySem.W.dataLe false id))) :=
  bi_sortedG (by unfold srtOk; exact (Bool.or_eq_true _ _).mpr (.inl h1)) h5 h2 h3 h4
section
variable {i j : Int} {x y : Str} {l r : List PD}
@[simp] theorem cmp_lt : cmpD .lt (.int i) (.int j) = some (decide (i < j)) := rfl
@[simp] theorem cmp_le : cmpD .le (.int i) (.int j) = some (decide (i ≤ j)) := rfl
@[simp] theorem cmp_gt : cmpD .gt (.int i) (.int j) = some (decide (j < i)) := rfl
@[simp] theorem cmp_ge : cmpD .ge (.int i) (.int j) = some (decide (j ≤ i)) := rfl
theorem sh_int : shaped (.int i) = true := by
  unfold shaped PySem.SeqAt.shaped
  rw [Bool.and_eq_true]
  exact ⟨rfl, decide_eq_true (Nat.zero_le _)⟩
@[simp] theorem cmp_eqI : cmpD .eq (.int i) (.int j) = some (decide (i = j)) := by
  show (if shaped (.int i) = true ∧ shaped (.int j) = true then some (PyData.eqv (.int i) (.int j)) else none) = _
  rw [if_pos ⟨sh_int, sh_int⟩]
  rfl
@[simp] theorem cmp_neI : cmpD .ne (.int i) (.int j) = some (!decide (i = j)) := by
  show (if shaped (.int i) = true ∧ shaped (.int j) = true then some (!PyData.eqv (.int i) (.int j)) else none) = _
  rw [if_pos ⟨sh_int, sh_int⟩]
  rfl
@[simp] theorem bin_add : binD .add (.int i) (.int j) = some (.int (i + j)) := rfl
@[simp] theorem bin_sub : binD .sub (.int i) (.int j) = some (.int (i - j)) := rfl
@[simp] theorem bi_lenT : biD .len [.tuple l] = some (.int l.length) := rfl
@[simp] theorem bi_lenL : biD .len [.list l] = some (.int l.length) := rfl
def allT (bs : List Bool) : Bool := bs.all id
@[simp] theorem bi_all : biD .all [.list l] = (boolsD l).map fun bs => .bool (allT bs) := rfl
@[simp] theorem bi_sum : biD .sum [.list l] = (intsD l).map fun ns => .int ns.sum := rfl
@[simp] theorem bi_max2 : biD .max2 [.int i, .int j] = some (.int (if j > i then j else i)) := rfl
@[simp] theorem bi_min2 : biD .min2 [.int i, .int j] = some (.int (if j < i then j else i)) := rfl
@[simp] theorem bi_int : biD .int [.int i] = some (.int i) := rfl
@[simp] theorem bi_intB {b : Bool} : biD .int [.bool b] = some (.int (if b then 1 else 0)) := rfl
@[simp] theorem bi_abs : biD .abs [.int i] = some (.int (if i < 0 then -i else i)) := rfl
@[simp] theorem bi_tupL : biD .tuple [.list l] = some (.tuple l) := rfl
@[simp] theorem bi_tupT : biD .tuple [.tuple l] = some (.tuple l) := rfl
@[simp] theorem bi_lstL : biD .list [.list l] = some (.list l) := rfl
@[simp] theorem bi_lenD {l : List (PD × PD)} : biD .len [.dict l] = some (.int l.length) := rfl
@[simp] theorem bi_lstD {l : List (PD × PD)} : biD .list [.dict l] = some (.list (l.map (·.1))) := rfl
@[simp] theorem bi_lstT : biD .list [.tuple l] = some (.list l) := rfl
end
end Er

set_option Elab.async false
set_option linter.all false
set_option maxRecDepth 100000
set_option maxHeartbeats 4000000
/-! E2: indices, slices, comprehensions, loops. -/
namespace Er
open PySem L2
section
variable {l r : List PD}
theorem atI_ofNat {α : Type} (l : List α) (n : Nat) : atI l (n : Int) = l[n]? := by
  unfold atI ixN
  rw [if_pos (by omega)]
  by_cases h : n < l.length
  · rw [if_pos (by omega)]
    rfl
  · rw [if_neg (by omega), List.getElem?_eq_none (by omega)]
    rfl
@[simp] theorem idx_T {i : Int} : idxD (.tuple l) (.int i) = atI l i := rfl
@[simp] theorem idx_L {i : Int} : idxD (.list l) (.int i) = atI l i := rfl
@[simp] theorem atI_0 {α : Type} {l : List α} : atI l 0 = l[0]? := atI_ofNat l 0
@[simp] theorem atI_1 {α : Type} {l : List α} : atI l 1 = l[1]? := atI_ofNat l 1
@[simp] theorem atI_2 {α : Type} {l : List α} : atI l 2 = l[2]? := atI_ofNat l 2
@[simp] theorem atI_3 {α : Type} {l : List α} : atI l 3 = l[3]? := atI_ofNat l 3
theorem atI_of {α : Type} {l : List α} {i : Int} (h : 0 ≤ i) : atI l i = l[i.toNat]? := by
  have := atI_ofNat l i.toNat
  rwa [Int.toNat_of_nonneg h] at this
@[simp] theorem slc_T {lo hi : Option Int} : slcD (.tuple l) lo hi = some (.tuple (cutD l lo hi)) := rfl
@[simp] theorem slc_L {lo hi : Option Int} : slcD (.list l) lo hi = some (.list (cutD l lo hi)) := rfl
theorem sIx_of {n d : Nat} {i : Int} (h : 0 ≤ i) : HT.sIx n d (some i) = min i.toNat n := by
  have := HT.sIx_nat n d i.toNat
  rwa [Int.toNat_of_nonneg h] at this
theorem cut_from {i : Int} (h : 0 ≤ i) : cutD l (some i) none = l.drop i.toNat := by
  unfold cutD
  rw [sIx_of h, HT.sIx_none]
  by_cases z : i.toNat ≤ l.length
  · rw [Nat.min_eq_left z]
    exact List.take_of_length_le (by rw [List.length_drop]; omega)
  · rw [Nat.min_eq_right (by omega), List.drop_eq_nil_of_le (Nat.le_refl _), List.drop_eq_nil_of_le (as := l) (i := i.toNat) (by omega)]
    simp
theorem cut_to {i : Int} (h : 0 ≤ i) : cutD l none (some i) = l.take i.toNat := by
  unfold cutD
  rw [sIx_of h, HT.sIx_none, List.drop_zero, Nat.sub_zero]
  by_cases z : i.toNat ≤ l.length
  · rw [Nat.min_eq_left z]
  · rw [Nat.min_eq_right (by omega), List.take_length, List.take_of_length_le (by omega)]
theorem cut_mid {i j : Int} (h : 0 ≤ i) (h2 : 0 ≤ j) : cutD l (some i) (some j) = (l.drop i.toNat).take (j.toNat - i.toNat) := by
  unfold cutD
  rw [sIx_of h, sIx_of h2]
  by_cases z : i.toNat ≤ l.length
  · rw [Nat.min_eq_left z]
    by_cases z2 : j.toNat ≤ l.length
    · rw [Nat.min_eq_left z2]
    · rw [Nat.min_eq_right (by omega)]
      rw [List.take_of_length_le (by rw [List.length_drop]; omega), List.take_of_length_le (by rw [List.length_drop]; omega)]
  · rw [Nat.min_eq_right (a := i.toNat) (by omega), List.drop_eq_nil_of_le (Nat.le_refl _), List.drop_eq_nil_of_le (as := l) (i := i.toNat) (by omega)]
    simp
@[simp] theorem cut_f0 : cutD l (some 0) none = l := by rw [cut_from (by decide)]; rfl
@[simp] theorem cut_f1 : cutD l (some 1) none = l.drop 1 := cut_from (by decide)
@[simp] theorem cut_t1 : cutD l none (some 1) = l.take 1 := cut_to (by decide)
@[simp] theorem cut_t2 : cutD l none (some 2) = l.take 2 := cut_to (by decide)
end
/-! slots -/
theorem backR_wipe {ρ ρ' : Rho} {own : List Nat} (h : wipeR ρ' own = wipeR ρ own) : backR ρ ρ' own = ρ := by
  have hl : ρ'.length = ρ.length := by
    have := congrArg List.length h
    rwa [wipeR_length, wipeR_length] at this
  apply List.ext_getElem?
  intro i
  by_cases m : i ∈ own
  · exact backR_in ρ ρ' hl own i m
  · rw [backR_get ρ ρ' own i m]
    have h1 := wipeR_get ρ' own i m
    have h2 := wipeR_get ρ own i m
    rw [← h1, ← h2, h]
theorem wipe2 {ρ : Rho} {own : List Nat} : wipeR (wipeR ρ own) own = wipeR ρ own := by
  apply List.ext_getElem?
  intro i
  by_cases m : i ∈ own
  · by_cases hi : i < ρ.length
    · rw [wipeR_in _ own i m (by rw [wipeR_length]; exact hi), wipeR_in _ own i m hi]
    · rw [List.getElem?_eq_none (by rw [wipeR_length, wipeR_length]; omega), List.getElem?_eq_none (by rw [wipeR_length]; omega)]
  · rw [wipeR_get _ own i m]
section
variable {cl : Call} {mt : Nat → List Bool} {gv : Nat → PD} {wf : Nat}
/-- a comprehension whose terms change nothing -/
theorem loopC_pure {tg : Tg} {own : List Nat} {c e : Rho → R OV} {ρ0 : Rho} (p : PD → Bool) (g : PD → PD) : ∀ (xs : List PD) (ρ : Rho), wipeR ρ own = ρ0 →
    (∀ x ∈ xs, ∃ ρ1, asgR tg x ρ0 = some ρ1 ∧ wipeR ρ1 own = ρ0 ∧ c ρ1 = .ok (.d (.bool (p x))) ρ1 ∧ (p x = true → e ρ1 = .ok (.d (g x)) ρ1)) →
    ∃ ρ', loopC tg own c e xs ρ = .ok ((xs.filter p).map g) ρ' ∧ wipeR ρ' own = ρ0
  | [], ρ, hw, _ => ⟨ρ, rfl, hw⟩
  | x :: xs, ρ, hw, h => by
    obtain ⟨ρ1, h1, h2, h3, h4⟩ := h x (by simp)
    obtain ⟨ρ', h5, h6⟩ := loopC_pure p g xs ρ1 h2 fun y hy => h y (by simp [hy])
    refine ⟨ρ', ?_, h6⟩
    cases hp : p x with
    | true =>
      rw [loopC, hw, h1]
      dsimp only
      rw [h3, hp]
      dsimp only
      rw [h4 hp]
      simp [h5, hp]
    | false =>
      rw [loopC, hw, h1]
      dsimp only
      rw [h3, hp]
      dsimp only
      rw [h5]
      simp [hp]
theorem comp_pure {e : Ex} {t : Tg} {it : Er.It} {c : Ex} {own : List Nat} {ρ : Rho} {xs : List PD} (p : PD → Bool) (g : PD → PD) (hi : evIt cl mt gv it ρ = .ok xs ρ) (hl : xs.length ≤ lim)
    (h : ∀ x ∈ xs, ∃ ρ1, asgR t x (wipeR ρ own) = some ρ1 ∧ wipeR ρ1 own = wipeR ρ own ∧ ev cl mt gv c ρ1 = .ok (.d (.bool (p x))) ρ1 ∧ (p x = true → ev cl mt gv e ρ1 = .ok (.d (g x)) ρ1)) :
    ev cl mt gv (.comp e t it c own) ρ = .ok (.d (.list ((xs.filter p).map g))) ρ := by
  obtain ⟨ρ', h1, h2⟩ := loopC_pure p g xs ρ rfl h
  rw [ev_comp, hi, R.bind_ok, h1, fin1_ok, if_pos, backR_wipe h2]
  rw [List.length_map]
  exact Nat.le_trans (List.length_filter_le _ _) hl
theorem comp_all {e : Ex} {t : Tg} {it : Er.It} {own : List Nat} {ρ : Rho} {xs : List PD} (g : PD → PD) (hi : evIt cl mt gv it ρ = .ok xs ρ) (hl : xs.length ≤ lim)
    (h : ∀ x ∈ xs, ∃ ρ1, asgR t x (wipeR ρ own) = some ρ1 ∧ wipeR ρ1 own = wipeR ρ own ∧ ev cl mt gv e ρ1 = .ok (.d (g x)) ρ1) :
    ev cl mt gv (.comp e t it (.c (.bool true)) own) ρ = .ok (.d (.list (xs.map g))) ρ := by
  have := comp_pure (cl := cl) (mt := mt) (gv := gv) (e := e) (t := t) (c := .c (.bool true)) (own := own) (fun _ => true) g hi hl fun x hx => by
    obtain ⟨ρ1, h1, h2, h3⟩ := h x hx
    exact ⟨ρ1, h1, h2, rfl, fun _ => h3⟩
  rwa [List.filter_eq_self.mpr (fun _ _ => rfl)] at this
/-- a comprehension whose terms change something: J by the turn, the slots, what is made -/
theorem comp_st {e : Ex} {t : Tg} {it : Er.It} {own : List Nat} {ρ ρ0 : Rho} {xs : List PD} (J : Nat → Rho → List PD → Prop) (hi : evIt cl mt gv it ρ = .ok xs ρ0) (hl : xs.length ≤ lim)
    (h0 : J 0 (wipeR ρ0 own) [])
    (h : ∀ i x ρ ys, xs[i]? = some x → J i ρ ys → ∃ ρ1 y ρ2, asgR t x ρ = some ρ1 ∧ ev cl mt gv e ρ1 = .ok (.d y) ρ2 ∧ J (i + 1) (wipeR ρ2 own) (ys ++ [y])) :
    ∃ ρ' ys, ev cl mt gv (.comp e t it (.c (.bool true)) own) ρ = .ok (.d (.list ys)) (backR ρ0 ρ' own) ∧ ys.length = xs.length ∧ J xs.length (wipeR ρ' own) ys := by
  have key : ∀ (zs : List PD) (i : Nat) (ρ : Rho) (ys : List PD), (∀ j x, zs[j]? = some x → xs[i + j]? = some x) → i + zs.length = xs.length → J i (wipeR ρ own) ys →
      ∃ ρ' ws, loopC t own (ev cl mt gv (.c (.bool true))) (ev cl mt gv e) zs ρ = .ok ws ρ' ∧ ws.length = zs.length ∧ J xs.length (wipeR ρ' own) (ys ++ ws) := by
    intro zs
    induction zs with
    | nil =>
      intro i ρ ys _ hn j
      refine ⟨ρ, [], rfl, rfl, ?_⟩
      rw [List.append_nil, ← hn]
      exact j
    | cons x zs ih =>
      intro i ρ ys hx hn j
      obtain ⟨ρ1, y, ρ2, h1, h2, h3⟩ := h i x _ ys (hx 0 x rfl) j
      obtain ⟨ρ', ws, h4, h5, h6⟩ := ih (i + 1) ρ2 (ys ++ [y]) (fun j z hz => by
        have := hx (j + 1) z (by simpa using hz)
        rwa [show i + (j + 1) = i + 1 + j by omega] at this) (by simp at hn; omega) h3
      refine ⟨ρ', y :: ws, ?_, by simp [h5], by simpa using h6⟩
      rw [loopC, h1]
      simp [h2, h4]
  obtain ⟨ρ', ys, h1, h2, h3⟩ := key xs 0 ρ0 [] (fun j x hx => by simpa using hx) (by simp) h0
  refine ⟨ρ', ys, ?_, h2, by simpa using h3⟩
  rw [ev_comp, hi, R.bind_ok, h1, fin1_ok, if_pos (by omega)]
/-- a for loop: I by the turn -/
theorem loopF_ind {t : Tg} {body : Rho → R Flow} {xs : List PD} (I : Nat → Rho → Prop)
    (h : ∀ i x ρ, xs[i]? = some x → I i ρ → ∃ ρ1 ρ2, asgR t x ρ = some ρ1 ∧ body ρ1 = .ok .next ρ2 ∧ I (i + 1) ρ2) : ∀ ρ, I 0 ρ → ∃ ρ', loopF t body xs ρ = .ok .next ρ' ∧ I xs.length ρ' := by
  have key : ∀ (zs : List PD) (i : Nat) (ρ : Rho), (∀ j x, zs[j]? = some x → xs[i + j]? = some x) → i + zs.length = xs.length → I i ρ → ∃ ρ', loopF t body zs ρ = .ok .next ρ' ∧ I xs.length ρ' := by
    intro zs
    induction zs with
    | nil =>
      intro i ρ _ hn j
      exact ⟨ρ, rfl, by rw [← hn]; exact j⟩
    | cons x zs ih =>
      intro i ρ hx hn j
      obtain ⟨ρ1, ρ2, h1, h2, h3⟩ := h i x ρ (hx 0 x rfl) j
      obtain ⟨ρ', h4, h5⟩ := ih (i + 1) ρ2 (fun j z hz => by
        have := hx (j + 1) z (by simpa using hz)
        rwa [show i + (j + 1) = i + 1 + j by omega] at this) (by simp at hn; omega) h3
      refine ⟨ρ', ?_, h5⟩
      rw [loopF, h1]
      simp [h2, h4]
  exact fun ρ i0 => key xs 0 ρ (fun j x hx => by simpa using hx) (by simp) i0
/-- a loop that looks whether all are good -/
theorem loopF_all {t : Tg} {body : Rho → R Flow} {v : PD} (p : PD → Bool) (I : Rho → Prop) : ∀ (xs : List PD),
    (∀ x ∈ xs, ∀ ρ, I ρ → ∃ ρ1 ρ2, asgR t x ρ = some ρ1 ∧ I ρ2 ∧ body ρ1 = if p x = true then .ok .next ρ2 else .ok (.ret v) ρ2) → ∀ ρ, I ρ →
    ∃ ρ', I ρ' ∧ loopF t body xs ρ = if xs.all p = true then .ok .next ρ' else .ok (.ret v) ρ'
  | [], _, ρ, i => ⟨ρ, i, rfl⟩
  | x :: xs, h, ρ, i => by
    obtain ⟨ρ1, ρ2, h1, h2, h3⟩ := h x (by simp) ρ i
    cases hp : p x with
    | true =>
      obtain ⟨ρ', h4, h5⟩ := loopF_all p I xs (fun y hy => h y (by simp [hy])) ρ2 h2
      refine ⟨ρ', h4, ?_⟩
      rw [loopF, h1]
      simp [h3, hp, h5]
    | false =>
      refine ⟨ρ2, h2, ?_⟩
      rw [loopF, h1]
      simp [h3, hp]
end
theorem bools_map (f : PD → Bool) : ∀ l : List PD, boolsD (l.map fun x => .bool (f x)) = some (l.map f)
  | [] => rfl
  | x :: l => by
    rw [List.map_cons, boolsD, bools_map f l]
    rfl
theorem ints_map : ∀ l : List Int, intsD (l.map PyData.int) = some l
  | [] => rfl
  | x :: l => by
    rw [List.map_cons, intsD, ints_map l]
    rfl
end Er

set_option Elab.async false
set_option linter.all false
set_option maxRecDepth 100000
set_option maxHeartbeats 4000000
/-! G0: the defs as terms (printed by gen_ir.py). -/
namespace Er
def d_is_within : Df := ⟨"is_within", ["value", "low", "high"], 3, [false, false, false], false,
  (.cons (.ret (.and (.isi (.v 0) [.int]) (.and (.not (.isi (.v 0) [.bool])) (.chain .le .le (.v 1) (.v 0) (.v 2)))))
  .nil)⟩
def d_is_row : Df := ⟨"is_row", ["value"], 1, [false], false,
  (.cons (.ite (.or (.not (.isi (.v 0) [.tuple])) (.cmp .ne (.bi .len (.cons (.v 0) .nil)) (.c (.int 2)))) (.cons (.ret (.c (.bool false)))
  .nil) .nil)
  (.cons (.ret (.and (.call 0 (.cons (.idx (.v 0) (.c (.int 0))) (.cons (.c (.int 0)) (.cons (.c (.int 2)) .nil)))) (.call 0 (.cons (.idx (.v 0) (.c (.int 1))) (.cons (.c (.int 1)) (.cons (.c (.int 4)) .nil))))))
  .nil))⟩
def cm_is_receiver_0 : Ex := (.comp (.call 1 (.cons (.v 4) .nil)) (.n 4) (.tup (.v 1)) (.c (.bool true)) [4])
def d_is_receiver : Df := ⟨"is_receiver", ["value", "rows", "hang", "back", "row"], 1, [false], false,
  (.cons (.ite (.or (.not (.isi (.v 0) [.tuple])) (.or (.cmp .ne (.bi .len (.cons (.v 0) .nil)) (.c (.int 3))) (.not (.isi (.idx (.v 0) (.c (.int 0))) [.tuple])))) (.cons (.ret (.c (.bool false)))
  .nil) .nil)
  (.cons (.asg (.t [(.n 1), (.n 2), (.n 3)]) (.v 0))
  (.cons (.ite (.or (.not (.chain .le .le (.c (.int 1)) (.bi .len (.cons (.v 1) .nil)) (.c (.int 4)))) (.not (.bi .all (.cons cm_is_receiver_0 .nil)))) (.cons (.ret (.c (.bool false)))
  .nil) .nil)
  (.cons (.ite (.isN (.v 2)) (.cons (.ret (.isN (.v 3)))
  .nil) .nil)
  (.cons (.ret (.and (.call 0 (.cons (.v 2) (.cons (.c (.int 0)) (.cons (.c (.int 2)) .nil)))) (.or (.isN (.v 3)) (.call 0 (.cons (.v 3) (.cons (.c (.int 0)) (.cons (.bin .sub (.bi .len (.cons (.v 1) .nil)) (.c (.int 1))) .nil)))))))
  .nil)))))⟩
def d_is_span : Df := ⟨"is_span", ["value"], 1, [false], false,
  (.cons (.ite (.or (.not (.isi (.v 0) [.tuple])) (.cmp .ne (.bi .len (.cons (.v 0) .nil)) (.c (.int 2)))) (.cons (.ret (.c (.bool false)))
  .nil) .nil)
  (.cons (.ret (.and (.call 0 (.cons (.idx (.v 0) (.c (.int 0))) (.cons (.c (.int 1)) (.cons (.c (.int 4)) .nil)))) (.call 0 (.cons (.idx (.v 0) (.c (.int 1))) (.cons (.idx (.v 0) (.c (.int 0))) (.cons (.c (.int 4)) .nil))))))
  .nil))⟩
def d_is_sender : Df := ⟨"is_sender", ["value"], 1, [false], false,
  (.cons (.ite (.or (.not (.isi (.v 0) [.tuple])) (.or (.cmp .ne (.bi .len (.cons (.v 0) .nil)) (.c (.int 4))) (.or (.not (.call 3 (.cons (.idx (.v 0) (.c (.int 0))) .nil))) (.not (.call 3 (.cons (.idx (.v 0) (.c (.int 1))) .nil)))))) (.cons (.ret (.c (.bool false)))
  .nil) .nil)
  (.cons (.ret (.and (.call 0 (.cons (.idx (.v 0) (.c (.int 2))) (.cons (.c (.int 1)) (.cons (.c (.int 3)) .nil)))) (.call 0 (.cons (.idx (.v 0) (.c (.int 3))) (.cons (.c (.int 1)) (.cons (.idx (.idx (.v 0) (.c (.int 0))) (.c (.int 0))) .nil))))))
  .nil))⟩
def cm_size_of_0 : Ex := (.comp (.v 11) (.t [(.n 10), (.n 11)]) (.tup (.v 7)) (.c (.bool true)) [10, 11])
def bd_size_of_0 : Sms := (.cons (.set 1 (.bin .mul (.v 1) (.bin .add (.bin .add (.c (.int 1)) (.bin .mul (.bin .mul (.v 5) (.idx (.v 3) (.c (.int 1)))) (.bin .add (.v 6) (.c (.int 1))))) (.bin .mul (.bin .sub (.v 5) (.c (.int 1))) (.idx (.v 4) (.c (.int 1)))))))
  .nil)
def d_size_of : Df := ⟨"size_of", ["plan", "size", "senders", "call", "pause", "times", "need", "rows", "hang", "back", "channel", "ticks"], 1, [false], false,
  (.cons (.asg (.t [(.t [(.n 7), (.n 8), (.n 9)]), (.n 2)]) (.v 0))
  (.cons (.set 1 (.bi .sum (.cons cm_size_of_0 .nil)))
  (.cons (.ite (.notN (.v 8)) (.cons (.set 1 (.bin .add (.v 1) (.bin .mul (.bi .len (.cons (.v 7) .nil)) (.bin .add (.v 8) (.c (.int 1))))))
  .nil) .nil)
  (.cons (.for_ (.t [(.n 3), (.n 4), (.n 5), (.n 6)]) (.tup (.v 2)) bd_size_of_0)
  (.cons (.ret (.v 1))
  .nil)))))⟩
def cm_is_plan_0 : Ex := (.comp (.call 4 (.cons (.v 2) .nil)) (.n 2) (.tup (.v 1)) (.c (.bool true)) [2])
def cm_is_plan_1 : Ex := (.comp (.v 3) (.t [(.n 3), (.n 4)]) (.tup (.idx (.idx (.v 0) (.c (.int 0))) (.c (.int 0)))) (.c (.bool true)) [3, 4])
def d_is_plan : Df := ⟨"is_plan", ["value", "senders", "one", "channel", "ticks"], 1, [false], false,
  (.cons (.ite (.or (.not (.isi (.v 0) [.tuple])) (.or (.cmp .ne (.bi .len (.cons (.v 0) .nil)) (.c (.int 2))) (.not (.call 2 (.cons (.idx (.v 0) (.c (.int 0))) .nil))))) (.cons (.ret (.c (.bool false)))
  .nil) .nil)
  (.cons (.set 1 (.idx (.v 0) (.c (.int 1))))
  (.cons (.ite (.or (.not (.isi (.v 1) [.tuple])) (.or (.not (.chain .le .le (.c (.int 2)) (.bi .len (.cons (.v 1) .nil)) (.c (.int 3)))) (.not (.bi .all (.cons cm_is_plan_0 .nil))))) (.cons (.ret (.c (.bool false)))
  .nil) .nil)
  (.cons (.ret (.and (.cmp .lt (.bi .max1 (.cons cm_is_plan_1 .nil)) (.bi .len (.cons (.v 1) .nil))) (.cmp .le (.call 5 (.cons (.v 0) .nil)) (.g 0))))
  .nil))))⟩
def d_look_at_plan : Df := ⟨"look_at_plan", ["plan"], 1, [false], false,
  (.cons (.ite (.not (.call 6 (.cons (.v 0) .nil))) (.cons .dead
  .nil) .nil)
  .nil)⟩
def d_begin_of : Df := ⟨"begin_of", ["plan"], 1, [false], false,
  (.cons (.ret (.tup (.cons (.tup (.cons (.c (.int 0)) (.cons (.c (.int 0)) (.cons (.neg (.c (.int 1))) .nil)))) (.cons (.bin .mul (.tup (.cons (.g 1) .nil)) (.bi .len (.cons (.idx (.v 0) (.c (.int 1))) .nil))) .nil))))
  .nil)⟩
def d_first_stand : Df := ⟨"first_stand", ["plan"], 1, [false], false,
  (.cons (.ex (.call 7 (.cons (.v 0) .nil)))
  (.cons (.ret (.call 8 (.cons (.v 0) .nil)))
  .nil))⟩
def d_is_ear_stand : Df := ⟨"is_ear_stand", ["receiver", "value", "rows", "hang", "back"], 2, [false, false], false,
  (.cons (.asg (.t [(.n 2), (.n 3), (.n 4)]) (.v 0))
  (.cons (.ite (.or (.not (.isi (.v 1) [.tuple])) (.or (.cmp .ne (.bi .len (.cons (.v 1) .nil)) (.c (.int 3))) (.not (.call 0 (.cons (.idx (.v 1) (.c (.int 0))) (.cons (.c (.int 0)) (.cons (.bin .sub (.bi .len (.cons (.v 2) .nil)) (.c (.int 1))) .nil))))))) (.cons (.ret (.c (.bool false)))
  .nil) .nil)
  (.cons (.ret (.and (.call 0 (.cons (.idx (.v 1) (.c (.int 1))) (.cons (.c (.int 0)) (.cons (.bin .sub (.idx (.idx (.v 2) (.idx (.v 1) (.c (.int 0)))) (.c (.int 1))) (.c (.int 1))) .nil)))) (.call 0 (.cons (.idx (.v 1) (.c (.int 2))) (.cons (.neg (.c (.int 1))) (.cons (.ite (.isN (.v 3)) (.neg (.c (.int 1))) (.v 3)) .nil))))))
  .nil)))⟩
def cm_is_sender_stand_0 : Ex := (.comp (.call 0 (.cons (.v 10) (.cons (.c (.int 0)) (.cons (.c (.int 10)) .nil)))) (.n 10) (.tup (.slc true false (.v 1) (.c (.int 1)) (.c .none))) (.c (.bool true)) [10])
def d_is_sender_stand : Df := ⟨"is_sender_stand", ["sender", "value", "call", "pause", "times", "need", "step", "told", "passed", "got", "part"], 2, [false, false], false,
  (.cons (.asg (.t [(.n 2), (.n 3), (.n 4), (.n 5)]) (.v 0))
  (.cons (.ite (.or (.not (.isi (.v 1) [.tuple])) (.or (.cmp .ne (.bi .len (.cons (.v 1) .nil)) (.c (.int 4))) (.not (.isi (.idx (.v 1) (.c (.int 0))) [.str])))) (.cons (.ret (.c (.bool false)))
  .nil) .nil)
  (.cons (.asg (.t [(.n 6), (.n 7), (.n 8), (.n 9)]) (.v 1))
  (.cons (.ite (.not (.bi .all (.cons cm_is_sender_stand_0 .nil))) (.cons (.ret (.c (.bool false)))
  .nil) .nil)
  (.cons (.ite (.cmp .eq (.v 6) (.c (.str "call"))) (.cons (.ret (.and (.cmp .lt (.v 7) (.v 4)) (.and (.cmp .lt (.v 8) (.idx (.v 2) (.c (.int 1)))) (.cmp .le (.v 9) (.bi .min2 (.cons (.v 8) (.cons (.v 5) .nil)))))))
  .nil) .nil)
  (.cons (.ite (.cmp .eq (.v 6) (.c (.str "pause"))) (.cons (.ret (.and (.chain .le .lt (.c (.int 1)) (.v 7) (.v 4)) (.and (.cmp .lt (.v 8) (.idx (.v 3) (.c (.int 1)))) (.cmp .eq (.v 9) (.c (.int 0))))))
  .nil) .nil)
  (.cons (.ret (.cmp .eq (.v 1) (.g 1)))
  .nil)))))))⟩
def cm_fits_0 : Ex := (.comp (.call 11 (.cons (.v 2) (.cons (.v 3) .nil))) (.t [(.n 2), (.n 3)]) (.zip (.idx (.v 0) (.c (.int 1))) (.idx (.v 1) (.c (.int 1)))) (.c (.bool true)) [2, 3])
def d_fits : Df := ⟨"fits", ["plan", "value", "sender", "part"], 2, [false, false], false,
  (.cons (.ite (.or (.not (.isi (.v 1) [.tuple])) (.or (.cmp .ne (.bi .len (.cons (.v 1) .nil)) (.c (.int 2))) (.not (.call 10 (.cons (.idx (.v 0) (.c (.int 0))) (.cons (.idx (.v 1) (.c (.int 0))) .nil)))))) (.cons (.ret (.c (.bool false)))
  .nil) .nil)
  (.cons (.ite (.or (.not (.isi (.idx (.v 1) (.c (.int 1))) [.tuple])) (.cmp .ne (.bi .len (.cons (.idx (.v 1) (.c (.int 1))) .nil)) (.bi .len (.cons (.idx (.v 0) (.c (.int 1))) .nil)))) (.cons (.ret (.c (.bool false)))
  .nil) .nil)
  (.cons (.ret (.bi .all (.cons cm_fits_0 .nil)))
  .nil)))⟩
def d_is_stand : Df := ⟨"is_stand", ["plan", "value"], 2, [false, false], false,
  (.cons (.ex (.call 7 (.cons (.v 0) .nil)))
  (.cons (.ret (.call 12 (.cons (.v 0) (.cons (.v 1) .nil))))
  .nil))⟩
def d__law_spring : Df := ⟨"_law_spring", ["script", "at", "cell", "mixed"], 2, [false, false], true,
  (.cons (.set 2 (.c (.int 7)))
  (.cons (.ite (.cmp .lt (.v 1) (.bi .len (.cons (.v 0) .nil))) (.cons (.set 2 (.bi .abs (.cons (.idx (.v 0) (.v 1)) .nil)))
  .nil) .nil)
  (.cons (.set 3 (.bin .mod (.bi .int (.cons (.bin .add (.bin .add (.bin .mul (.v 2) (.c (.int 863))) (.bin .mul (.c (.int 524287)) (.v 1))) (.c (.int 1))) .nil)) (.c (.int 999999999989))))
  (.cons (.retO (.lst (.cons (.ite (.cmp .ge (.v 2) (.bin .pow (.c (.int 10)) (.c (.int 18)))) (.v 2) (.c (.int 0))) (.cons (.v 3) .nil))))
  .nil))))⟩
def d__law_pick : Df := ⟨"_law_pick", ["spring", "many", "digit"], 2, [true, false], false,
  (.cons (.ite (.cmp .gt (.idx (.s 0) (.c (.int 0))) (.c (.int 0))) (.cons (.set 2 (.bin .mod (.bi .int (.cons (.idx (.s 0) (.c (.int 0))) .nil)) (.v 1)))
  (.cons (.putIx 0 (.c (.int 0)) (.bin .fdiv (.idx (.s 0) (.c (.int 0))) (.v 1)))
  (.cons (.ret (.v 2))
  .nil))) .nil)
  (.cons (.putIx 0 (.c (.int 1)) (.bin .mod (.bi .int (.cons (.bin .add (.bin .mul (.idx (.s 0) (.c (.int 1))) (.c (.int 393555900739))) (.c (.int 8191))) .nil)) (.c (.int 999999999989))))
  (.cons (.ret (.bin .mod (.bi .int (.cons (.bin .fdiv (.idx (.s 0) (.c (.int 1))) (.c (.int 4093))) .nil)) (.v 1)))
  .nil)))⟩
def d__law_kind : Df := ⟨"_law_kind", ["value"], 1, [false], false,
  (.cons (.ite (.or (.isN (.v 0)) (.isi (.v 0) [.bool])) (.cons (.ret (.ite (.isN (.v 0)) (.c (.int 0)) (.c (.int 1))))
  .nil) .nil)
  (.cons (.ite (.isi (.v 0) [.list, .tuple]) (.cons (.ret (.ite (.isi (.v 0) [.list]) (.c (.int 2)) (.c (.int 3))))
  .nil) .nil)
  (.cons (.ret (.ite (.isi (.v 0) [.int]) (.c (.int 4)) (.ite (.isi (.v 0) [.str]) (.c (.int 5)) (.c (.int 6)))))
  .nil)))⟩
def cm__law_twins_0 : Ex := (.comp (.c (.int 1)) (.t [(.n 2), (.n 3)]) (.zip (.v 0) (.v 1)) (.not (.call 17 (.cons (.v 2) (.cons (.v 3) .nil)))) [2, 3])
def d__law_twins : Df := ⟨"_law_twins", ["one", "other", "a", "b"], 2, [false, false], false,
  (.cons (.ite (.cmp .ne (.call 16 (.cons (.v 0) .nil)) (.call 16 (.cons (.v 1) .nil))) (.cons (.ret (.c (.bool false)))
  .nil) .nil)
  (.cons (.ite (.cmp .isin (.call 16 (.cons (.v 0) .nil)) (.lst (.cons (.c (.int 2)) (.cons (.c (.int 3)) .nil)))) (.cons (.ret (.and (.cmp .eq (.bi .len (.cons (.v 0) .nil)) (.bi .len (.cons (.v 1) .nil))) (.cmp .eq cm__law_twins_0 (.lst .nil))))
  .nil) .nil)
  (.cons (.ret (.cmp .eq (.v 0) (.v 1)))
  .nil)))⟩
def cm__law_receiver_0 : Ex := (.comp (.tup (.cons (.call 15 (.cons (.s 0) (.cons (.v 1) .nil))) (.cons (.bin .add (.c (.int 1)) (.call 15 (.cons (.s 0) (.cons (.c (.int 2)) .nil)))) .nil))) (.n 7) (.range1 (.v 3)) (.c (.bool true)) [7])
def d__law_receiver : Df := ⟨"_law_receiver", ["spring", "channels", "most", "many", "rows", "hang", "back", "turn"], 3, [true, false, false], false,
  (.cons (.set 3 (.bin .add (.c (.int 1)) (.call 15 (.cons (.s 0) (.cons (.v 2) .nil)))))
  (.cons (.set 4 (.bi .tuple (.cons cm__law_receiver_0 .nil)))
  (.cons (.set 5 (.idx (.lst (.cons (.c .none) (.cons (.c (.int 0)) (.cons (.c (.int 0)) (.cons (.c (.int 1)) (.cons (.c (.int 2)) .nil)))))) (.call 15 (.cons (.s 0) (.cons (.c (.int 5)) .nil)))))
  (.cons (.set 6 (.ite (.or (.isN (.v 5)) (.cmp .eq (.call 15 (.cons (.s 0) (.cons (.c (.int 2)) .nil))) (.c (.int 0)))) (.c .none) (.call 15 (.cons (.s 0) (.cons (.v 3) .nil)))))
  (.cons (.ret (.tup (.cons (.v 4) (.cons (.v 5) (.cons (.v 6) .nil)))))
  .nil)))))⟩
def d__law_span : Df := ⟨"_law_span", ["spring", "most", "low"], 2, [true, false], false,
  (.cons (.set 2 (.bin .add (.c (.int 1)) (.call 15 (.cons (.s 0) (.cons (.v 1) .nil)))))
  (.cons (.ret (.tup (.cons (.v 2) (.cons (.bi .min2 (.cons (.c (.int 4)) (.cons (.bin .add (.v 2) (.call 15 (.cons (.s 0) (.cons (.c (.int 2)) .nil)))) .nil))) .nil))))
  .nil))⟩
def d__law_sender : Df := ⟨"_law_sender", ["spring", "call", "pause"], 1, [true], false,
  (.cons (.par [(1, false), (2, false)] (.cons (.call 19 (.cons (.s 0) (.cons (.c (.int 3)) .nil))) (.cons (.call 19 (.cons (.s 0) (.cons (.c (.int 2)) .nil))) .nil)))
  (.cons (.ret (.tup (.cons (.v 1) (.cons (.v 2) (.cons (.bin .add (.c (.int 1)) (.idx (.lst (.cons (.c (.int 0)) (.cons (.c (.int 0)) (.cons (.c (.int 1)) (.cons (.c (.int 1)) (.cons (.c (.int 2)) .nil)))))) (.call 15 (.cons (.s 0) (.cons (.c (.int 5)) .nil))))) (.cons (.bin .add (.c (.int 1)) (.call 15 (.cons (.s 0) (.cons (.idx (.v 1) (.c (.int 0))) .nil)))) .nil))))))
  .nil))⟩
def cm__law_size_0 : Ex := (.comp (.bin .add (.v 11) (.ite (.isN (.v 8)) (.c (.int 0)) (.bin .add (.v 8) (.c (.int 1))))) (.t [(.n 10), (.n 11)]) (.tup (.v 7)) (.c (.bool true)) [10, 11])
def bd__law_size_0 : Sms := (.cons (.set 1 (.bin .mul (.v 1) (.bin .add (.bin .add (.c (.int 1)) (.bin .mul (.bin .mul (.v 5) (.idx (.v 3) (.c (.int 1)))) (.bin .add (.v 6) (.c (.int 1))))) (.bin .mul (.bin .sub (.v 5) (.c (.int 1))) (.idx (.v 4) (.c (.int 1)))))))
  .nil)
def d__law_size : Df := ⟨"_law_size", ["plan", "size", "senders", "call", "pause", "times", "need", "rows", "hang", "back", "channel", "ticks"], 1, [false], false,
  (.cons (.asg (.t [(.t [(.n 7), (.n 8), (.n 9)]), (.n 2)]) (.v 0))
  (.cons (.set 1 (.bi .sum (.cons cm__law_size_0 .nil)))
  (.cons (.for_ (.t [(.n 3), (.n 4), (.n 5), (.n 6)]) (.tup (.v 2)) bd__law_size_0)
  (.cons (.ret (.v 1))
  .nil))))⟩
def cm__law_plan_0 : Ex := (.comp (.call 20 (.cons (.s 0) .nil)) (.n 6) (.range1 (.v 3)) (.c (.bool true)) [6])
def d__law_plan : Df := ⟨"_law_plan", ["spring", "channels", "bound", "many", "senders", "plan", "turn"], 3, [true, false, false], false,
  (.cons (.set 3 (.ite (.or (.cmp .eq (.v 1) (.c (.int 2))) (.cmp .eq (.call 15 (.cons (.s 0) (.cons (.c (.int 2)) .nil))) (.c (.int 0)))) (.v 1) (.c (.int 2))))
  (.cons (.set 4 (.bi .tuple (.cons cm__law_plan_0 .nil)))
  (.cons (.set 5 (.tup (.cons (.call 18 (.cons (.s 0) (.cons (.v 3) (.cons (.c (.int 3)) .nil)))) (.cons (.v 4) .nil))))
  (.cons (.ite (.cmp .gt (.call 21 (.cons (.v 5) .nil)) (.v 2)) (.cons (.set 5 (.tup (.cons (.idx (.v 5) (.c (.int 0))) (.cons (.bin .add (.slc false true (.v 4) (.c .none) (.c (.int 1))) (.bin .mul (.tup (.cons (.tup (.cons (.tup (.cons (.c (.int 2)) (.cons (.c (.int 2)) .nil))) (.cons (.tup (.cons (.c (.int 1)) (.cons (.c (.int 1)) .nil))) (.cons (.c (.int 1)) (.cons (.c (.int 1)) .nil))))) .nil)) (.bin .sub (.v 3) (.c (.int 1))))) .nil))))
  .nil) .nil)
  (.cons (.ite (.cmp .gt (.call 21 (.cons (.v 5) .nil)) (.v 2)) (.cons (.set 5 (.tup (.cons (.idx (.v 5) (.c (.int 0))) (.cons (.bin .add (.tup (.cons (.tup (.cons (.tup (.cons (.c (.int 1)) (.cons (.c (.int 2)) .nil))) (.cons (.tup (.cons (.c (.int 1)) (.cons (.c (.int 1)) .nil))) (.cons (.c (.int 2)) (.cons (.c (.int 1)) .nil))))) .nil)) (.slc true false (.idx (.v 5) (.c (.int 1))) (.c (.int 1)) (.c .none))) .nil))))
  .nil) .nil)
  (.cons (.ret (.v 5))
  .nil))))))⟩
def d__law_first : Df := ⟨"_law_first", ["plan"], 1, [false], false,
  (.cons (.ret (.tup (.cons (.tup (.cons (.c (.int 0)) (.cons (.c (.int 0)) (.cons (.neg (.c (.int 1))) .nil)))) (.cons (.bin .mul (.tup (.cons (.tup (.cons (.c (.str "idle")) (.cons (.c (.int 0)) (.cons (.c (.int 0)) (.cons (.c (.int 0)) .nil))))) .nil)) (.bi .len (.cons (.idx (.v 0) (.c (.int 1))) .nil))) .nil))))
  .nil)⟩
def cm__law_on_air_0 : Ex := (.comp (.v 1) (.t [(.n 1), (.n 2)]) (.enum (.idx (.v 0) (.c (.int 1)))) (.cmp .eq (.idx (.v 2) (.c (.int 0))) (.c (.str "call"))) [1, 2])
def d__law_on_air : Df := ⟨"_law_on_air", ["stand", "at", "part"], 1, [false], false,
  (.cons (.ret cm__law_on_air_0)
  .nil)⟩
def cm__law_choices_0 : Ex := (.comp (.bin .add (.v 11) (.tup (.cons (.c (.bool false)) .nil))) (.n 11) (.tup (.v 2)) (.c (.bool true)) [11])
def cm__law_choices_1 : Ex := (.comp (.bin .add (.v 11) (.tup (.cons (.c (.bool true)) .nil))) (.n 11) (.tup (.v 2)) (.v 4) [11])
def bd__law_choices_0 : Sms := (.cons (.asg (.t [(.n 9), (.n 10)]) (.pick ["idle", "call", "pause"] (.cons (.tup (.cons (.c (.int 0)) (.cons (.c (.int 99)) .nil))) (.cons (.v 5) (.cons (.v 6) .nil))) (.idx (.v 3) (.c (.int 0)))))
  (.cons (.set 4 (.chain .lt .le (.v 9) (.bin .add (.idx (.v 3) (.c (.int 2))) (.c (.int 2))) (.v 10)))
  (.cons (.set 2 (.bin .add cm__law_choices_0 cm__law_choices_1))
  (.cons (.set 2 (.bi .sorted (.cons (.v 2) .nil)))
  .nil))))
def d__law_choices : Df := ⟨"_law_choices", ["plan", "stand", "rows", "part", "free", "call", "pause", "times", "need", "low", "high", "row"], 2, [false, false], false,
  (.cons (.set 2 (.lst (.cons (.tup .nil) .nil)))
  (.cons (.for_ (.t [(.t [(.n 5), (.n 6), (.n 7), (.n 8)]), (.n 3)]) (.zip (.idx (.v 0) (.c (.int 1))) (.idx (.v 1) (.c (.int 1)))) bd__law_choices_0)
  (.cons (.ret (.v 2))
  .nil)))⟩
def d__law_ear : Df := ⟨"_law_ear", ["receiver", "ear", "heard", "over", "later", "passed", "rows", "hang", "back", "row", "silent"], 3, [false, false, false], false,
  (.cons (.asg (.t [(.t [(.n 6), (.n 7), (.n 8)]), (.t [(.n 9), (.n 5), (.n 10)])]) (.tup (.cons (.v 0) (.cons (.v 1) .nil))))
  (.cons (.par [(3, false), (4, false)] (.cons (.c (.bool false)) (.cons (.bin .add (.v 9) (.c (.int 1))) .nil)))
  (.cons (.ite (.isN (.v 7)) (.cons (.set 5 (.bin .add (.v 5) (.c (.int 1))))
  (.cons (.set 3 (.cmp .eq (.v 5) (.idx (.idx (.v 6) (.v 9)) (.c (.int 1)))))
  .nil)) (.cons (.ite (.v 2) (.cons (.set 10 (.c (.int 0)))
  .nil) (.cons (.ite (.cmp .eq (.v 10) (.neg (.c (.int 1)))) (.cons (.set 5 (.bin .add (.v 5) (.c (.int 1))))
  (.cons (.set 3 (.cmp .eq (.v 5) (.idx (.idx (.v 6) (.v 9)) (.c (.int 1)))))
  .nil)) (.cons (.set 10 (.bin .add (.v 10) (.c (.int 1))))
  (.cons (.set 3 (.cmp .gt (.v 10) (.v 7)))
  (.cons (.set 4 (.ite (.isN (.v 8)) (.v 4) (.v 8)))
  .nil))))
  .nil))
  .nil))
  (.cons (.ret (.ite (.v 3) (.tup (.cons (.ite (.cmp .lt (.v 4) (.bi .len (.cons (.v 6) .nil))) (.v 4) (.c (.int 0))) (.cons (.c (.int 0)) (.cons (.neg (.c (.int 1))) .nil)))) (.tup (.cons (.v 9) (.cons (.v 5) (.cons (.v 10) .nil))))))
  .nil))))⟩
def bd__law_tick_0 : Sms := (.cons (.asg (.t [(.n 15), (.n 16), (.n 10), (.n 17)]) (.idx (.idx (.v 1) (.c (.int 1))) (.v 8)))
  (.cons (.ite (.and (.cmp .eq (.v 15) (.c (.str "call"))) (.and (.cmp .eq (.v 8) (.v 3)) (.cmp .lt (.v 17) (.v 14)))) (.cons (.set 17 (.bin .add (.v 17) (.c (.int 1))))
  (.cons (.set 5 (.bin .add (.v 5) (.bin .mul (.tup (.cons (.v 8) .nil)) (.bi .int (.cons (.cmp .eq (.v 17) (.v 14)) .nil)))))
  .nil)) .nil)
  (.cons (.set 9 (.pick ["idle", "call", "pause"] (.cons (.c (.int 99)) (.cons (.idx (.v 11) (.c (.int 1))) (.cons (.idx (.v 12) (.c (.int 1))) .nil))) (.v 15)))
  (.cons (.set 10 (.bin .add (.v 10) (.bi .int (.cons (.cmp .ne (.v 15) (.c (.str "idle"))) .nil))))
  (.cons (.ite (.and (.not (.idx (.v 2) (.v 8))) (.cmp .lt (.v 10) (.v 9))) (.cons (.app 7 (.tup (.cons (.v 15) (.cons (.v 16) (.cons (.v 10) (.cons (.v 17) .nil))))))
  .nil) (.cons (.ite (.cmp .ne (.v 15) (.c (.str "call"))) (.cons (.app 7 (.tup (.cons (.c (.str "call")) (.cons (.v 16) (.cons (.c (.int 0)) (.cons (.c (.int 0)) .nil))))))
  .nil) (.cons (.ite (.and (.cmp .lt (.v 17) (.v 14)) (.cmp .lt (.bin .add (.v 16) (.c (.int 1))) (.v 13))) (.cons (.app 7 (.tup (.cons (.c (.str "pause")) (.cons (.bin .add (.v 16) (.c (.int 1))) (.cons (.c (.int 0)) (.cons (.c (.int 0)) .nil))))))
  .nil) (.cons (.set 6 (.bin .add (.v 6) (.bin .mul (.tup (.cons (.v 8) .nil)) (.bi .int (.cons (.cmp .lt (.v 17) (.v 14)) .nil)))))
  (.cons (.app 7 (.tup (.cons (.c (.str "idle")) (.cons (.c (.int 0)) (.cons (.c (.int 0)) (.cons (.c (.int 0)) .nil))))))
  .nil)))
  .nil))
  .nil))
  .nil)))))
def d__law_tick : Df := ⟨"_law_tick", ["plan", "stand", "choice", "channel", "ear", "heard", "missed", "found", "at", "high", "passed", "call", "pause", "times", "need", "step", "told", "got"], 3, [false, false, false], false,
  (.cons (.set 3 (.idx (.idx (.idx (.idx (.v 0) (.c (.int 0))) (.c (.int 0))) (.idx (.idx (.v 1) (.c (.int 0))) (.c (.int 0)))) (.c (.int 0))))
  (.cons (.par [(5, false), (6, false), (7, true)] (.cons (.tup .nil) (.cons (.tup .nil) (.cons (.lst .nil) .nil))))
  (.cons (.for_ (.t [(.n 8), (.t [(.n 11), (.n 12), (.n 13), (.n 14)])]) (.enum (.idx (.v 0) (.c (.int 1)))) bd__law_tick_0)
  (.cons (.set 4 (.call 26 (.cons (.idx (.v 0) (.c (.int 0))) (.cons (.idx (.v 1) (.c (.int 0))) (.cons (.cmp .isin (.v 3) (.call 24 (.cons (.v 1) .nil))) .nil)))))
  (.cons (.ret (.tup (.cons (.tup (.cons (.v 4) (.cons (.bi .tuple (.cons (.s 7) .nil)) .nil))) (.cons (.v 5) (.cons (.v 6) .nil)))))
  .nil)))))⟩
def d__law_int : Df := ⟨"_law_int", ["value", "low", "high"], 3, [false, false, false], false,
  (.cons (.ret (.and (.isi (.v 0) [.int]) (.and (.not (.isi (.v 0) [.bool])) (.chain .le .le (.v 1) (.v 0) (.v 2)))))
  .nil)⟩
def d__law_made : Df := ⟨"_law_made", ["value", "many"], 2, [false, false], false,
  (.cons (.ret (.and (.isi (.v 0) [.tuple]) (.cmp .isin (.bi .len (.cons (.v 0) .nil)) (.v 1))))
  .nil)⟩
def bd__law_good_receiver_0 : Sms := (.cons (.ite (.or (.not (.call 29 (.cons (.v 1) (.cons (.lst (.cons (.c (.int 2)) .nil)) .nil)))) (.or (.not (.call 28 (.cons (.idx (.v 1) (.c (.int 0))) (.cons (.c (.int 0)) (.cons (.c (.int 2)) .nil))))) (.not (.call 28 (.cons (.idx (.v 1) (.c (.int 1))) (.cons (.c (.int 1)) (.cons (.c (.int 4)) .nil))))))) (.cons (.ret (.c (.bool false)))
  .nil) .nil)
  .nil)
def d__law_good_receiver : Df := ⟨"_law_good_receiver", ["value", "row"], 1, [false], false,
  (.cons (.ite (.or (.not (.call 29 (.cons (.v 0) (.cons (.lst (.cons (.c (.int 3)) .nil)) .nil)))) (.not (.call 29 (.cons (.idx (.v 0) (.c (.int 0))) (.cons (.lst (.cons (.c (.int 1)) (.cons (.c (.int 2)) (.cons (.c (.int 3)) (.cons (.c (.int 4)) .nil))))) .nil))))) (.cons (.ret (.c (.bool false)))
  .nil) .nil)
  (.cons (.for_ (.n 1) (.tup (.idx (.v 0) (.c (.int 0)))) bd__law_good_receiver_0)
  (.cons (.ite (.or (.isN (.idx (.v 0) (.c (.int 1)))) (.isN (.idx (.v 0) (.c (.int 2))))) (.cons (.ret (.and (.isN (.idx (.v 0) (.c (.int 2)))) (.or (.isN (.idx (.v 0) (.c (.int 1)))) (.call 28 (.cons (.idx (.v 0) (.c (.int 1))) (.cons (.c (.int 0)) (.cons (.c (.int 2)) .nil)))))))
  .nil) .nil)
  (.cons (.ret (.and (.call 28 (.cons (.idx (.v 0) (.c (.int 1))) (.cons (.c (.int 0)) (.cons (.c (.int 2)) .nil)))) (.call 28 (.cons (.idx (.v 0) (.c (.int 2))) (.cons (.c (.int 0)) (.cons (.bin .sub (.bi .len (.cons (.idx (.v 0) (.c (.int 0))) .nil)) (.c (.int 1))) .nil))))))
  .nil))))⟩
def bd__law_good_plan_0 : Sms := (.cons (.ite (.or (.not (.call 29 (.cons (.v 2) (.cons (.lst (.cons (.c (.int 2)) .nil)) .nil)))) (.or (.not (.call 28 (.cons (.idx (.v 2) (.c (.int 0))) (.cons (.c (.int 1)) (.cons (.c (.int 4)) .nil))))) (.not (.call 28 (.cons (.idx (.v 2) (.c (.int 1))) (.cons (.idx (.v 2) (.c (.int 0))) (.cons (.c (.int 4)) .nil))))))) (.cons (.ret (.c (.bool false)))
  .nil) .nil)
  .nil)
def bd__law_good_plan_1 : Sms := (.cons (.ite (.not (.call 29 (.cons (.v 1) (.cons (.lst (.cons (.c (.int 4)) .nil)) .nil)))) (.cons (.ret (.c (.bool false)))
  .nil) .nil)
  (.cons (.for_ (.n 2) (.tup (.slc false true (.v 1) (.c .none) (.c (.int 2)))) bd__law_good_plan_0)
  (.cons (.ite (.or (.not (.call 28 (.cons (.idx (.v 1) (.c (.int 2))) (.cons (.c (.int 1)) (.cons (.c (.int 3)) .nil))))) (.not (.call 28 (.cons (.idx (.v 1) (.c (.int 3))) (.cons (.c (.int 1)) (.cons (.idx (.idx (.v 1) (.c (.int 0))) (.c (.int 0))) .nil)))))) (.cons (.ret (.c (.bool false)))
  .nil) .nil)
  .nil)))
def cm__law_good_plan_0 : Ex := (.comp (.c (.int 1)) (.t [(.n 3), (.n 4)]) (.tup (.idx (.idx (.v 0) (.c (.int 0))) (.c (.int 0)))) (.cmp .ge (.v 3) (.bi .len (.cons (.idx (.v 0) (.c (.int 1))) .nil))) [3, 4])
def d__law_good_plan : Df := ⟨"_law_good_plan", ["value", "sender", "span", "channel", "ticks"], 1, [false], false,
  (.cons (.ite (.or (.not (.call 29 (.cons (.v 0) (.cons (.lst (.cons (.c (.int 2)) .nil)) .nil)))) (.or (.not (.call 30 (.cons (.idx (.v 0) (.c (.int 0))) .nil))) (.not (.call 29 (.cons (.idx (.v 0) (.c (.int 1))) (.cons (.lst (.cons (.c (.int 2)) (.cons (.c (.int 3)) .nil))) .nil)))))) (.cons (.ret (.c (.bool false)))
  .nil) .nil)
  (.cons (.for_ (.n 1) (.tup (.idx (.v 0) (.c (.int 1)))) bd__law_good_plan_1)
  (.cons (.ite (.cmp .ne cm__law_good_plan_0 (.lst .nil)) (.cons (.ret (.c (.bool false)))
  .nil) .nil)
  (.cons (.ret (.cmp .le (.call 21 (.cons (.v 0) .nil)) (.c (.int 6000))))
  .nil))))⟩
def cm__law_good_part_0 : Ex := (.comp (.c (.int 1)) (.n 7) (.tup (.slc true false (.v 1) (.c (.int 1)) (.c .none))) (.not (.call 28 (.cons (.v 7) (.cons (.c (.int 0)) (.cons (.c (.int 0)) .nil))))) [7])
def d__law_good_part : Df := ⟨"_law_good_part", ["sender", "part", "call", "pause", "times", "need", "good", "number"], 2, [false, false], false,
  (.cons (.asg (.t [(.n 2), (.n 3), (.n 4), (.n 5)]) (.v 0))
  (.cons (.ite (.or (.not (.call 29 (.cons (.v 1) (.cons (.lst (.cons (.c (.int 4)) .nil)) .nil)))) (.not (.isi (.idx (.v 1) (.c (.int 0))) [.str]))) (.cons (.ret (.c (.bool false)))
  .nil) .nil)
  (.cons (.ite (.cmp .eq (.idx (.v 1) (.c (.int 0))) (.c (.str "idle"))) (.cons (.ret (.cmp .eq cm__law_good_part_0 (.lst .nil)))
  .nil) .nil)
  (.cons (.ite (.cmp .eq (.idx (.v 1) (.c (.int 0))) (.c (.str "pause"))) (.cons (.set 6 (.and (.call 28 (.cons (.idx (.v 1) (.c (.int 1))) (.cons (.c (.int 1)) (.cons (.bin .sub (.v 4) (.c (.int 1))) .nil)))) (.call 28 (.cons (.idx (.v 1) (.c (.int 2))) (.cons (.c (.int 0)) (.cons (.bin .sub (.idx (.v 3) (.c (.int 1))) (.c (.int 1))) .nil))))))
  (.cons (.ret (.and (.v 6) (.call 28 (.cons (.idx (.v 1) (.c (.int 3))) (.cons (.c (.int 0)) (.cons (.c (.int 0)) .nil))))))
  .nil)) .nil)
  (.cons (.ite (.or (.cmp .ne (.idx (.v 1) (.c (.int 0))) (.c (.str "call"))) (.or (.not (.call 28 (.cons (.idx (.v 1) (.c (.int 1))) (.cons (.c (.int 0)) (.cons (.bin .sub (.v 4) (.c (.int 1))) .nil))))) (.not (.call 28 (.cons (.idx (.v 1) (.c (.int 2))) (.cons (.c (.int 0)) (.cons (.bin .sub (.idx (.v 2) (.c (.int 1))) (.c (.int 1))) .nil))))))) (.cons (.ret (.c (.bool false)))
  .nil) .nil)
  (.cons (.ret (.call 28 (.cons (.idx (.v 1) (.c (.int 3))) (.cons (.c (.int 0)) (.cons (.bi .min2 (.cons (.idx (.v 1) (.c (.int 2))) (.cons (.v 5) .nil))) .nil)))))
  .nil))))))⟩
def cm__law_good_stand_0 : Ex := (.comp (.c (.int 1)) (.t [(.n 8), (.n 9)]) (.zip (.idx (.v 0) (.c (.int 1))) (.idx (.v 1) (.c (.int 1)))) (.not (.call 32 (.cons (.v 8) (.cons (.v 9) .nil)))) [8, 9])
def d__law_good_stand : Df := ⟨"_law_good_stand", ["plan", "value", "rows", "hang", "back", "row", "passed", "silent", "sender", "part"], 2, [false, false], false,
  (.cons (.ite (.or (.not (.call 29 (.cons (.v 1) (.cons (.lst (.cons (.c (.int 2)) .nil)) .nil)))) (.or (.not (.call 29 (.cons (.idx (.v 1) (.c (.int 0))) (.cons (.lst (.cons (.c (.int 3)) .nil)) .nil)))) (.not (.call 29 (.cons (.idx (.v 1) (.c (.int 1))) (.cons (.lst (.cons (.bi .len (.cons (.idx (.v 0) (.c (.int 1))) .nil)) .nil)) .nil)))))) (.cons (.ret (.c (.bool false)))
  .nil) .nil)
  (.cons (.asg (.t [(.n 2), (.n 3), (.n 4)]) (.idx (.v 0) (.c (.int 0))))
  (.cons (.asg (.t [(.n 5), (.n 6), (.n 7)]) (.idx (.v 1) (.c (.int 0))))
  (.cons (.ite (.or (.not (.call 28 (.cons (.v 5) (.cons (.c (.int 0)) (.cons (.bin .sub (.bi .len (.cons (.v 2) .nil)) (.c (.int 1))) .nil))))) (.not (.call 28 (.cons (.v 6) (.cons (.c (.int 0)) (.cons (.bin .sub (.idx (.idx (.v 2) (.v 5)) (.c (.int 1))) (.c (.int 1))) .nil)))))) (.cons (.ret (.c (.bool false)))
  .nil) .nil)
  (.cons (.ite (.not (.call 28 (.cons (.v 7) (.cons (.neg (.c (.int 1))) (.cons (.ite (.isN (.v 3)) (.neg (.c (.int 1))) (.v 3)) .nil))))) (.cons (.ret (.c (.bool false)))
  .nil) .nil)
  (.cons (.ret (.cmp .eq cm__law_good_stand_0 (.lst .nil)))
  .nil))))))⟩
def d__law_bent : Df := ⟨"_law_bent", ["spring", "value", "some", "at", "way"], 2, [true, false], false,
  (.cons (.ite (.and (.isi (.v 1) [.tuple]) (.and (.cmp .ne (.v 1) (.tup .nil)) (.cmp .gt (.call 15 (.cons (.s 0) (.cons (.c (.int 6)) .nil))) (.c (.int 0))))) (.cons (.par [(3, false), (4, false)] (.cons (.call 15 (.cons (.s 0) (.cons (.bi .len (.cons (.v 1) .nil)) .nil))) (.cons (.call 15 (.cons (.s 0) (.cons (.c (.int 7)) .nil))) .nil)))
  (.cons (.ite (.cmp .eq (.v 4) (.c (.int 0))) (.cons (.ret (.bin .add (.slc false true (.v 1) (.c .none) (.v 3)) (.slc true false (.v 1) (.bin .add (.v 3) (.c (.int 1))) (.c .none))))
  .nil) .nil)
  (.cons (.ite (.cmp .eq (.v 4) (.c (.int 1))) (.cons (.ret (.bin .add (.bin .add (.slc false true (.v 1) (.c .none) (.v 3)) (.slc true true (.v 1) (.v 3) (.bin .add (.v 3) (.c (.int 1))))) (.slc true false (.v 1) (.v 3) (.c .none))))
  .nil) .nil)
  (.cons (.ret (.bin .add (.bin .add (.slc false true (.v 1) (.c .none) (.v 3)) (.tup (.cons (.call 34 (.cons (.s 0) (.cons (.idx (.v 1) (.v 3)) .nil))) .nil))) (.slc true false (.v 1) (.bin .add (.v 3) (.c (.int 1))) (.c .none))))
  .nil)))) .nil)
  (.cons (.set 2 (.lst (.cons (.c .none) (.cons (.c (.bool true)) (.cons (.c (.bool false)) (.cons (.c (.int 0)) (.cons (.c (.int 1)) (.cons (.c (.int 2)) (.cons (.c (.int 3)) (.cons (.c (.int 4)) (.cons (.c (.int 5)) (.cons (.neg (.c (.int 1))) (.cons (.neg (.c (.int 2))) (.cons (.bin .pow (.c (.int 10)) (.c (.int 30))) (.cons (.c (.str "idle")) (.cons (.c (.str "call")) (.cons (.c (.str "pause")) (.cons (.c (.str "")) (.cons (.tup .nil) (.cons (.lst .nil) (.cons (.tup (.cons (.c (.int 0)) (.cons (.c (.int 1)) .nil))) .nil)))))))))))))))))))))
  (.cons (.set 2 (.bin .add (.v 2) (.lst (.cons (.tup (.cons (.c (.int 2)) (.cons (.c (.int 1)) .nil))) (.cons (.tup (.cons (.c (.int 1)) (.cons (.c (.int 4)) .nil))) (.cons (.tup (.cons (.c (.int 4)) (.cons (.c (.int 4)) .nil))) (.cons (.tup (.cons (.c (.str "idle")) (.cons (.c (.int 0)) (.cons (.c (.int 0)) (.cons (.c (.int 0)) .nil))))) (.cons (.tup (.cons (.c (.str "call")) (.cons (.c (.int 0)) (.cons (.c (.int 1)) (.cons (.c (.int 1)) .nil))))) (.cons (.tup (.cons (.c (.str "pause")) (.cons (.c (.int 1)) (.cons (.c (.int 0)) (.cons (.c (.int 0)) .nil))))) (.cons (.tup (.cons (.c (.int 0)) (.cons (.c (.int 0)) (.cons (.neg (.c (.int 1))) .nil)))) .nil))))))))))
  (.cons (.ret (.idx (.v 2) (.call 15 (.cons (.s 0) (.cons (.bi .len (.cons (.v 2) .nil)) .nil)))))
  .nil))))⟩
def cm_law_k01_0 : Ex := (.comp (.call 34 (.cons (.s 4) (.cons (.v 5) .nil))) (.n 7) (.range1 (.c (.int 25))) (.c (.bool true)) [7])
def cm_law_k01_1 : Ex := (.comp (.c (.int 1)) (.n 12) (.tup (.v 2)) (.not (.call 17 (.cons (.call 6 (.cons (.v 12) .nil)) (.cons (.call 31 (.cons (.v 12) .nil)) .nil)))) [12])
def cm_law_k01_2 : Ex := (.comp (.call 34 (.cons (.s 4) (.cons (.idx (.v 5) (.c (.int 0))) .nil))) (.n 7) (.range1 (.c (.int 15))) (.c (.bool true)) [7])
def cm_law_k01_3 : Ex := (.comp (.c (.int 1)) (.n 12) (.tup (.v 2)) (.not (.call 17 (.cons (.call 2 (.cons (.v 12) .nil)) (.cons (.call 30 (.cons (.v 12) .nil)) .nil)))) [12])
def bd_law_k01_0 : Sms := (.cons (.set 9 (.call 25 (.cons (.v 5) (.cons (.v 6) .nil))))
  (.cons (.set 6 (.idx (.call 27 (.cons (.v 5) (.cons (.v 6) (.cons (.idx (.v 9) (.call 15 (.cons (.s 4) (.cons (.bi .len (.cons (.v 9) .nil)) .nil)))) .nil)))) (.c (.int 0))))
  .nil))
def cm_law_k01_4 : Ex := (.comp (.call 34 (.cons (.s 4) (.cons (.v 6) .nil))) (.n 7) (.range1 (.c (.int 25))) (.c (.bool true)) [7])
def cm_law_k01_5 : Ex := (.comp (.c (.int 1)) (.n 12) (.tup (.v 2)) (.not (.call 17 (.cons (.call 13 (.cons (.v 5) (.cons (.v 12) .nil))) (.cons (.call 33 (.cons (.v 5) (.cons (.v 12) .nil))) .nil)))) [12])
def bd_law_k01_1 : Sms := (.cons (.setO 4 (.call 14 (.cons (.v 0) (.cons (.v 1) .nil))))
  (.cons (.set 5 (.call 22 (.cons (.s 4) (.cons (.c (.int 3)) (.cons (.c (.int 6000)) .nil)))))
  (.cons (.set 2 (.bin .add (.lst (.cons (.v 5) (.cons (.bi .list (.cons (.v 5) .nil)) (.cons (.idx (.v 5) (.c (.int 0))) .nil)))) cm_law_k01_0))
  (.cons (.ite (.or (.not (.call 31 (.cons (.v 5) .nil))) (.cmp .ne cm_law_k01_1 (.lst .nil))) (.cons (.ret (.c (.bool false)))
  .nil) .nil)
  (.cons (.set 2 (.bin .add (.lst (.cons (.idx (.v 5) (.c (.int 0))) (.cons (.v 5) (.cons (.c .none) .nil)))) cm_law_k01_2))
  (.cons (.ite (.cmp .ne cm_law_k01_3 (.lst .nil)) (.cons (.ret (.c (.bool false)))
  .nil) .nil)
  (.cons (.set 6 (.call 23 (.cons (.v 5) .nil)))
  (.cons (.ite (.not (.call 17 (.cons (.call 9 (.cons (.v 5) .nil)) (.cons (.v 6) .nil)))) (.cons (.ret (.c (.bool false)))
  .nil) .nil)
  (.cons (.for_ (.n 7) (.range1 (.call 15 (.cons (.s 4) (.cons (.c (.int 15)) .nil)))) bd_law_k01_0)
  (.cons (.set 2 (.bin .add (.lst (.cons (.v 6) (.cons (.bi .list (.cons (.v 6) .nil)) .nil))) cm_law_k01_4))
  (.cons (.ite (.cmp .ne cm_law_k01_5 (.lst .nil)) (.cons (.ret (.c (.bool false)))
  .nil) .nil)
  .nil)))))))))))
def bd_law_k01_2 : Sms := (.cons (.set 11 (.tup (.cons (.tup (.cons (.v 8) (.cons (.v 8) .nil))) (.cons (.tup (.cons (.c (.int 1)) (.cons (.v 8) .nil))) (.cons (.v 10) (.cons (.v 8) .nil))))))
  (.cons (.app 2 (.tup (.cons (.tup (.cons (.tup (.cons (.tup (.cons (.c (.int 0)) (.cons (.c (.int 4)) .nil))) (.cons (.tup (.cons (.c (.int 1)) (.cons (.c (.int 4)) .nil))) (.cons (.tup (.cons (.c (.int 0)) (.cons (.c (.int 4)) .nil))) (.cons (.tup (.cons (.c (.int 1)) (.cons (.c (.int 4)) .nil))) .nil))))) (.cons (.v 3) (.cons (.c .none) .nil)))) (.cons (.tup (.cons (.v 11) (.cons (.v 11) .nil))) .nil))))
  (.cons (.app 2 (.tup (.cons (.tup (.cons (.tup (.cons (.tup (.cons (.c (.int 0)) (.cons (.v 8) .nil))) (.cons (.tup (.cons (.c (.int 2)) (.cons (.c (.int 1)) .nil))) .nil))) (.cons (.v 3) (.cons (.c .none) .nil)))) (.cons (.tup (.cons (.v 11) (.cons (.v 11) (.cons (.tup (.cons (.tup (.cons (.c (.int 1)) (.cons (.c (.int 1)) .nil))) (.cons (.tup (.cons (.c (.int 1)) (.cons (.c (.int 1)) .nil))) (.cons (.c (.int 1)) (.cons (.c (.int 1)) .nil))))) .nil)))) .nil))))
  .nil)))
def bd_law_k01_3 : Sms := (.cons (.for_ (.n 10) (.range2 (.c (.int 1)) (.c (.int 4))) bd_law_k01_2)
  .nil)
def bd_law_k01_4 : Sms := (.cons (.for_ (.n 8) (.range2 (.c (.int 1)) (.c (.int 5))) bd_law_k01_3)
  .nil)
def cm_law_k01_6 : Ex := (.comp (.c (.int 1)) (.n 12) (.tup (.fz 2)) (.not (.call 17 (.cons (.call 6 (.cons (.v 12) .nil)) (.cons (.call 31 (.cons (.v 12) .nil)) .nil)))) [12])
def d_law_k01 : Df := ⟨"law", ["script", "at", "some", "hang", "spring", "plan", "stand", "turn", "high", "rows", "times", "sender", "one"], 1, [false], false,
  (.cons (.for_ (.n 1) (.range1 (.bin .add (.bi .min2 (.cons (.bi .len (.cons (.v 0) .nil)) (.cons (.c (.int 8)) .nil))) (.c (.int 1)))) bd_law_k01_1)
  (.cons (.setO 2 (.lst .nil))
  (.cons (.for_ (.n 3) (.tup (.lst (.cons (.c .none) (.cons (.c (.int 0)) (.cons (.c (.int 1)) (.cons (.c (.int 2)) .nil)))))) bd_law_k01_4)
  (.cons (.ret (.cmp .eq cm_law_k01_6 (.lst .nil)))
  .nil))))⟩
def d_look_at_stand : Df := ⟨"look_at_stand", ["plan", "stand"], 2, [false, false], false,
  (.cons (.ite (.not (.call 12 (.cons (.v 0) (.cons (.v 1) .nil)))) (.cons .dead
  .nil) .nil)
  .nil)⟩
def d_channel_of : Df := ⟨"channel_of", ["receiver", "ear"], 2, [false, false], false,
  (.cons (.ret (.idx (.idx (.idx (.v 0) (.c (.int 0))) (.idx (.v 1) (.c (.int 0)))) (.c (.int 0))))
  .nil)⟩
def d_heard_at : Df := ⟨"heard_at", ["plan", "stand", "channel"], 2, [false, false], false,
  (.cons (.set 2 (.call 37 (.cons (.idx (.v 0) (.c (.int 0))) (.cons (.idx (.v 1) (.c (.int 0))) .nil))))
  (.cons (.ret (.ite (.cmp .eq (.idx (.idx (.idx (.v 1) (.c (.int 1))) (.v 2)) (.c (.int 0))) (.c (.str "call"))) (.v 2) (.c .none)))
  .nil))⟩
def d_entered : Df := ⟨"entered", ["receiver", "row"], 2, [false, false], false,
  (.cons (.ret (.tup (.cons (.bin .mod (.v 1) (.bi .len (.cons (.idx (.v 0) (.c (.int 0))) .nil))) (.cons (.c (.int 0)) (.cons (.neg (.c (.int 1))) .nil)))))
  .nil)⟩
def d_ear_behind : Df := ⟨"ear_behind", ["receiver", "ear", "heard", "rows", "hang", "back", "row", "passed", "silent"], 3, [false, false, false], false,
  (.cons (.asg (.t [(.t [(.n 3), (.n 4), (.n 5)]), (.t [(.n 6), (.n 7), (.n 8)])]) (.tup (.cons (.v 0) (.cons (.v 1) .nil))))
  (.cons (.ite (.and (.notN (.v 4)) (.v 2)) (.cons (.ret (.tup (.cons (.v 6) (.cons (.v 7) (.cons (.c (.int 0)) .nil)))))
  .nil) .nil)
  (.cons (.ite (.cmp .ge (.v 8) (.c (.int 0))) (.cons (.ite (.cmp .lt (.v 8) (.v 4)) (.cons (.ret (.tup (.cons (.v 6) (.cons (.v 7) (.cons (.bin .add (.v 8) (.c (.int 1))) .nil)))))
  .nil) .nil)
  (.cons (.ret (.call 39 (.cons (.v 0) (.cons (.ite (.isN (.v 5)) (.bin .add (.v 6) (.c (.int 1))) (.v 5)) .nil))))
  .nil)) .nil)
  (.cons (.ite (.cmp .eq (.bin .add (.v 7) (.c (.int 1))) (.idx (.idx (.v 3) (.v 6)) (.c (.int 1)))) (.cons (.ret (.call 39 (.cons (.v 0) (.cons (.bin .add (.v 6) (.c (.int 1))) .nil))))
  .nil) .nil)
  (.cons (.ret (.tup (.cons (.v 6) (.cons (.bin .add (.v 7) (.c (.int 1))) (.cons (.neg (.c (.int 1))) .nil)))))
  .nil)))))⟩
def d_span_of : Df := ⟨"span_of", ["sender", "step"], 2, [false, false], false,
  (.cons (.ret (.ite (.cmp .eq (.v 1) (.c (.str "call"))) (.idx (.v 0) (.c (.int 0))) (.idx (.v 0) (.c (.int 1)))))
  .nil)⟩
def d_is_free : Df := ⟨"is_free", ["sender", "part", "low", "high"], 2, [false, false], false,
  (.cons (.ite (.cmp .eq (.idx (.v 1) (.c (.int 0))) (.c (.str "idle"))) (.cons (.ret (.c (.bool true)))
  .nil) .nil)
  (.cons (.asg (.t [(.n 2), (.n 3)]) (.call 41 (.cons (.v 0) (.cons (.idx (.v 1) (.c (.int 0))) .nil))))
  (.cons (.ret (.chain .le .lt (.v 2) (.bin .add (.idx (.v 1) (.c (.int 2))) (.c (.int 1))) (.v 3)))
  .nil)))⟩
def cm_choices_of_0 : Ex := (.comp2 (.bin .add (.v 6) (.tup (.cons (.v 7) .nil))) (.n 6) (.tup (.v 2)) (.n 7) (.tup (.v 5)) [6, 7])
def bd_choices_of_0 : Sms := (.cons (.set 5 (.ite (.call 42 (.cons (.v 3) (.cons (.v 4) .nil))) (.lst (.cons (.c (.bool false)) (.cons (.c (.bool true)) .nil))) (.lst (.cons (.c (.bool false)) .nil))))
  (.cons (.set 2 cm_choices_of_0)
  .nil))
def d_choices_of : Df := ⟨"choices_of", ["plan", "stand", "found", "sender", "part", "some", "row", "goes"], 2, [false, false], false,
  (.cons (.set 2 (.lst (.cons (.tup .nil) .nil)))
  (.cons (.for_ (.t [(.n 3), (.n 4)]) (.zip (.idx (.v 0) (.c (.int 1))) (.idx (.v 1) (.c (.int 1)))) bd_choices_of_0)
  (.cons (.ret (.v 2))
  .nil)))⟩
def d_goes_on : Df := ⟨"goes_on", ["sender", "part", "chosen"], 3, [false, false, false], false,
  (.cons (.ret (.or (.v 2) (.and (.cmp .ne (.idx (.v 1) (.c (.int 0))) (.c (.str "idle"))) (.cmp .eq (.bin .add (.idx (.v 1) (.c (.int 2))) (.c (.int 1))) (.idx (.call 41 (.cons (.v 0) (.cons (.idx (.v 1) (.c (.int 0))) .nil))) (.c (.int 1)))))))
  .nil)⟩
def d_sender_behind : Df := ⟨"sender_behind", ["sender", "part", "got", "goes", "step", "told", "passed", "before"], 4, [false, false, false, false], false,
  (.cons (.asg (.t [(.n 4), (.n 5), (.n 6), (.n 7)]) (.v 1))
  (.cons (.ite (.not (.v 3)) (.cons (.ret (.ite (.cmp .eq (.v 4) (.c (.str "idle"))) (.v 1) (.tup (.cons (.v 4) (.cons (.v 5) (.cons (.bin .add (.v 6) (.c (.int 1))) (.cons (.v 2) .nil)))))))
  .nil) .nil)
  (.cons (.ite (.cmp .eq (.v 4) (.c (.str "idle"))) (.cons (.ret (.tup (.cons (.c (.str "call")) (.cons (.c (.int 0)) (.cons (.c (.int 0)) (.cons (.c (.int 0)) .nil))))))
  .nil) .nil)
  (.cons (.ite (.cmp .eq (.v 4) (.c (.str "pause"))) (.cons (.ret (.tup (.cons (.c (.str "call")) (.cons (.v 5) (.cons (.c (.int 0)) (.cons (.c (.int 0)) .nil))))))
  .nil) .nil)
  (.cons (.ite (.or (.cmp .eq (.v 2) (.idx (.v 0) (.c (.int 3)))) (.cmp .eq (.bin .add (.v 5) (.c (.int 1))) (.idx (.v 0) (.c (.int 2))))) (.cons (.ret (.g 1))
  .nil) .nil)
  (.cons (.ret (.tup (.cons (.c (.str "pause")) (.cons (.bin .add (.v 5) (.c (.int 1))) (.cons (.c (.int 0)) (.cons (.c (.int 0)) .nil))))))
  .nil))))))⟩
def bd_got_by_0 : Sms := (.cons (.app 3 (.bi .min2 (.cons (.idx (.v 5) (.c (.int 3))) (.cons (.bin .add (.idx (.v 6) (.c (.int 3))) (.bi .int (.cons (.cmp .eq (.v 4) (.v 2)) .nil))) .nil))))
  .nil)
def d_got_by : Df := ⟨"got_by", ["plan", "stand", "heard", "found", "number", "sender", "part"], 2, [false, false], false,
  (.cons (.par [(2, false), (3, true)] (.cons (.call 38 (.cons (.v 0) (.cons (.v 1) .nil))) (.cons (.lst .nil) .nil)))
  (.cons (.for_ (.t [(.n 4), (.t [(.n 5), (.n 6)])]) (.enumZip (.idx (.v 0) (.c (.int 1))) (.idx (.v 1) (.c (.int 1)))) bd_got_by_0)
  (.cons (.ret (.fz 3))
  .nil)))⟩
def bd_behind_0 : Sms := (.cons (.app 4 (.call 45 (.cons (.v 6) (.cons (.v 7) (.cons (.idx (.v 3) (.v 5)) (.cons (.call 44 (.cons (.v 6) (.cons (.v 7) (.cons (.idx (.v 2) (.v 5)) .nil)))) .nil))))))
  .nil)
def d_behind : Df := ⟨"behind", ["plan", "stand", "choice", "got", "found", "number", "sender", "part"], 3, [false, false, false], false,
  (.cons (.par [(3, false), (4, true)] (.cons (.call 46 (.cons (.v 0) (.cons (.v 1) .nil))) (.cons (.lst .nil) .nil)))
  (.cons (.for_ (.t [(.n 5), (.t [(.n 6), (.n 7)])]) (.enumZip (.idx (.v 0) (.c (.int 1))) (.idx (.v 1) (.c (.int 1)))) bd_behind_0)
  (.cons (.ret (.tup (.cons (.call 40 (.cons (.idx (.v 0) (.c (.int 0))) (.cons (.idx (.v 1) (.c (.int 0))) (.cons (.notN (.call 38 (.cons (.v 0) (.cons (.v 1) .nil)))) .nil)))) (.cons (.bi .tuple (.cons (.s 4) .nil)) .nil))))
  .nil)))⟩
def bd_ends_by_0 : Sms := (.cons (.ite (.and (.cmp .eq (.idx (.v 9) (.c (.int 0))) (.c (.str "call"))) (.chain .lt .eq (.idx (.v 9) (.c (.int 3))) (.idx (.v 8) (.c (.int 3))) (.idx (.v 3) (.v 6)))) (.cons (.set 4 (.bin .add (.v 4) (.tup (.cons (.v 6) .nil))))
  .nil) .nil)
  (.cons (.set 7 (.and (.cmp .eq (.bin .add (.idx (.v 9) (.c (.int 1))) (.c (.int 1))) (.idx (.v 8) (.c (.int 2)))) (.call 44 (.cons (.v 8) (.cons (.v 9) (.cons (.idx (.v 2) (.v 6)) .nil))))))
  (.cons (.ite (.and (.cmp .eq (.idx (.v 9) (.c (.int 0))) (.c (.str "call"))) (.and (.v 7) (.cmp .lt (.idx (.v 3) (.v 6)) (.idx (.v 8) (.c (.int 3)))))) (.cons (.set 5 (.bin .add (.v 5) (.tup (.cons (.v 6) .nil))))
  .nil) .nil)
  .nil)))
def d_ends_by : Df := ⟨"ends_by", ["plan", "stand", "choice", "got", "heard", "missed", "number", "last", "sender", "part"], 3, [false, false, false], false,
  (.cons (.par [(3, false), (4, false), (5, false)] (.cons (.call 46 (.cons (.v 0) (.cons (.v 1) .nil))) (.cons (.tup .nil) (.cons (.tup .nil) .nil))))
  (.cons (.for_ (.t [(.n 6), (.t [(.n 8), (.n 9)])]) (.enumZip (.idx (.v 0) (.c (.int 1))) (.idx (.v 1) (.c (.int 1)))) bd_ends_by_0)
  (.cons (.ret (.tup (.cons (.v 4) (.cons (.v 5) .nil))))
  .nil)))⟩
def cm_is_like_0 : Ex := (.comp (.isi (.v 2) [.bool]) (.n 2) (.tup (.v 0)) (.c (.bool true)) [2])
def d_is_like : Df := ⟨"is_like", ["value", "some", "part"], 2, [false, false], false,
  (.cons (.ret (.and (.isi (.v 0) [.tuple]) (.and (.bi .all (.cons cm_is_like_0 .nil)) (.cmp .isin (.v 0) (.v 1)))))
  .nil)⟩
def bd_stands_of_0 : Sms := (.cons (.ite (.not (.call 49 (.cons (.v 4) (.cons (.call 43 (.cons (.v 0) (.cons (.idx (.s 3) (.neg (.c (.int 1)))) .nil))) .nil)))) (.cons (.ret (.fz 3))
  .nil) .nil)
  (.cons (.app 3 (.call 47 (.cons (.v 0) (.cons (.idx (.s 3) (.neg (.c (.int 1)))) (.cons (.v 4) .nil)))))
  .nil))
def d_stands_of : Df := ⟨"stands_of", ["plan", "stand", "choices", "found", "choice"], 3, [false, false, false], false,
  (.cons (.setO 3 (.lst (.cons (.v 1) .nil)))
  (.cons (.for_ (.n 4) (.tup (.v 2)) bd_stands_of_0)
  (.cons (.ret (.fz 3))
  .nil)))⟩
def d_fits_run : Df := ⟨"fits_run", ["plan", "value"], 2, [false, false], false,
  (.cons (.ite (.or (.not (.isi (.v 1) [.tuple])) (.cmp .gt (.bi .len (.cons (.v 1) .nil)) (.g 2))) (.cons (.ret (.c (.bool false)))
  .nil) .nil)
  (.cons (.ret (.cmp .eq (.bi .len (.cons (.call 50 (.cons (.v 0) (.cons (.call 8 (.cons (.v 0) .nil)) (.cons (.v 1) .nil)))) .nil)) (.bin .add (.bi .len (.cons (.v 1) .nil)) (.c (.int 1)))))
  .nil))⟩
def d_look_at_choice : Df := ⟨"look_at_choice", ["plan", "stand", "choice"], 3, [false, false, false], false,
  (.cons (.ite (.not (.call 49 (.cons (.v 2) (.cons (.call 43 (.cons (.v 0) (.cons (.v 1) .nil))) .nil)))) (.cons .dead
  .nil) .nil)
  .nil)⟩
def d_hears : Df := ⟨"hears", ["plan", "stand"], 2, [false, false], false,
  (.cons (.ex (.call 7 (.cons (.v 0) .nil)))
  (.cons (.ex (.call 36 (.cons (.v 0) (.cons (.v 1) .nil))))
  (.cons (.ret (.call 38 (.cons (.v 0) (.cons (.v 1) .nil))))
  .nil)))⟩
def d_choices_at : Df := ⟨"choices_at", ["plan", "stand"], 2, [false, false], false,
  (.cons (.ex (.call 7 (.cons (.v 0) .nil)))
  (.cons (.ex (.call 36 (.cons (.v 0) (.cons (.v 1) .nil))))
  (.cons (.ret (.call 43 (.cons (.v 0) (.cons (.v 1) .nil))))
  .nil)))⟩
def d_after : Df := ⟨"after", ["plan", "stand", "choice"], 3, [false, false, false], false,
  (.cons (.ex (.call 7 (.cons (.v 0) .nil)))
  (.cons (.ex (.call 36 (.cons (.v 0) (.cons (.v 1) .nil))))
  (.cons (.ex (.call 52 (.cons (.v 0) (.cons (.v 1) (.cons (.v 2) .nil)))))
  (.cons (.ret (.call 47 (.cons (.v 0) (.cons (.v 1) (.cons (.v 2) .nil)))))
  .nil))))⟩
def d_ends : Df := ⟨"ends", ["plan", "stand", "choice"], 3, [false, false, false], false,
  (.cons (.ex (.call 7 (.cons (.v 0) .nil)))
  (.cons (.ex (.call 36 (.cons (.v 0) (.cons (.v 1) .nil))))
  (.cons (.ex (.call 52 (.cons (.v 0) (.cons (.v 1) (.cons (.v 2) .nil)))))
  (.cons (.ret (.call 48 (.cons (.v 0) (.cons (.v 1) (.cons (.v 2) .nil)))))
  .nil))))⟩
def d_is_run : Df := ⟨"is_run", ["plan", "value"], 2, [false, false], false,
  (.cons (.ex (.call 7 (.cons (.v 0) .nil)))
  (.cons (.ret (.call 51 (.cons (.v 0) (.cons (.v 1) .nil))))
  .nil))⟩
def d_stand_behind : Df := ⟨"stand_behind", ["plan", "run"], 2, [false, false], false,
  (.cons (.ex (.call 7 (.cons (.v 0) .nil)))
  (.cons (.ite (.not (.call 51 (.cons (.v 0) (.cons (.v 1) .nil)))) (.cons .dead
  .nil) .nil)
  (.cons (.ret (.idx (.call 50 (.cons (.v 0) (.cons (.call 8 (.cons (.v 0) .nil)) (.cons (.v 1) .nil)))) (.neg (.c (.int 1)))))
  .nil)))⟩
def bd_law_k02_0 : Sms := (.cons (.set 10 (.call 25 (.cons (.v 6) (.cons (.v 8) .nil))))
  (.cons (.set 11 (.idx (.v 10) (.call 15 (.cons (.s 2) (.cons (.bi .len (.cons (.v 10) .nil)) .nil)))))
  (.cons (.asg (.t [(.n 15), (.n 16), (.n 17)]) (.call 27 (.cons (.v 6) (.cons (.v 8) (.cons (.v 11) .nil)))))
  (.cons (.set 12 (.idx (.idx (.idx (.idx (.v 6) (.c (.int 0))) (.c (.int 0))) (.idx (.idx (.v 8) (.c (.int 0))) (.c (.int 0)))) (.c (.int 0))))
  (.cons (.set 13 (.lst (.cons (.call 54 (.cons (.v 6) (.cons (.v 8) .nil))) (.cons (.call 53 (.cons (.v 6) (.cons (.v 8) .nil))) (.cons (.call 55 (.cons (.v 6) (.cons (.v 8) (.cons (.v 11) .nil)))) .nil)))))
  (.cons (.ite (.not (.call 17 (.cons (.v 13) (.cons (.lst (.cons (.v 10) (.cons (.ite (.cmp .isin (.v 12) (.call 24 (.cons (.v 8) .nil))) (.v 12) (.c .none)) (.cons (.v 15) .nil)))) .nil)))) (.cons (.ret (.c (.bool false)))
  .nil) .nil)
  (.cons (.ite (.not (.call 17 (.cons (.call 56 (.cons (.v 6) (.cons (.v 8) (.cons (.v 11) .nil)))) (.cons (.tup (.cons (.v 16) (.cons (.v 17) .nil))) .nil)))) (.cons (.ret (.c (.bool false)))
  .nil) .nil)
  (.cons (.par [(7, false), (8, false)] (.cons (.bin .add (.v 7) (.tup (.cons (.v 11) .nil))) (.cons (.v 15) .nil)))
  .nil))))))))
def cm_law_k02_0 : Ex := (.comp (.v 18) (.n 18) (.tup (.call 25 (.cons (.v 6) (.cons (.v 8) .nil)))) (.call 17 (.cons (.v 18) (.cons (.v 5) .nil))) [18])
def bd_law_k02_1 : Sms := (.cons (.set 14 (.cmp .ne cm_law_k02_0 (.lst .nil)))
  (.cons (.ite (.not (.call 17 (.cons (.call 57 (.cons (.v 6) (.cons (.bin .add (.v 7) (.tup (.cons (.v 5) .nil))) .nil))) (.cons (.and (.v 14) (.cmp .lt (.bi .len (.cons (.v 7) .nil)) (.c (.int 60)))) .nil)))) (.cons (.ret (.c (.bool false)))
  .nil) .nil)
  .nil))
def bd_law_k02_2 : Sms := (.cons (.setO 2 (.call 14 (.cons (.v 0) (.cons (.v 1) .nil))))
  (.cons (.par [(6, false), (7, false)] (.cons (.call 22 (.cons (.s 2) (.cons (.c (.int 3)) (.cons (.c (.int 6000)) .nil)))) (.cons (.tup .nil) .nil)))
  (.cons (.par [(8, false), (9, false)] (.cons (.call 23 (.cons (.v 6) .nil)) (.cons (.idx (.lst (.cons (.c (.int 6)) (.cons (.c (.int 25)) (.cons (.c (.int 60)) .nil)))) (.call 15 (.cons (.s 2) (.cons (.c (.int 3)) .nil)))) .nil)))
  (.cons (.for_ (.n 3) (.range1 (.call 15 (.cons (.s 2) (.cons (.bin .add (.v 9) (.c (.int 1))) .nil)))) bd_law_k02_0)
  (.cons (.ite (.not (.call 17 (.cons (.lst (.cons (.call 57 (.cons (.v 6) (.cons (.v 7) .nil))) (.cons (.call 58 (.cons (.v 6) (.cons (.v 7) .nil))) .nil))) (.cons (.lst (.cons (.c (.bool true)) (.cons (.v 8) .nil))) .nil)))) (.cons (.ret (.c (.bool false)))
  .nil) .nil)
  (.cons (.set 4 (.bi .len (.cons (.idx (.v 6) (.c (.int 1))) .nil)))
  (.cons (.for_ (.n 5) (.tup (.lst (.cons (.bin .mul (.tup (.cons (.c (.bool true)) .nil)) (.v 4)) (.cons (.bin .mul (.tup (.cons (.c (.bool false)) .nil)) (.v 4)) (.cons (.bin .mul (.tup (.cons (.c (.int 0)) .nil)) (.v 4)) (.cons (.bin .mul (.tup (.cons (.c (.bool false)) .nil)) (.bin .sub (.v 4) (.c (.int 1)))) (.cons (.bin .mul (.lst (.cons (.c (.bool false)) .nil)) (.v 4)) (.cons (.c .none) .nil)))))))) bd_law_k02_1)
  .nil)))))))
def d_law_k02 : Df := ⟨"law", ["script", "at", "spring", "turn", "many", "odd", "plan", "past", "stand", "most", "rows", "choice", "channel", "told", "good", "there", "heard", "missed", "row"], 1, [false], false,
  (.cons (.for_ (.n 1) (.range1 (.bin .add (.bi .min2 (.cons (.bi .len (.cons (.v 0) .nil)) (.cons (.c (.int 8)) .nil))) (.c (.int 1)))) bd_law_k02_2)
  (.cons (.ret (.c (.bool true)))
  .nil))⟩
def d__law_any_part : Df := ⟨"_law_any_part", ["spring", "sender", "step", "call", "pause", "times", "need", "passed"], 2, [true, false], false,
  (.cons (.asg (.t [(.n 3), (.n 4), (.n 5), (.n 6)]) (.v 1))
  (.cons (.set 2 (.idx (.lst (.cons (.c (.str "idle")) (.cons (.c (.str "call")) (.cons (.c (.str "call")) (.cons (.c (.str "pause")) .nil))))) (.call 15 (.cons (.s 0) (.cons (.c (.int 4)) .nil)))))
  (.cons (.ite (.cmp .eq (.v 2) (.c (.str "call"))) (.cons (.set 7 (.call 15 (.cons (.s 0) (.cons (.idx (.v 3) (.c (.int 1))) .nil))))
  (.cons (.ret (.tup (.cons (.v 2) (.cons (.call 15 (.cons (.s 0) (.cons (.v 5) .nil))) (.cons (.v 7) (.cons (.call 15 (.cons (.s 0) (.cons (.bin .add (.bi .min2 (.cons (.v 7) (.cons (.v 6) .nil))) (.c (.int 1))) .nil))) .nil))))))
  .nil)) .nil)
  (.cons (.ite (.and (.cmp .eq (.v 2) (.c (.str "pause"))) (.cmp .gt (.v 5) (.c (.int 1)))) (.cons (.ret (.tup (.cons (.v 2) (.cons (.bin .add (.c (.int 1)) (.call 15 (.cons (.s 0) (.cons (.bin .sub (.v 5) (.c (.int 1))) .nil)))) (.cons (.call 15 (.cons (.s 0) (.cons (.idx (.v 4) (.c (.int 1))) .nil))) (.cons (.c (.int 0)) .nil))))))
  .nil) .nil)
  (.cons (.ret (.tup (.cons (.c (.str "idle")) (.cons (.c (.int 0)) (.cons (.c (.int 0)) (.cons (.c (.int 0)) .nil))))))
  .nil)))))⟩
def cm_law_k03_0 : Ex := (.comp (.call 60 (.cons (.s 2) (.cons (.v 19) .nil))) (.n 19) (.tup (.idx (.v 3) (.c (.int 1)))) (.c (.bool true)) [19])
def bd_law_k03_0 : Sms := (.cons (.asg (.t [(.n 16), (.n 17), (.n 18)]) (.call 27 (.cons (.v 3) (.cons (.v 11) (.cons (.v 13) .nil)))))
  (.cons (.set 12 (.lst (.cons (.call 55 (.cons (.v 3) (.cons (.v 11) (.cons (.v 13) .nil)))) (.cons (.call 56 (.cons (.v 3) (.cons (.v 11) (.cons (.v 13) .nil)))) .nil))))
  (.cons (.ite (.not (.call 17 (.cons (.v 12) (.cons (.lst (.cons (.v 16) (.cons (.tup (.cons (.v 17) (.cons (.v 18) .nil))) .nil))) .nil)))) (.cons (.ret (.c (.bool false)))
  .nil) .nil)
  .nil)))
def bd_law_k03_1 : Sms := (.cons (.set 8 (.call 15 (.cons (.s 2) (.cons (.bi .len (.cons (.v 5) .nil)) .nil))))
  (.cons (.set 9 (.ite (.isN (.v 6)) (.neg (.c (.int 1))) (.bin .sub (.call 15 (.cons (.s 2) (.cons (.bin .add (.v 6) (.c (.int 2))) .nil))) (.c (.int 1)))))
  (.cons (.set 10 (.bi .tuple (.cons cm_law_k03_0 .nil)))
  (.cons (.set 11 (.tup (.cons (.tup (.cons (.v 8) (.cons (.call 15 (.cons (.s 2) (.cons (.idx (.idx (.v 5) (.v 8)) (.c (.int 1))) .nil))) (.cons (.v 9) .nil)))) (.cons (.v 10) .nil))))
  (.cons (.par [(14, false), (15, false)] (.cons (.idx (.idx (.v 5) (.v 8)) (.c (.int 0))) (.cons (.call 25 (.cons (.v 3) (.cons (.v 11) .nil))) .nil)))
  (.cons (.set 12 (.lst (.cons (.call 53 (.cons (.v 3) (.cons (.v 11) .nil))) (.cons (.call 54 (.cons (.v 3) (.cons (.v 11) .nil))) .nil))))
  (.cons (.ite (.not (.call 17 (.cons (.v 12) (.cons (.lst (.cons (.ite (.cmp .isin (.v 14) (.call 24 (.cons (.v 11) .nil))) (.v 14) (.c .none)) (.cons (.v 15) .nil))) .nil)))) (.cons (.ret (.c (.bool false)))
  .nil) .nil)
  (.cons (.for_ (.n 13) (.tup (.v 15)) bd_law_k03_0)
  .nil))))))))
def bd_law_k03_2 : Sms := (.cons (.setO 2 (.call 14 (.cons (.v 0) (.cons (.v 1) .nil))))
  (.cons (.set 3 (.call 22 (.cons (.s 2) (.cons (.c (.int 3)) (.cons (.c (.int 6000)) .nil)))))
  (.cons (.asg (.t [(.n 5), (.n 6), (.n 7)]) (.idx (.v 3) (.c (.int 0))))
  (.cons (.for_ (.n 4) (.range1 (.c (.int 12))) bd_law_k03_1)
  .nil))))
def d_law_k03 : Df := ⟨"law", ["script", "at", "spring", "plan", "turn", "rows", "hang", "back", "row", "silent", "parts", "stand", "told", "choice", "channel", "choices", "there", "heard", "missed", "sender"], 1, [false], false,
  (.cons (.for_ (.n 1) (.range1 (.bin .add (.bi .min2 (.cons (.bi .len (.cons (.v 0) .nil)) (.cons (.c (.int 7)) .nil))) (.c (.int 1)))) bd_law_k03_2)
  (.cons (.ret (.c (.bool true)))
  .nil))⟩
def d_look_at_sender : Df := ⟨"look_at_sender", ["plan", "sender"], 2, [false, false], false,
  (.cons (.ite (.not (.call 0 (.cons (.v 1) (.cons (.c (.int 0)) (.cons (.bin .sub (.bi .len (.cons (.idx (.v 0) (.c (.int 1))) .nil)) (.c (.int 1))) .nil))))) (.cons .dead
  .nil) .nil)
  .nil)⟩
def bd_ways_by_0 : Sms := (.cons (.set 7 (.call 47 (.cons (.v 0) (.cons (.v 5) (.cons (.v 6) .nil)))))
  (.cons (.ite (.cmp .notin (.v 7) (.s 2)) (.cons (.putD 2 (.v 7) (.bin .add (.idx (.s 2) (.v 5)) (.tup (.cons (.v 6) .nil))))
  (.cons (.app 3 (.v 7))
  .nil)) .nil)
  .nil))
def bd_ways_by_1 : Sms := (.cons (.set 5 (.idx (.s 3) (.v 4)))
  (.cons (.set 4 (.bin .add (.v 4) (.c (.int 1))))
  (.cons (.for_ (.n 6) (.tup (.call 43 (.cons (.v 0) (.cons (.v 5) .nil)))) bd_ways_by_0)
  .nil)))
def d_ways_by : Df := ⟨"ways_by", ["plan", "first", "found", "waiting", "at", "stand", "choice", "there"], 1, [false], false,
  (.cons (.set 1 (.call 8 (.cons (.v 0) .nil)))
  (.cons (.par [(2, true), (3, true), (4, false)] (.cons (.dct1 (.v 1) (.tup .nil)) (.cons (.lst (.cons (.v 1) .nil)) (.cons (.c (.int 0)) .nil))))
  (.cons (.while_ (.cmp .lt (.v 4) (.bi .len (.cons (.s 3) .nil))) bd_ways_by_1)
  (.cons (.ret (.fz 2))
  .nil))))⟩
def bd_first_misses_0 : Sms := (.cons (.ite (.cmp .notin (.v 5) (.s 1)) (.cons (.putD 1 (.v 5) (.bin .add (.v 3) (.tup (.cons (.v 4) .nil))))
  .nil) .nil)
  .nil)
def bd_first_misses_1 : Sms := (.cons (.for_ (.n 5) (.tup (.idx (.call 48 (.cons (.v 0) (.cons (.v 2) (.cons (.v 4) .nil)))) (.c (.int 1)))) bd_first_misses_0)
  .nil)
def bd_first_misses_2 : Sms := (.cons (.for_ (.n 4) (.tup (.call 43 (.cons (.v 0) (.cons (.v 2) .nil)))) bd_first_misses_1)
  .nil)
def d_first_misses : Df := ⟨"first_misses", ["plan", "found", "stand", "run", "choice", "sender"], 1, [false], false,
  (.cons (.setO 1 .dct0)
  (.cons (.for_ (.t [(.n 2), (.n 3)]) (.items (.call 63 (.cons (.v 0) .nil))) bd_first_misses_2)
  (.cons (.ret (.fz 1))
  .nil)))⟩
def d_count_stands : Df := ⟨"count_stands", ["plan"], 1, [false], false,
  (.cons (.ex (.call 7 (.cons (.v 0) .nil)))
  (.cons (.ret (.bi .len (.cons (.call 63 (.cons (.v 0) .nil)) .nil)))
  .nil))⟩
def d_run_to : Df := ⟨"run_to", ["plan", "stand"], 2, [false, false], false,
  (.cons (.ex (.call 7 (.cons (.v 0) .nil)))
  (.cons (.ex (.call 36 (.cons (.v 0) (.cons (.v 1) .nil))))
  (.cons (.ret (.dget (.call 63 (.cons (.v 0) .nil)) (.v 1)))
  .nil)))⟩
def d_misses : Df := ⟨"misses", ["plan"], 1, [false], false,
  (.cons (.ex (.call 7 (.cons (.v 0) .nil)))
  (.cons (.ret (.bi .sorted (.cons (.bi .list (.cons (.call 64 (.cons (.v 0) .nil)) .nil)) .nil)))
  .nil))⟩
def d_first_miss : Df := ⟨"first_miss", ["plan", "sender"], 2, [false, false], false,
  (.cons (.ex (.call 7 (.cons (.v 0) .nil)))
  (.cons (.ex (.call 62 (.cons (.v 0) (.cons (.v 1) .nil))))
  (.cons (.ret (.dget (.call 64 (.cons (.v 0) .nil)) (.v 1)))
  .nil)))⟩
def bd__law_ways_0 : Sms := (.cons (.set 7 (.idx (.call 27 (.cons (.v 0) (.cons (.v 5) (.cons (.v 6) .nil)))) (.c (.int 0))))
  (.cons (.ite (.cmp .notin (.v 7) (.s 2)) (.cons (.putD 2 (.v 7) (.bin .add (.idx (.s 2) (.v 5)) (.tup (.cons (.v 6) .nil))))
  (.cons (.app 3 (.v 7))
  .nil)) .nil)
  .nil))
def bd__law_ways_1 : Sms := (.cons (.set 5 (.idx (.s 3) (.v 4)))
  (.cons (.set 4 (.bin .add (.v 4) (.c (.int 1))))
  (.cons (.for_ (.n 6) (.tup (.call 25 (.cons (.v 0) (.cons (.v 5) .nil)))) bd__law_ways_0)
  .nil)))
def d__law_ways : Df := ⟨"_law_ways", ["plan", "begin", "found", "queue", "at", "stand", "choice", "there"], 1, [false], false,
  (.cons (.set 1 (.call 23 (.cons (.v 0) .nil)))
  (.cons (.par [(2, true), (3, true), (4, false)] (.cons (.dct1 (.v 1) (.tup .nil)) (.cons (.lst (.cons (.v 1) .nil)) (.cons (.c (.int 0)) .nil))))
  (.cons (.while_ (.cmp .lt (.v 4) (.bi .len (.cons (.s 3) .nil))) bd__law_ways_1)
  (.cons (.ret (.fz 2))
  .nil))))⟩
def bd__law_misses_0 : Sms := (.cons (.ite (.cmp .notin (.v 5) (.s 1)) (.cons (.putD 1 (.v 5) (.bin .add (.v 3) (.tup (.cons (.v 4) .nil))))
  .nil) .nil)
  .nil)
def bd__law_misses_1 : Sms := (.cons (.for_ (.n 5) (.tup (.idx (.call 27 (.cons (.v 0) (.cons (.v 2) (.cons (.v 4) .nil)))) (.c (.int 2)))) bd__law_misses_0)
  .nil)
def bd__law_misses_2 : Sms := (.cons (.for_ (.n 4) (.tup (.call 25 (.cons (.v 0) (.cons (.v 2) .nil)))) bd__law_misses_1)
  .nil)
def d__law_misses : Df := ⟨"_law_misses", ["plan", "found", "stand", "past", "choice", "sender"], 1, [false], false,
  (.cons (.setO 1 .dct0)
  (.cons (.for_ (.t [(.n 2), (.n 3)]) (.items (.call 69 (.cons (.v 0) .nil))) bd__law_misses_2)
  (.cons (.ret (.fz 1))
  .nil)))⟩
def cm_law_k04_0 : Ex := (.comp (.c (.int 1)) (.n 11) (.range1 (.bi .len (.cons (.idx (.v 3) (.c (.int 1))) .nil))) (.not (.call 17 (.cons (.call 68 (.cons (.v 3) (.cons (.v 11) .nil))) (.cons (.dget (.v 7) (.v 11)) .nil)))) [11])
def bd_law_k04_0 : Sms := (.cons (.par [(9, false), (10, false)] (.cons (.idx (.v 4) (.call 15 (.cons (.s 2) (.cons (.bi .len (.cons (.v 4) .nil)) .nil)))) (.cons (.idx (.v 4) (.call 15 (.cons (.s 2) (.cons (.bi .len (.cons (.v 4) .nil)) .nil)))) .nil)))
  (.cons (.set 8 (.tup (.cons (.idx (.v 9) (.c (.int 0))) (.cons (.idx (.v 10) (.c (.int 1))) .nil))))
  (.cons (.ite (.not (.call 17 (.cons (.lst (.cons (.call 66 (.cons (.v 3) (.cons (.v 9) .nil))) (.cons (.call 66 (.cons (.v 3) (.cons (.v 8) .nil))) .nil))) (.cons (.lst (.cons (.idx (.v 6) (.v 9)) (.cons (.dget (.v 6) (.v 8)) .nil))) .nil)))) (.cons (.ret (.c (.bool false)))
  .nil) .nil)
  .nil)))
def bd_law_k04_1 : Sms := (.cons (.setO 2 (.call 14 (.cons (.v 0) (.cons (.v 1) .nil))))
  (.cons (.set 3 (.call 22 (.cons (.s 2) (.cons (.c (.int 2)) (.cons (.c (.int 1500)) .nil)))))
  (.cons (.asg (.t [(.n 6), (.n 7)]) (.tup (.cons (.call 69 (.cons (.v 3) .nil)) (.cons (.call 70 (.cons (.v 3) .nil)) .nil))))
  (.cons (.ite (.not (.call 17 (.cons (.lst (.cons (.call 65 (.cons (.v 3) .nil)) (.cons (.call 67 (.cons (.v 3) .nil)) .nil))) (.cons (.lst (.cons (.bi .len (.cons (.v 6) .nil)) (.cons (.bi .sorted (.cons (.v 7) .nil)) .nil))) .nil)))) (.cons (.ret (.c (.bool false)))
  .nil) .nil)
  (.cons (.ite (.cmp .ne cm_law_k04_0 (.lst .nil)) (.cons (.ret (.c (.bool false)))
  .nil) .nil)
  (.cons (.set 4 (.bi .list (.cons (.v 6) .nil)))
  (.cons (.for_ (.n 5) (.range1 (.c (.int 3))) bd_law_k04_0)
  .nil)))))))
def d_law_k04 : Df := ⟨"law", ["script", "at", "spring", "plan", "some", "turn", "ways", "due", "mixed", "stand", "other", "one"], 1, [false], false,
  (.cons (.for_ (.n 1) (.range1 (.bin .add (.bi .min2 (.cons (.bi .len (.cons (.v 0) .nil)) (.cons (.c (.int 4)) .nil))) (.c (.int 1)))) bd_law_k04_1)
  (.cons (.ret (.c (.bool true)))
  .nil))⟩
def d_look_at_row : Df := ⟨"look_at_row", ["plan", "row"], 2, [false, false], false,
  (.cons (.ite (.not (.call 0 (.cons (.v 1) (.cons (.c (.int 0)) (.cons (.bin .sub (.bi .len (.cons (.idx (.idx (.v 0) (.c (.int 0))) (.c (.int 0))) .nil)) (.c (.int 1))) .nil))))) (.cons .dead
  .nil) .nil)
  .nil)⟩
def d_with_sender : Df := ⟨"with_sender", ["plan", "sender", "times", "senders", "call", "pause", "old", "need"], 3, [false, false, false], false,
  (.cons (.asg (.t [(.n 4), (.n 5), (.n 6), (.n 7)]) (.idx (.idx (.v 0) (.c (.int 1))) (.v 1)))
  (.cons (.set 3 (.bin .add (.bin .add (.slc false true (.idx (.v 0) (.c (.int 1))) (.c .none) (.v 1)) (.tup (.cons (.tup (.cons (.v 4) (.cons (.v 5) (.cons (.v 2) (.cons (.v 7) .nil))))) .nil))) (.slc true false (.idx (.v 0) (.c (.int 1))) (.bin .add (.v 1) (.c (.int 1))) (.c .none))))
  (.cons (.ret (.tup (.cons (.idx (.v 0) (.c (.int 0))) (.cons (.v 3) .nil))))
  .nil)))⟩
def d_with_row : Df := ⟨"with_row", ["plan", "row", "ticks", "rows", "hang", "back"], 3, [false, false, false], false,
  (.cons (.asg (.t [(.n 3), (.n 4), (.n 5)]) (.idx (.v 0) (.c (.int 0))))
  (.cons (.set 3 (.bin .add (.bin .add (.slc false true (.v 3) (.c .none) (.v 1)) (.tup (.cons (.tup (.cons (.idx (.idx (.v 3) (.v 1)) (.c (.int 0))) (.cons (.v 2) .nil))) .nil))) (.slc true false (.v 3) (.bin .add (.v 1) (.c (.int 1))) (.c .none))))
  (.cons (.ret (.tup (.cons (.tup (.cons (.v 3) (.cons (.v 4) (.cons (.v 5) .nil)))) (.cons (.idx (.v 0) (.c (.int 1))) .nil))))
  .nil)))⟩
def cm_good_times_0 : Ex := (.comp (.tup (.cons (.v 3) (.cons (.call 89 (.cons (.v 0) (.cons (.v 1) (.cons (.v 3) .nil)))) .nil))) (.n 3) (.range2 (.c (.int 1)) (.c (.int 4))) (.c (.bool true)) [3])
def cm_good_times_1 : Ex := (.comp (.v 3) (.t [(.n 3), (.n 4)]) (.tup (.v 2)) (.and (.call 6 (.cons (.v 4) .nil)) (.cmp .notin (.v 1) (.call 64 (.cons (.v 4) .nil)))) [3, 4])
def d_good_times : Df := ⟨"good_times", ["plan", "sender", "some", "times", "other"], 2, [false, false], false,
  (.cons (.ex (.call 7 (.cons (.v 0) .nil)))
  (.cons (.ex (.call 62 (.cons (.v 0) (.cons (.v 1) .nil))))
  (.cons (.set 2 cm_good_times_0)
  (.cons (.ret cm_good_times_1)
  .nil))))⟩
def cm_good_stays_0 : Ex := (.comp (.tup (.cons (.v 3) (.cons (.call 90 (.cons (.v 0) (.cons (.v 1) (.cons (.v 3) .nil)))) .nil))) (.n 3) (.range2 (.c (.int 1)) (.c (.int 5))) (.c (.bool true)) [3])
def cm_good_stays_1 : Ex := (.comp (.v 3) (.t [(.n 3), (.n 4)]) (.tup (.v 2)) (.and (.call 6 (.cons (.v 4) .nil)) (.isE false (.call 64 (.cons (.v 4) .nil)))) [3, 4])
def d_good_stays : Df := ⟨"good_stays", ["plan", "row", "some", "ticks", "other"], 2, [false, false], false,
  (.cons (.ex (.call 7 (.cons (.v 0) .nil)))
  (.cons (.ex (.call 88 (.cons (.v 0) (.cons (.v 1) .nil))))
  (.cons (.set 2 cm_good_stays_0)
  (.cons (.ret cm_good_stays_1)
  .nil))))⟩
def bd_law_k08_0 : Sms := (.cons (.set 16 (.bin .add (.bin .add (.slc false true (.idx (.v 3) (.c (.int 1))) (.c .none) (.v 5)) (.tup (.cons (.tup (.cons (.v 12) (.cons (.v 13) (.cons (.v 7) (.cons (.v 15) .nil))))) .nil))) (.slc true false (.idx (.v 3) (.c (.int 1))) (.bin .add (.v 5) (.c (.int 1))) (.c .none))))
  (.cons (.ite (.and (.cmp .le (.call 21 (.cons (.tup (.cons (.idx (.v 3) (.c (.int 0))) (.cons (.v 16) .nil))) .nil)) (.c (.int 6000))) (.cmp .notin (.v 5) (.call 70 (.cons (.tup (.cons (.idx (.v 3) (.c (.int 0))) (.cons (.v 16) .nil))) .nil)))) (.cons (.app 6 (.v 7))
  .nil) .nil)
  .nil))
def bd_law_k08_1 : Sms := (.cons (.setO 6 (.lst .nil))
  (.cons (.for_ (.n 7) (.range2 (.c (.int 1)) (.c (.int 4))) bd_law_k08_0)
  (.cons (.ite (.or (.not (.call 17 (.cons (.call 91 (.cons (.v 3) (.cons (.v 5) .nil))) (.cons (.fz 6) .nil)))) (.cmp .notin (.v 6) (.lst (.cons (.lst .nil) (.cons (.lst (.cons (.c (.int 1)) .nil)) (.cons (.lst (.cons (.c (.int 2)) .nil)) (.cons (.lst (.cons (.c (.int 3)) .nil)) (.cons (.lst (.cons (.c (.int 1)) (.cons (.c (.int 2)) .nil))) (.cons (.lst (.cons (.c (.int 2)) (.cons (.c (.int 3)) .nil))) (.cons (.lst (.cons (.c (.int 1)) (.cons (.c (.int 2)) (.cons (.c (.int 3)) .nil)))) .nil)))))))))) (.cons (.ret (.c (.bool false)))
  .nil) .nil)
  .nil)))
def bd_law_k08_2 : Sms := (.cons (.set 17 (.tup (.cons (.tup (.cons (.bin .add (.bin .add (.slc false true (.v 8) (.c .none) (.v 4)) (.tup (.cons (.tup (.cons (.idx (.idx (.v 8) (.v 4)) (.c (.int 0))) (.cons (.v 11) .nil))) .nil))) (.slc true false (.v 8) (.bin .add (.v 4) (.c (.int 1))) (.c .none))) (.cons (.v 9) (.cons (.v 10) .nil)))) (.cons (.idx (.v 3) (.c (.int 1))) .nil))))
  (.cons (.ite (.and (.cmp .le (.call 21 (.cons (.v 17) .nil)) (.c (.int 6000))) (.isE false (.call 70 (.cons (.v 17) .nil)))) (.cons (.app 6 (.v 11))
  .nil) .nil)
  .nil))
def bd_law_k08_3 : Sms := (.cons (.setO 6 (.lst .nil))
  (.cons (.for_ (.n 11) (.range2 (.c (.int 1)) (.c (.int 5))) bd_law_k08_2)
  (.cons (.ite (.not (.call 17 (.cons (.call 92 (.cons (.v 3) (.cons (.v 4) .nil))) (.cons (.fz 6) .nil)))) (.cons (.ret (.c (.bool false)))
  .nil) .nil)
  .nil)))
def bd_law_k08_4 : Sms := (.cons (.setO 2 (.call 14 (.cons (.v 0) (.cons (.v 1) .nil))))
  (.cons (.set 3 (.call 22 (.cons (.s 2) (.cons (.c (.int 2)) (.cons (.c (.int 300)) .nil)))))
  (.cons (.ite (.cmp .eq (.call 15 (.cons (.s 2) (.cons (.c (.int 2)) .nil))) (.c (.int 0))) (.cons (.set 3 (.tup (.cons (.tup (.cons (.idx (.idx (.v 3) (.c (.int 0))) (.c (.int 0))) (.cons (.c .none) (.cons (.c .none) .nil)))) (.cons (.idx (.v 3) (.c (.int 1))) .nil))))
  .nil) .nil)
  (.cons (.for_ (.t [(.n 5), (.t [(.n 12), (.n 13), (.n 14), (.n 15)])]) (.enum (.idx (.v 3) (.c (.int 1)))) bd_law_k08_1)
  (.cons (.asg (.t [(.n 8), (.n 9), (.n 10)]) (.idx (.v 3) (.c (.int 0))))
  (.cons (.for_ (.n 4) (.range1 (.bi .len (.cons (.v 8) .nil))) bd_law_k08_3)
  .nil))))))
def d_law_k08 : Df := ⟨"law", ["script", "at", "spring", "plan", "row", "one", "due", "many", "rows", "hang", "back", "ticks", "call", "pause", "times", "need", "senders", "other"], 1, [false], false,
  (.cons (.for_ (.n 1) (.range1 (.bin .add (.bi .min2 (.cons (.bi .len (.cons (.v 0) .nil)) (.cons (.c (.int 2)) .nil))) (.c (.int 1)))) bd_law_k08_4)
  (.cons (.ret (.c (.bool true)))
  .nil))⟩
def d_look_at_receiver : Df := ⟨"look_at_receiver", ["receiver"], 1, [false], false,
  (.cons (.ite (.not (.call 2 (.cons (.v 0) .nil))) (.cons .dead
  .nil) .nil)
  .nil)⟩
def d_caught : Df := ⟨"caught", ["receiver", "ear", "sent", "channel"], 3, [false, false, false], false,
  (.cons (.set 3 (.call 37 (.cons (.v 0) (.cons (.v 1) .nil))))
  (.cons (.ret (.ite (.cmp .isin (.v 3) (.v 2)) (.v 3) (.c .none)))
  .nil))⟩
def bd_parting_by_0 : Sms := (.cons (.par [(9, false), (10, false)] (.cons (.call 95 (.cons (.v 0) (.cons (.idx (.v 6) (.c (.int 0))) (.cons (.v 7) .nil)))) (.cons (.call 95 (.cons (.v 1) (.cons (.idx (.v 6) (.c (.int 1))) (.cons (.v 7) .nil)))) .nil)))
  (.cons (.ite (.cmp .ne (.v 9) (.v 10)) (.cons (.ret (.bin .add (.idx (.s 3) (.v 6)) (.tup (.cons (.v 7) .nil))))
  .nil) .nil)
  (.cons (.set 8 (.tup (.cons (.call 40 (.cons (.v 0) (.cons (.idx (.v 6) (.c (.int 0))) (.cons (.notN (.v 9)) .nil)))) (.cons (.call 40 (.cons (.v 1) (.cons (.idx (.v 6) (.c (.int 1))) (.cons (.notN (.v 9)) .nil)))) .nil))))
  (.cons (.ite (.cmp .notin (.v 8) (.s 3)) (.cons (.putD 3 (.v 8) (.bin .add (.idx (.s 3) (.v 6)) (.tup (.cons (.v 7) .nil))))
  (.cons (.app 4 (.v 8))
  .nil)) .nil)
  .nil))))
def bd_parting_by_1 : Sms := (.cons (.set 6 (.idx (.s 4) (.v 5)))
  (.cons (.set 5 (.bin .add (.v 5) (.c (.int 1))))
  (.cons (.for_ (.n 7) (.tup (.g 3)) bd_parting_by_0)
  .nil)))
def d_parting_by : Df := ⟨"parting_by", ["one", "other", "first", "found", "waiting", "at", "pair", "sent", "there", "heard", "other_heard"], 2, [false, false], false,
  (.cons (.set 2 (.tup (.cons (.tup (.cons (.c (.int 0)) (.cons (.c (.int 0)) (.cons (.neg (.c (.int 1))) .nil)))) (.cons (.tup (.cons (.c (.int 0)) (.cons (.c (.int 0)) (.cons (.neg (.c (.int 1))) .nil)))) .nil))))
  (.cons (.par [(3, true), (4, true), (5, false)] (.cons (.dct1 (.v 2) (.tup .nil)) (.cons (.lst (.cons (.v 2) .nil)) (.cons (.c (.int 0)) .nil))))
  (.cons (.while_ (.cmp .lt (.v 5) (.bi .len (.cons (.s 4) .nil))) bd_parting_by_1)
  (.cons (.ret (.c .none))
  .nil))))⟩
def d_alike : Df := ⟨"alike", ["one", "other"], 2, [false, false], false,
  (.cons (.ex (.call 94 (.cons (.v 0) .nil)))
  (.cons (.ex (.call 94 (.cons (.v 1) .nil)))
  (.cons (.ret (.isN (.call 96 (.cons (.v 0) (.cons (.v 1) .nil)))))
  .nil)))⟩
def d_parting : Df := ⟨"parting", ["one", "other"], 2, [false, false], false,
  (.cons (.ex (.call 94 (.cons (.v 0) .nil)))
  (.cons (.ex (.call 94 (.cons (.v 1) .nil)))
  (.cons (.ret (.call 96 (.cons (.v 0) (.cons (.v 1) .nil))))
  .nil)))⟩
def d__law_caught : Df := ⟨"_law_caught", ["receiver", "ear", "sent", "channel"], 3, [false, false, false], false,
  (.cons (.set 3 (.idx (.idx (.idx (.v 0) (.c (.int 0))) (.idx (.v 1) (.c (.int 0)))) (.c (.int 0))))
  (.cons (.ret (.ite (.cmp .isin (.v 3) (.v 2)) (.v 3) (.c .none)))
  .nil))⟩
def cm__law_all_sent_0 : Ex := (.comp (.bin .add (.v 2) (.tup (.cons (.v 1) .nil))) (.n 2) (.tup (.v 0)) (.c (.bool true)) [2])
def bd__law_all_sent_0 : Sms := (.cons (.set 0 (.bin .add (.v 0) cm__law_all_sent_0))
  .nil)
def d__law_all_sent : Df := ⟨"_law_all_sent", ["found", "channel", "some"], 0, [], false,
  (.cons (.set 0 (.lst (.cons (.tup .nil) .nil)))
  (.cons (.for_ (.n 1) (.range1 (.c (.int 3))) bd__law_all_sent_0)
  (.cons (.ret (.bi .sorted (.cons (.v 0) .nil)))
  .nil)))⟩
def bd__law_parting_0 : Sms := (.cons (.set 10 (.lst (.cons (.call 99 (.cons (.v 0) (.cons (.v 7) (.cons (.v 6) .nil)))) (.cons (.call 99 (.cons (.v 1) (.cons (.v 8) (.cons (.v 6) .nil)))) .nil))))
  (.cons (.ite (.cmp .ne (.idx (.v 10) (.c (.int 0))) (.idx (.v 10) (.c (.int 1)))) (.cons (.ret (.bin .add (.v 9) (.tup (.cons (.v 6) .nil))))
  .nil) .nil)
  (.cons (.set 11 (.tup (.cons (.call 26 (.cons (.v 0) (.cons (.v 7) (.cons (.notN (.idx (.v 10) (.c (.int 0)))) .nil)))) (.cons (.call 26 (.cons (.v 1) (.cons (.v 8) (.cons (.notN (.idx (.v 10) (.c (.int 1)))) .nil)))) .nil))))
  (.cons (.ite (.cmp .notin (.v 11) (.s 3)) (.cons (.putD 3 (.v 11) (.bin .add (.v 9) (.tup (.cons (.v 6) .nil))))
  (.cons (.app 4 (.v 11))
  .nil)) .nil)
  .nil))))
def bd__law_parting_1 : Sms := (.cons (.asg (.t [(.n 7), (.n 8)]) (.idx (.s 4) (.v 5)))
  (.cons (.par [(9, false), (5, false)] (.cons (.idx (.s 3) (.idx (.s 4) (.v 5))) (.cons (.bin .add (.v 5) (.c (.int 1))) .nil)))
  (.cons (.for_ (.n 6) (.tup (.call 100 .nil)) bd__law_parting_0)
  .nil)))
def d__law_parting : Df := ⟨"_law_parting", ["one", "other", "begin", "met", "queue", "at", "sent", "mine", "theirs", "past", "heard", "there"], 2, [false, false], false,
  (.cons (.set 2 (.tup (.cons (.tup (.cons (.c (.int 0)) (.cons (.c (.int 0)) (.cons (.neg (.c (.int 1))) .nil)))) (.cons (.tup (.cons (.c (.int 0)) (.cons (.c (.int 0)) (.cons (.neg (.c (.int 1))) .nil)))) .nil))))
  (.cons (.par [(3, true), (4, true), (5, false)] (.cons (.dct1 (.v 2) (.tup .nil)) (.cons (.lst (.cons (.v 2) .nil)) (.cons (.c (.int 0)) .nil))))
  (.cons (.while_ (.cmp .lt (.v 5) (.bi .len (.cons (.s 4) .nil))) bd__law_parting_1)
  (.cons (.ret (.c .none))
  .nil))))⟩
def d__law_near : Df := ⟨"_law_near", ["spring", "receiver", "rows", "hang", "back", "at", "way"], 2, [true, false], false,
  (.cons (.asg (.t [(.n 2), (.n 3), (.n 4)]) (.v 1))
  (.cons (.par [(5, false), (6, false)] (.cons (.call 15 (.cons (.s 0) (.cons (.bi .len (.cons (.v 2) .nil)) .nil))) (.cons (.call 15 (.cons (.s 0) (.cons (.c (.int 7)) .nil))) .nil)))
  (.cons (.ite (.cmp .eq (.v 6) (.c (.int 0))) (.cons (.ret (.tup (.cons (.v 2) (.cons (.v 3) (.cons (.ite (.isN (.v 3)) (.c .none) (.call 15 (.cons (.s 0) (.cons (.bi .len (.cons (.v 2) .nil)) .nil)))) .nil)))))
  .nil) .nil)
  (.cons (.ite (.cmp .eq (.v 6) (.c (.int 1))) (.cons (.ret (.tup (.cons (.v 2) (.cons (.call 15 (.cons (.s 0) (.cons (.c (.int 3)) .nil))) (.cons (.v 4) .nil)))))
  .nil) .nil)
  (.cons (.ite (.and (.cmp .eq (.v 6) (.c (.int 2))) (.cmp .lt (.bi .len (.cons (.v 2) .nil)) (.c (.int 3)))) (.cons (.ret (.tup (.cons (.bin .mul (.v 2) (.c (.int 2))) (.cons (.v 3) (.cons (.ite (.isN (.v 4)) (.c .none) (.bin .add (.v 4) (.bi .len (.cons (.v 2) .nil)))) .nil)))))
  .nil) .nil)
  (.cons (.ite (.and (.cmp .eq (.v 6) (.c (.int 3))) (.cmp .eq (.idx (.idx (.v 2) (.v 5)) (.c (.int 1))) (.c (.int 2)))) (.cons (.set 2 (.bin .add (.bin .add (.slc false true (.v 2) (.c .none) (.v 5)) (.bin .mul (.tup (.cons (.tup (.cons (.idx (.idx (.v 2) (.v 5)) (.c (.int 0))) (.cons (.c (.int 1)) .nil))) .nil)) (.c (.int 2)))) (.slc true false (.v 2) (.bin .add (.v 5) (.c (.int 1))) (.c .none))))
  (.cons (.ret (.tup (.cons (.slc false true (.v 2) (.c .none) (.c (.int 4))) (.cons (.v 3) (.cons (.ite (.isN (.v 4)) (.c .none) (.bi .min2 (.cons (.v 4) (.cons (.c (.int 3)) .nil)))) .nil)))))
  .nil)) .nil)
  (.cons (.ite (.cmp .eq (.v 6) (.c (.int 4))) (.cons (.set 2 (.bin .add (.bin .add (.slc false true (.v 2) (.c .none) (.v 5)) (.tup (.cons (.tup (.cons (.idx (.idx (.v 2) (.v 5)) (.c (.int 0))) (.cons (.bin .add (.c (.int 1)) (.call 15 (.cons (.s 0) (.cons (.c (.int 4)) .nil)))) .nil))) .nil))) (.slc true false (.v 2) (.bin .add (.v 5) (.c (.int 1))) (.c .none))))
  .nil) .nil)
  (.cons (.ite (.cmp .eq (.v 6) (.c (.int 5))) (.cons (.set 2 (.bin .add (.bin .add (.slc false true (.v 2) (.c .none) (.v 5)) (.tup (.cons (.tup (.cons (.call 15 (.cons (.s 0) (.cons (.c (.int 3)) .nil))) (.cons (.idx (.idx (.v 2) (.v 5)) (.c (.int 1))) .nil))) .nil))) (.slc true false (.v 2) (.bin .add (.v 5) (.c (.int 1))) (.c .none))))
  .nil) .nil)
  (.cons (.ret (.tup (.cons (.v 2) (.cons (.v 3) (.cons (.v 4) .nil)))))
  .nil)))))))))⟩
def bd_law_k09_0 : Sms := (.cons (.set 7 (.call 101 (.cons (.v 4) (.cons (.v 6) .nil))))
  (.cons (.ite (.not (.call 17 (.cons (.lst (.cons (.call 97 (.cons (.v 4) (.cons (.v 6) .nil))) (.cons (.call 98 (.cons (.v 4) (.cons (.v 6) .nil))) .nil))) (.cons (.lst (.cons (.isN (.v 7)) (.cons (.v 7) .nil))) .nil)))) (.cons (.ret (.c (.bool false)))
  .nil) .nil)
  (.cons (.ite (.not (.call 17 (.cons (.call 98 (.cons (.v 6) (.cons (.v 4) .nil))) (.cons (.v 7) .nil)))) (.cons (.ret (.c (.bool false)))
  .nil) .nil)
  .nil)))
def bd_law_k09_1 : Sms := (.cons (.setO 3 (.call 14 (.cons (.v 0) (.cons (.v 1) .nil))))
  (.cons (.set 4 (.call 18 (.cons (.s 3) (.cons (.c (.int 3)) (.cons (.c (.int 3)) .nil)))))
  (.cons (.set 5 (.call 102 (.cons (.s 3) (.cons (.v 4) .nil))))
  (.cons (.for_ (.n 6) (.tup (.lst (.cons (.v 5) (.cons (.call 102 (.cons (.s 3) (.cons (.v 5) .nil))) (.cons (.call 18 (.cons (.s 3) (.cons (.c (.int 2)) (.cons (.c (.int 4)) .nil)))) (.cons (.v 4) .nil)))))) bd_law_k09_0)
  .nil))))
def d_law_k09 : Df := ⟨"law", ["script", "at", "twice", "spring", "one", "near", "other", "due"], 1, [false], false,
  (.cons (.for_ (.n 1) (.range1 (.bin .add (.bi .min2 (.cons (.bi .len (.cons (.v 0) .nil)) (.cons (.c (.int 10)) .nil))) (.c (.int 1)))) bd_law_k09_1)
  (.cons (.set 2 (.tup (.cons (.bin .mul (.tup (.cons (.tup (.cons (.c (.int 0)) (.cons (.c (.int 1)) .nil))) (.cons (.tup (.cons (.c (.int 1)) (.cons (.c (.int 2)) .nil))) .nil))) (.c (.int 2))) (.cons (.c (.int 1)) (.cons (.c (.int 2)) .nil)))))
  (.cons (.ite (.not (.call 17 (.cons (.call 98 (.cons (.tup (.cons (.tup (.cons (.tup (.cons (.c (.int 0)) (.cons (.c (.int 1)) .nil))) (.cons (.tup (.cons (.c (.int 1)) (.cons (.c (.int 2)) .nil))) .nil))) (.cons (.c (.int 1)) (.cons (.c (.int 0)) .nil)))) (.cons (.v 2) .nil))) (.cons (.c .none) .nil)))) (.cons (.ret (.c (.bool false)))
  .nil) .nil)
  (.cons (.ret (.call 17 (.cons (.call 98 (.cons (.tup (.cons (.tup (.cons (.tup (.cons (.c (.int 2)) (.cons (.c (.int 1)) .nil))) .nil)) (.cons (.c .none) (.cons (.c .none) .nil)))) (.cons (.tup (.cons (.tup (.cons (.tup (.cons (.c (.int 2)) (.cons (.c (.int 1)) .nil))) .nil)) (.cons (.c (.int 0)) (.cons (.c .none) .nil)))) .nil))) (.cons (.c .none) .nil))))
  .nil))))⟩
def Pt : Nat → Option Df
  | 0 => some d_is_within
  | 1 => some d_is_row
  | 2 => some d_is_receiver
  | 3 => some d_is_span
  | 4 => some d_is_sender
  | 5 => some d_size_of
  | 6 => some d_is_plan
  | 7 => some d_look_at_plan
  | 8 => some d_begin_of
  | 9 => some d_first_stand
  | 10 => some d_is_ear_stand
  | 11 => some d_is_sender_stand
  | 12 => some d_fits
  | 13 => some d_is_stand
  | 14 => some d__law_spring
  | 15 => some d__law_pick
  | 16 => some d__law_kind
  | 17 => some d__law_twins
  | 18 => some d__law_receiver
  | 19 => some d__law_span
  | 20 => some d__law_sender
  | 21 => some d__law_size
  | 22 => some d__law_plan
  | 23 => some d__law_first
  | 24 => some d__law_on_air
  | 25 => some d__law_choices
  | 26 => some d__law_ear
  | 27 => some d__law_tick
  | 28 => some d__law_int
  | 29 => some d__law_made
  | 30 => some d__law_good_receiver
  | 31 => some d__law_good_plan
  | 32 => some d__law_good_part
  | 33 => some d__law_good_stand
  | 34 => some d__law_bent
  | 35 => some d_law_k01
  | 36 => some d_look_at_stand
  | 37 => some d_channel_of
  | 38 => some d_heard_at
  | 39 => some d_entered
  | 40 => some d_ear_behind
  | 41 => some d_span_of
  | 42 => some d_is_free
  | 43 => some d_choices_of
  | 44 => some d_goes_on
  | 45 => some d_sender_behind
  | 46 => some d_got_by
  | 47 => some d_behind
  | 48 => some d_ends_by
  | 49 => some d_is_like
  | 50 => some d_stands_of
  | 51 => some d_fits_run
  | 52 => some d_look_at_choice
  | 53 => some d_hears
  | 54 => some d_choices_at
  | 55 => some d_after
  | 56 => some d_ends
  | 57 => some d_is_run
  | 58 => some d_stand_behind
  | 59 => some d_law_k02
  | 60 => some d__law_any_part
  | 61 => some d_law_k03
  | 62 => some d_look_at_sender
  | 63 => some d_ways_by
  | 64 => some d_first_misses
  | 65 => some d_count_stands
  | 66 => some d_run_to
  | 67 => some d_misses
  | 68 => some d_first_miss
  | 69 => some d__law_ways
  | 70 => some d__law_misses
  | 71 => some d_law_k04
  | 88 => some d_look_at_row
  | 89 => some d_with_sender
  | 90 => some d_with_row
  | 91 => some d_good_times
  | 92 => some d_good_stays
  | 93 => some d_law_k08
  | 94 => some d_look_at_receiver
  | 95 => some d_caught
  | 96 => some d_parting_by
  | 97 => some d_alike
  | 98 => some d_parting
  | 99 => some d__law_caught
  | 100 => some d__law_all_sent
  | 101 => some d__law_parting
  | 102 => some d__law_near
  | 103 => some d_law_k09
  | _ => none
def Ct : Nat → Option (String × PD)
  | 0 => some ("MOST_SIZE", (.int 6000))
  | 1 => some ("IDLE", (.tuple [(.str "idle"), (.int 0), (.int 0), (.int 0)]))
  | 2 => some ("MOST_CHOICES", (.int 60))
  | 3 => some ("SENT", (.tuple [(.tuple []), (.tuple [(.int 0)]), (.tuple [(.int 0), (.int 1)]), (.tuple [(.int 0), (.int 1), (.int 2)]), (.tuple [(.int 0), (.int 2)]), (.tuple [(.int 1)]), (.tuple [(.int 1), (.int 2)]), (.tuple [(.int 2)])]))
  | 5 => some ("FIGURES", (.str "0123456789"))
  | _ => none
theorem P_is_within : Pt 0 = some d_is_within := rfl
@[simp] theorem mt_is_within : mtOf Pt 0 = [false, false, false] := rfl
theorem P_is_row : Pt 1 = some d_is_row := rfl
@[simp] theorem mt_is_row : mtOf Pt 1 = [false] := rfl
theorem P_is_receiver : Pt 2 = some d_is_receiver := rfl
@[simp] theorem mt_is_receiver : mtOf Pt 2 = [false] := rfl
theorem P_is_span : Pt 3 = some d_is_span := rfl
@[simp] theorem mt_is_span : mtOf Pt 3 = [false] := rfl
theorem P_is_sender : Pt 4 = some d_is_sender := rfl
@[simp] theorem mt_is_sender : mtOf Pt 4 = [false] := rfl
theorem P_size_of : Pt 5 = some d_size_of := rfl
@[simp] theorem mt_size_of : mtOf Pt 5 = [false] := rfl
theorem P_is_plan : Pt 6 = some d_is_plan := rfl
@[simp] theorem mt_is_plan : mtOf Pt 6 = [false] := rfl
theorem P_look_at_plan : Pt 7 = some d_look_at_plan := rfl
@[simp] theorem mt_look_at_plan : mtOf Pt 7 = [false] := rfl
theorem P_begin_of : Pt 8 = some d_begin_of := rfl
@[simp] theorem mt_begin_of : mtOf Pt 8 = [false] := rfl
theorem P_first_stand : Pt 9 = some d_first_stand := rfl
@[simp] theorem mt_first_stand : mtOf Pt 9 = [false] := rfl
theorem P_is_ear_stand : Pt 10 = some d_is_ear_stand := rfl
@[simp] theorem mt_is_ear_stand : mtOf Pt 10 = [false, false] := rfl
theorem P_is_sender_stand : Pt 11 = some d_is_sender_stand := rfl
@[simp] theorem mt_is_sender_stand : mtOf Pt 11 = [false, false] := rfl
theorem P_fits : Pt 12 = some d_fits := rfl
@[simp] theorem mt_fits : mtOf Pt 12 = [false, false] := rfl
theorem P_is_stand : Pt 13 = some d_is_stand := rfl
@[simp] theorem mt_is_stand : mtOf Pt 13 = [false, false] := rfl
theorem P__law_spring : Pt 14 = some d__law_spring := rfl
@[simp] theorem mt__law_spring : mtOf Pt 14 = [false, false] := rfl
theorem P__law_pick : Pt 15 = some d__law_pick := rfl
@[simp] theorem mt__law_pick : mtOf Pt 15 = [true, false] := rfl
theorem P__law_kind : Pt 16 = some d__law_kind := rfl
@[simp] theorem mt__law_kind : mtOf Pt 16 = [false] := rfl
theorem P__law_twins : Pt 17 = some d__law_twins := rfl
@[simp] theorem mt__law_twins : mtOf Pt 17 = [false, false] := rfl
theorem P__law_receiver : Pt 18 = some d__law_receiver := rfl
@[simp] theorem mt__law_receiver : mtOf Pt 18 = [true, false, false] := rfl
theorem P__law_span : Pt 19 = some d__law_span := rfl
@[simp] theorem mt__law_span : mtOf Pt 19 = [true, false] := rfl
theorem P__law_sender : Pt 20 = some d__law_sender := rfl
@[simp] theorem mt__law_sender : mtOf Pt 20 = [true] := rfl
theorem P__law_size : Pt 21 = some d__law_size := rfl
@[simp] theorem mt__law_size : mtOf Pt 21 = [false] := rfl
theorem P__law_plan : Pt 22 = some d__law_plan := rfl
@[simp] theorem mt__law_plan : mtOf Pt 22 = [true, false, false] := rfl
theorem P__law_first : Pt 23 = some d__law_first := rfl
@[simp] theorem mt__law_first : mtOf Pt 23 = [false] := rfl
theorem P__law_on_air : Pt 24 = some d__law_on_air := rfl
@[simp] theorem mt__law_on_air : mtOf Pt 24 = [false] := rfl
theorem P__law_choices : Pt 25 = some d__law_choices := rfl
@[simp] theorem mt__law_choices : mtOf Pt 25 = [false, false] := rfl
theorem P__law_ear : Pt 26 = some d__law_ear := rfl
@[simp] theorem mt__law_ear : mtOf Pt 26 = [false, false, false] := rfl
theorem P__law_tick : Pt 27 = some d__law_tick := rfl
@[simp] theorem mt__law_tick : mtOf Pt 27 = [false, false, false] := rfl
theorem P__law_int : Pt 28 = some d__law_int := rfl
@[simp] theorem mt__law_int : mtOf Pt 28 = [false, false, false] := rfl
theorem P__law_made : Pt 29 = some d__law_made := rfl
@[simp] theorem mt__law_made : mtOf Pt 29 = [false, false] := rfl
theorem P__law_good_receiver : Pt 30 = some d__law_good_receiver := rfl
@[simp] theorem mt__law_good_receiver : mtOf Pt 30 = [false] := rfl
theorem P__law_good_plan : Pt 31 = some d__law_good_plan := rfl
@[simp] theorem mt__law_good_plan : mtOf Pt 31 = [false] := rfl
theorem P__law_good_part : Pt 32 = some d__law_good_part := rfl
@[simp] theorem mt__law_good_part : mtOf Pt 32 = [false, false] := rfl
theorem P__law_good_stand : Pt 33 = some d__law_good_stand := rfl
@[simp] theorem mt__law_good_stand : mtOf Pt 33 = [false, false] := rfl
theorem P__law_bent : Pt 34 = some d__law_bent := rfl
@[simp] theorem mt__law_bent : mtOf Pt 34 = [true, false] := rfl
theorem P_law_k01 : Pt 35 = some d_law_k01 := rfl
@[simp] theorem mt_law_k01 : mtOf Pt 35 = [false] := rfl
theorem P_look_at_stand : Pt 36 = some d_look_at_stand := rfl
@[simp] theorem mt_look_at_stand : mtOf Pt 36 = [false, false] := rfl
theorem P_channel_of : Pt 37 = some d_channel_of := rfl
@[simp] theorem mt_channel_of : mtOf Pt 37 = [false, false] := rfl
theorem P_heard_at : Pt 38 = some d_heard_at := rfl
@[simp] theorem mt_heard_at : mtOf Pt 38 = [false, false] := rfl
theorem P_entered : Pt 39 = some d_entered := rfl
@[simp] theorem mt_entered : mtOf Pt 39 = [false, false] := rfl
theorem P_ear_behind : Pt 40 = some d_ear_behind := rfl
@[simp] theorem mt_ear_behind : mtOf Pt 40 = [false, false, false] := rfl
theorem P_span_of : Pt 41 = some d_span_of := rfl
@[simp] theorem mt_span_of : mtOf Pt 41 = [false, false] := rfl
theorem P_is_free : Pt 42 = some d_is_free := rfl
@[simp] theorem mt_is_free : mtOf Pt 42 = [false, false] := rfl
theorem P_choices_of : Pt 43 = some d_choices_of := rfl
@[simp] theorem mt_choices_of : mtOf Pt 43 = [false, false] := rfl
theorem P_goes_on : Pt 44 = some d_goes_on := rfl
@[simp] theorem mt_goes_on : mtOf Pt 44 = [false, false, false] := rfl
theorem P_sender_behind : Pt 45 = some d_sender_behind := rfl
@[simp] theorem mt_sender_behind : mtOf Pt 45 = [false, false, false, false] := rfl
theorem P_got_by : Pt 46 = some d_got_by := rfl
@[simp] theorem mt_got_by : mtOf Pt 46 = [false, false] := rfl
theorem P_behind : Pt 47 = some d_behind := rfl
@[simp] theorem mt_behind : mtOf Pt 47 = [false, false, false] := rfl
theorem P_ends_by : Pt 48 = some d_ends_by := rfl
@[simp] theorem mt_ends_by : mtOf Pt 48 = [false, false, false] := rfl
theorem P_is_like : Pt 49 = some d_is_like := rfl
@[simp] theorem mt_is_like : mtOf Pt 49 = [false, false] := rfl
theorem P_stands_of : Pt 50 = some d_stands_of := rfl
@[simp] theorem mt_stands_of : mtOf Pt 50 = [false, false, false] := rfl
theorem P_fits_run : Pt 51 = some d_fits_run := rfl
@[simp] theorem mt_fits_run : mtOf Pt 51 = [false, false] := rfl
theorem P_look_at_choice : Pt 52 = some d_look_at_choice := rfl
@[simp] theorem mt_look_at_choice : mtOf Pt 52 = [false, false, false] := rfl
theorem P_hears : Pt 53 = some d_hears := rfl
@[simp] theorem mt_hears : mtOf Pt 53 = [false, false] := rfl
theorem P_choices_at : Pt 54 = some d_choices_at := rfl
@[simp] theorem mt_choices_at : mtOf Pt 54 = [false, false] := rfl
theorem P_after : Pt 55 = some d_after := rfl
@[simp] theorem mt_after : mtOf Pt 55 = [false, false, false] := rfl
theorem P_ends : Pt 56 = some d_ends := rfl
@[simp] theorem mt_ends : mtOf Pt 56 = [false, false, false] := rfl
theorem P_is_run : Pt 57 = some d_is_run := rfl
@[simp] theorem mt_is_run : mtOf Pt 57 = [false, false] := rfl
theorem P_stand_behind : Pt 58 = some d_stand_behind := rfl
@[simp] theorem mt_stand_behind : mtOf Pt 58 = [false, false] := rfl
theorem P_law_k02 : Pt 59 = some d_law_k02 := rfl
@[simp] theorem mt_law_k02 : mtOf Pt 59 = [false] := rfl
theorem P__law_any_part : Pt 60 = some d__law_any_part := rfl
@[simp] theorem mt__law_any_part : mtOf Pt 60 = [true, false] := rfl
theorem P_law_k03 : Pt 61 = some d_law_k03 := rfl
@[simp] theorem mt_law_k03 : mtOf Pt 61 = [false] := rfl
theorem P_look_at_sender : Pt 62 = some d_look_at_sender := rfl
@[simp] theorem mt_look_at_sender : mtOf Pt 62 = [false, false] := rfl
theorem P_ways_by : Pt 63 = some d_ways_by := rfl
@[simp] theorem mt_ways_by : mtOf Pt 63 = [false] := rfl
theorem P_first_misses : Pt 64 = some d_first_misses := rfl
@[simp] theorem mt_first_misses : mtOf Pt 64 = [false] := rfl
theorem P_count_stands : Pt 65 = some d_count_stands := rfl
@[simp] theorem mt_count_stands : mtOf Pt 65 = [false] := rfl
theorem P_run_to : Pt 66 = some d_run_to := rfl
@[simp] theorem mt_run_to : mtOf Pt 66 = [false, false] := rfl
theorem P_misses : Pt 67 = some d_misses := rfl
@[simp] theorem mt_misses : mtOf Pt 67 = [false] := rfl
theorem P_first_miss : Pt 68 = some d_first_miss := rfl
@[simp] theorem mt_first_miss : mtOf Pt 68 = [false, false] := rfl
theorem P__law_ways : Pt 69 = some d__law_ways := rfl
@[simp] theorem mt__law_ways : mtOf Pt 69 = [false] := rfl
theorem P__law_misses : Pt 70 = some d__law_misses := rfl
@[simp] theorem mt__law_misses : mtOf Pt 70 = [false] := rfl
theorem P_law_k04 : Pt 71 = some d_law_k04 := rfl
@[simp] theorem mt_law_k04 : mtOf Pt 71 = [false] := rfl
theorem P_look_at_row : Pt 88 = some d_look_at_row := rfl
@[simp] theorem mt_look_at_row : mtOf Pt 88 = [false, false] := rfl
theorem P_with_sender : Pt 89 = some d_with_sender := rfl
@[simp] theorem mt_with_sender : mtOf Pt 89 = [false, false, false] := rfl
theorem P_with_row : Pt 90 = some d_with_row := rfl
@[simp] theorem mt_with_row : mtOf Pt 90 = [false, false, false] := rfl
theorem P_good_times : Pt 91 = some d_good_times := rfl
@[simp] theorem mt_good_times : mtOf Pt 91 = [false, false] := rfl
theorem P_good_stays : Pt 92 = some d_good_stays := rfl
@[simp] theorem mt_good_stays : mtOf Pt 92 = [false, false] := rfl
theorem P_law_k08 : Pt 93 = some d_law_k08 := rfl
@[simp] theorem mt_law_k08 : mtOf Pt 93 = [false] := rfl
theorem P_look_at_receiver : Pt 94 = some d_look_at_receiver := rfl
@[simp] theorem mt_look_at_receiver : mtOf Pt 94 = [false] := rfl
theorem P_caught : Pt 95 = some d_caught := rfl
@[simp] theorem mt_caught : mtOf Pt 95 = [false, false, false] := rfl
theorem P_parting_by : Pt 96 = some d_parting_by := rfl
@[simp] theorem mt_parting_by : mtOf Pt 96 = [false, false] := rfl
theorem P_alike : Pt 97 = some d_alike := rfl
@[simp] theorem mt_alike : mtOf Pt 97 = [false, false] := rfl
theorem P_parting : Pt 98 = some d_parting := rfl
@[simp] theorem mt_parting : mtOf Pt 98 = [false, false] := rfl
theorem P__law_caught : Pt 99 = some d__law_caught := rfl
@[simp] theorem mt__law_caught : mtOf Pt 99 = [false, false, false] := rfl
theorem P__law_all_sent : Pt 100 = some d__law_all_sent := rfl
@[simp] theorem mt__law_all_sent : mtOf Pt 100 = [] := rfl
theorem P__law_parting : Pt 101 = some d__law_parting := rfl
@[simp] theorem mt__law_parting : mtOf Pt 101 = [false, false] := rfl
theorem P__law_near : Pt 102 = some d__law_near := rfl
@[simp] theorem mt__law_near : mtOf Pt 102 = [true, false] := rfl
theorem P_law_k09 : Pt 103 = some d_law_k09 := rfl
@[simp] theorem mt_law_k09 : mtOf Pt 103 = [false] := rfl
end Er

set_option Elab.async false
set_option linter.all false
set_option maxRecDepth 100000
set_option maxHeartbeats 0
/-! S1: plans and stands as the program looks at them. -/
namespace Er
open PySem L2
@[simp] theorem n3_2 (n : Nat) : ((n : Int) + 1 + 1 + 1 = 2) = False := by simp; omega
@[simp] theorem n4_3 (n : Nat) : ((n : Int) + 1 + 1 + 1 + 1 = 3) = False := by simp; omega
@[simp] theorem n5_4 (n : Nat) : ((n : Int) + 1 + 1 + 1 + 1 + 1 = 4) = False := by simp; omega
theorem lim_ge : 1000 ≤ lim := by decide
theorem lim_big : 5000000 ≤ lim := by decide
@[simp] theorem lim0 : (0 ≤ lim) = True := by simp
@[simp] theorem lim1 : (1 ≤ lim) = True := eq_true (by decide)
@[simp] theorem lim2 : (2 ≤ lim) = True := eq_true (by decide)
@[simp] theorem lim3 : (3 ≤ lim) = True := eq_true (by decide)
@[simp] theorem lim4 : (4 ≤ lim) = True := eq_true (by decide)
@[simp] theorem wipeR_nil {ρ : Rho} : wipeR ρ [] = ρ := rfl
@[simp] theorem wipeR_cons {ρ : Rho} {i : Nat} {l : List Nat} : wipeR ρ (i :: l) = (wipeR ρ l).set i .un := rfl
@[simp] theorem bools_m (f : PD → Bool) (l : List PD) : boolsD (l.map fun x => .bool (f x)) = some (l.map f) := bools_map f l
def allB (f : PD → Bool) (l : List PD) : Bool := l.all f
@[simp] theorem all_m (f : PD → Bool) (l : List PD) : allT (l.map f) = allB f l := by
  unfold allT
  rw [List.all_map]
  rfl
theorem allB_mem {f : PD → Bool} {l : List PD} (h : allB f l = true) {x : PD} (hx : x ∈ l) : f x = true := List.all_eq_true.mp h x hx
def within (v : PD) (lo hi : Int) : Bool := match v with
  | .int i => decide (lo ≤ i) && decide (i ≤ hi)
  | _ => false
@[simp] theorem within_n {a b : Int} : within .none a b = false := rfl
@[simp] theorem within_b {a b : Int} {x : Bool} : within (.bool x) a b = false := rfl
@[simp] theorem within_s {a b : Int} {x : Str} : within (.str x) a b = false := rfl
@[simp] theorem within_t {a b : Int} {x : List PD} : within (.tuple x) a b = false := rfl
@[simp] theorem within_l {a b : Int} {x : List PD} : within (.list x) a b = false := rfl
@[simp] theorem within_d {a b : Int} {x : List (PD × PD)} : within (.dict x) a b = false := rfl
variable {wf n : Nat} {gv : Nat → PD}
@[simp] theorem run_is_within (v : PD) (lo hi : Int) : run Pt gv wf (n + 1) 0 [.d v, .d (.int lo), .d (.int hi)] = some (.ret (.bool (within v lo hi)), [.d v, .d (.int lo), .d (.int hi)]) := by
  rw [run_of P_is_within rfl]
  cases v <;> simp [d_is_within, within, isTy]
def isRow (v : PD) : Bool := match v with
  | .tuple [a, b] => within a 0 2 && within b 1 4
  | _ => false
@[simp] theorem run_is_row (v : PD) : run Pt gv wf (n + 2) 1 [.d v] = some (.ret (.bool (isRow v)), [.d v]) := by
  rw [run_of P_is_row rfl]
  cases v <;> simp [d_is_row, isRow, isTy]
  rename_i l
  rcases l with _ | ⟨a, _ | ⟨b, _ | ⟨c, l⟩⟩⟩ <;> simp
def isRecv (v : PD) : Bool := match v with
  | .tuple [.tuple rows, hang, back] => decide (1 ≤ (rows.length : Int)) && decide ((rows.length : Int) ≤ 4) && allB isRow rows && (if isNone hang = true then isNone back else within hang 0 2 && (isNone back || within back 0 (rows.length - 1)))
  | _ => false
theorem cm_rec {v r h b : PD} {rows : List PD} (hl : rows.length ≤ lim) : ev (run Pt gv wf (n + 2)) (mtOf Pt) gv cm_is_receiver_0 [.d v, .d (.tuple rows), .d h, .d b, .un] = .ok (.d (.list (rows.map fun x => .bool (isRow x)))) [.d v, .d (.tuple rows), .d h, .d b, .un] :=
  comp_all _ (by simp) hl fun x hx => ⟨[.d v, .d (.tuple rows), .d h, .d b, .d x], by simp, by simp, by simp⟩
@[simp] theorem run_is_receiver (v : PD) : run Pt gv wf (n + 3) 2 [.d v] = some (.ret (.bool (isRecv v)), [.d v]) := by
  rw [run_of P_is_receiver rfl]
  cases v <;> simp [d_is_receiver, isRecv, isTy]
  rename_i l
  rcases l with _ | ⟨a, _ | ⟨h, _ | ⟨b, _ | ⟨c, l⟩⟩⟩⟩ <;> simp
  cases a <;> simp [isTy, isRecv]
  rename_i rows
  by_cases h1 : (1 : Int) ≤ rows.length
  · by_cases h2 : (rows.length : Int) ≤ 4
    · have hl : rows.length ≤ lim := Nat.le_trans (by omega) lim_ge
      simp [h1, h2, cm_rec (v := .tuple [.tuple rows, h, b]) (r := .none) (h := h) (b := b) hl]
      have h3 : ¬ ((rows.length : Int) < 1 ∨ 4 < (rows.length : Int)) := by omega
      rw [if_neg h3]
      cases hr : allB isRow rows <;> cases isNone h <;> cases isNone b <;> simp_all
    · simp [h1, h2]
  · simp [h1]
def isSpan (v : PD) : Bool := match v with
  | .tuple [.int a, b] => decide (1 ≤ a) && decide (a ≤ 4) && within b a 4
  | _ => false
@[simp] theorem run_is_span (v : PD) : run Pt gv wf (n + 2) 3 [.d v] = some (.ret (.bool (isSpan v)), [.d v]) := by
  rw [run_of P_is_span rfl]
  cases v <;> simp [d_is_span, isSpan, isTy]
  rename_i l
  rcases l with _ | ⟨a, _ | ⟨b, _ | ⟨c, l⟩⟩⟩ <;> simp
  cases a <;> simp [isSpan]
  rename_i i
  cases within b i 4 <;> by_cases h1 : 1 ≤ i <;> by_cases h2 : i ≤ 4 <;> simp [h1, h2, within]
def isSnd (v : PD) : Bool := match v with
  | .tuple [.tuple [.int a, b], s2, t, m] => isSpan (.tuple [.int a, b]) && isSpan s2 && within t 1 3 && within m 1 a
  | _ => false
theorem span_inv {v : PD} (h : isSpan v = true) : ∃ a b, v = .tuple [.int a, .int b] ∧ 1 ≤ a ∧ a ≤ b ∧ b ≤ 4 := by
  unfold isSpan at h
  split at h
  · rename_i a b
    cases b <;> simp [within] at h
    exact ⟨_, _, rfl, h.1.1, h.2.1, h.2.2⟩
  · cases h
@[simp] theorem run_is_sender (v : PD) : run Pt gv wf (n + 3) 4 [.d v] = some (.ret (.bool (isSnd v)), [.d v]) := by
  rw [run_of P_is_sender rfl]
  cases v <;> simp [d_is_sender, isSnd, isTy]
  rename_i l
  rcases l with _ | ⟨a, _ | ⟨h, _ | ⟨b, _ | ⟨c, _ | ⟨e, l⟩⟩⟩⟩⟩ <;> simp
  cases ha : isSpan a with
  | false =>
    simp
    split
    · rename_i h
      cases h
      rw [ha]
      rfl
    · rfl
  | true =>
    obtain ⟨x, y, rfl, _⟩ := span_inv ha
    simp [ha]
    cases isSpan h <;> simp
    split <;> simp_all
end Er

set_option Elab.async false
set_option linter.all false
set_option maxRecDepth 100000
set_option maxHeartbeats 0
/-! S2: plans as numbers; their size. -/
namespace Er
open PySem L2
structure Snd where
  (a b c d t m : Int)
structure Rcv where
  rows : List (Int × Int)
  hang : Option Int
  back : Option Int
def eRow (r : Int × Int) : PD := .tuple [.int r.1, .int r.2]
def eO : Option Int → PD
  | none => .none
  | some i => .int i
@[simp] theorem eO_n : eO none = .none := rfl
@[simp] theorem eO_s {i : Int} : eO (some i) = .int i := rfl
def eRcv (r : Rcv) : PD := .tuple [.tuple (r.rows.map eRow), eO r.hang, eO r.back]
def eSnd (s : Snd) : PD := .tuple [.tuple [.int s.a, .int s.b], .tuple [.int s.c, .int s.d], .int s.t, .int s.m]
def ePl (r : Rcv) (ss : List Snd) : PD := .tuple [eRcv r, .tuple (ss.map eSnd)]
structure OkRcv (r : Rcv) : Prop where
  l1 : 1 ≤ r.rows.length
  l2 : r.rows.length ≤ 4
  row : ∀ x ∈ r.rows, 0 ≤ x.1 ∧ x.1 ≤ 2 ∧ 1 ≤ x.2 ∧ x.2 ≤ 4
  nob : r.hang = none → r.back = none
  hg : ∀ h, r.hang = some h → 0 ≤ h ∧ h ≤ 2
  bk : ∀ b, r.back = some b → 0 ≤ b ∧ b ≤ r.rows.length - 1
structure OkSnd (s : Snd) : Prop where
  a1 : 1 ≤ s.a
  ab : s.a ≤ s.b
  b4 : s.b ≤ 4
  c1 : 1 ≤ s.c
  cd : s.c ≤ s.d
  d4 : s.d ≤ 4
  t1 : 1 ≤ s.t
  t3 : s.t ≤ 3
  m1 : 1 ≤ s.m
  ma : s.m ≤ s.a
theorem within_inv {v : PD} {lo hi : Int} (h : within v lo hi = true) : ∃ i, v = .int i ∧ lo ≤ i ∧ i ≤ hi := by
  cases v <;> simp [within] at h
  exact ⟨_, rfl, h.1, h.2⟩
theorem within_int {i lo hi : Int} : within (.int i) lo hi = (decide (lo ≤ i) && decide (i ≤ hi)) := rfl
theorem row_inv {v : PD} (h : isRow v = true) : ∃ r, v = eRow r ∧ 0 ≤ r.1 ∧ r.1 ≤ 2 ∧ 1 ≤ r.2 ∧ r.2 ≤ 4 := by
  unfold isRow at h
  split at h
  · rename_i a b
    simp only [Bool.and_eq_true] at h
    obtain ⟨i, rfl, h1, h2⟩ := within_inv h.1
    obtain ⟨j, rfl, h3, h4⟩ := within_inv h.2
    exact ⟨(i, j), rfl, h1, h2, h3, h4⟩
  · cases h
theorem list_inv {α : Type} {f : PD → Bool} {e : α → PD} {P : α → Prop} (h1 : ∀ v, f v = true → ∃ r, v = e r ∧ P r) : ∀ {l : List PD}, allB f l = true → ∃ rs : List α, l = rs.map e ∧ ∀ x ∈ rs, P x
  | [], _ => ⟨[], rfl, fun x h => by simp at h⟩
  | v :: l, h => by
    obtain ⟨r, rfl, p⟩ := h1 v (allB_mem h (by simp))
    obtain ⟨rs, rfl, ps⟩ := list_inv h1 (l := l) (List.all_eq_true.mpr fun x hx => allB_mem h (by simp [hx]))
    exact ⟨r :: rs, rfl, fun x hx => by
      rcases List.mem_cons.mp hx with e | hx
      · rw [e]; exact p
      · exact ps x hx⟩
theorem recv_inv {v : PD} (h : isRecv v = true) : ∃ r, v = eRcv r ∧ OkRcv r := by
  unfold isRecv at h
  split at h
  · rename_i rows hang back
    simp only [Bool.and_eq_true, decide_eq_true_eq] at h
    obtain ⟨⟨⟨h1, h2⟩, h3⟩, h4⟩ := h
    obtain ⟨rs, rfl, ps⟩ := list_inv (fun v hv => row_inv hv) h3
    rw [List.length_map] at h1 h2 h4
    cases hang with
    | none =>
      cases back <;> simp at h4
      exact ⟨⟨rs, none, none⟩, rfl, ⟨by show 1 ≤ rs.length; omega, by show rs.length ≤ 4; omega, ps, fun _ => rfl, (fun h e => by cases e), (fun b e => by cases e)⟩⟩
    | int i =>
      simp [within_int] at h4
      obtain ⟨h5, h6⟩ := h4
      cases back with
      | none => exact ⟨⟨rs, some i, none⟩, rfl, ⟨by show 1 ≤ rs.length; omega, by show rs.length ≤ 4; omega, ps, (fun e => by cases e), (fun h e => by cases e; exact h5), (fun b e => by cases e)⟩⟩
      | int j =>
        simp [within_int] at h6
        exact ⟨⟨rs, some i, some j⟩, rfl, ⟨by show 1 ≤ rs.length; omega, by show rs.length ≤ 4; omega, ps, (fun e => by cases e), (fun h e => by cases e; exact h5), (fun b e => by cases e; exact h6)⟩⟩
      | _ => simp at h6
    | _ => simp at h4
  · cases h
theorem snd_inv {v : PD} (h : isSnd v = true) : ∃ s, v = eSnd s ∧ OkSnd s := by
  unfold isSnd at h
  split at h
  · rename_i a b s2 t m
    simp only [Bool.and_eq_true] at h
    obtain ⟨⟨⟨h1, h2⟩, h3⟩, h4⟩ := h
    obtain ⟨x, y, e, x1, x2, x3⟩ := span_inv h1
    cases e
    obtain ⟨z, w, rfl, z1, z2, z3⟩ := span_inv h2
    obtain ⟨i, rfl, i1, i2⟩ := within_inv h3
    obtain ⟨j, rfl, j1, j2⟩ := within_inv h4
    exact ⟨⟨a, y, z, w, i, j⟩, rfl, ⟨x1, x2, x3, z1, z2, z3, i1, i2, j1, j2⟩⟩
  · cases h
theorem recv_ok {r : Rcv} (h : OkRcv r) : isRecv (eRcv r) = true := by
  have h3 : allB isRow (r.rows.map eRow) = true := List.all_eq_true.mpr fun x hx => by
    obtain ⟨y, hy, rfl⟩ := List.mem_map.mp hx
    obtain ⟨a, b, c, d⟩ := h.row y hy
    simp [isRow, eRow, within_int, a, b, c, d]
  have l1 := h.l1
  have l2 := h.l2
  unfold isRecv eRcv
  simp only [h3, List.length_map]
  cases eh : r.hang with
  | none =>
    rw [h.nob eh]
    simp
    omega
  | some i =>
    have := h.hg i eh
    cases eb : r.back with
    | none =>
      simp [within_int]
      omega
    | some j =>
      have := h.bk j eb
      simp [within_int]
      omega
theorem snd_ok {s : Snd} (h : OkSnd s) : isSnd (eSnd s) = true := by
  obtain ⟨h1, h2, h3, h4, h5, h6, h7, h8, h9, h10⟩ := h
  unfold isSnd eSnd
  simp [isSpan, within_int]
  omega
/-! the size -/
def fac (s : Snd) : Int := 1 + s.t * s.b * (s.m + 1) + (s.t - 1) * s.d
def base (r : Rcv) : Int := (r.rows.map (·.2)).sum + (match r.hang with
  | none => 0
  | some h => r.rows.length * (h + 1))
def sizeP (r : Rcv) (ss : List Snd) : Int := ss.foldl (fun z s => z * fac s) (base r)
theorem bin_mulR {i j : Int} (h : -100000 ≤ j ∧ j ≤ 100000) : binD .mul (.int i) (.int j) = some (.int (i * j)) := by
  show (if i.natAbs < 18446744073709551616 ∨ j.natAbs < 18446744073709551616 then some (PyData.int (i * j)) else none) = _
  rw [if_pos (.inr (by omega))]
theorem bin_mulL {i j : Int} (h : -100000 ≤ i ∧ i ≤ 100000) : binD .mul (.int i) (.int j) = some (.int (i * j)) := by
  show (if i.natAbs < 18446744073709551616 ∨ j.natAbs < 18446744073709551616 then some (PyData.int (i * j)) else none) = _
  rw [if_pos (.inl (by omega))]
theorem fac_le {s : Snd} (h : OkSnd s) : 1 ≤ fac s ∧ fac s ≤ 100 := by
  obtain ⟨h1, h2, h3, h4, h5, h6, h7, h8, h9, h10⟩ := h
  unfold fac
  have ht : s.t = 1 ∨ s.t = 2 ∨ s.t = 3 := by omega
  have hm : s.m = 1 ∨ s.m = 2 ∨ s.m = 3 ∨ s.m = 4 := by omega
  rcases ht with e | e | e <;> rcases hm with f | f | f | f <;> rw [e, f] <;> omega
variable {wf n : Nat} {gv : Nat → PD}
theorem ints_m {α : Type} (f : α → Int) : ∀ l : List α, intsD (l.map fun x => .int (f x)) = some (l.map f)
  | [] => rfl
  | x :: l => by
    rw [List.map_cons, intsD, ints_m f l]
    rfl
theorem get_cons {x : SV} {ρ : Rho} : (x :: ρ)[0]? = some x := rfl
theorem cm_size {cl : Call} {v z s c p t m h b : SV} {rows : List (Int × Int)} (hl : rows.length ≤ lim) : ev cl (mtOf Pt) gv cm_size_of_0 [v, z, s, c, p, t, m, .d (.tuple (rows.map eRow)), h, b, .un, .un] = .ok (.d (.list (rows.map fun x => .int x.2))) [v, z, s, c, p, t, m, .d (.tuple (rows.map eRow)), h, b, .un, .un] := by
  have := comp_all (cl := cl) (mt := mtOf Pt) (gv := gv) (e := .v 11) (t := .t [.n 10, .n 11]) (it := .tup (.v 7)) (own := [10, 11]) (ρ := [v, z, s, c, p, t, m, .d (.tuple (rows.map eRow)), h, b, .un, .un]) (xs := rows.map eRow) (fun x => match x with
    | .tuple [_, y] => y
    | _ => .none) (by simp) (by simpa using hl) fun x hx => by
      obtain ⟨r, hr, rfl⟩ := List.mem_map.mp hx
      exact ⟨[v, z, s, c, p, t, m, .d (.tuple (rows.map eRow)), h, b, .d (.int r.1), .d (.int r.2)], by simp [eRow], by simp, by simp [eRow]⟩
  rw [List.map_map] at this
  exact this
theorem bd_size {cl : Call} {v z h b rw' : SV} {i : Int} {s : Snd} (hs : OkSnd s) : execs cl (mtOf Pt) gv wf bd_size_of_0 [v, .d (.int i), z, .d (.tuple [.int s.a, .int s.b]), .d (.tuple [.int s.c, .int s.d]), .d (.int s.t), .d (.int s.m), rw', h, b, .un, .un] =
    .ok .next [v, .d (.int (i * fac s)), z, .d (.tuple [.int s.a, .int s.b]), .d (.tuple [.int s.c, .int s.d]), .d (.int s.t), .d (.int s.m), rw', h, b, .un, .un] := by
  obtain ⟨f1, f2⟩ := fac_le hs
  obtain ⟨h1, h2, h3, h4, h5, h6, h7, h8, h9, h10⟩ := hs
  have e1 : binD .mul (.int s.t) (.int s.b) = some (.int (s.t * s.b)) := bin_mulR (by omega)
  have e2 : binD .mul (.int (s.t * s.b)) (.int (s.m + 1)) = some (.int (s.t * s.b * (s.m + 1))) := bin_mulR (by omega)
  have e3 : binD .mul (.int (s.t - 1)) (.int s.d) = some (.int ((s.t - 1) * s.d)) := bin_mulR (by omega)
  have e4 : binD .mul (.int i) (.int (1 + s.t * s.b * (s.m + 1) + (s.t - 1) * s.d)) = some (.int (i * fac s)) := bin_mulR (by unfold fac at f1 f2; omega)
  simp [bd_size_of_0, e1, e2, e3, e4, setR]
theorem run_size_of {r : Rcv} {ss : List Snd} (hr : OkRcv r) (hs : ∀ s ∈ ss, OkSnd s) (hl : ss.length ≤ 1000) : run Pt gv wf (n + 1) 5 [.d (ePl r ss)] = some (.ret (.int (sizeP r ss)), [.d (ePl r ss)]) := by
  have l2 := hr.l2
  have hlim := lim_ge
  rw [run_of P_size_of rfl]
  have key : ∀ (v hg bk : SV) (i : Int), ∃ ρ', loopF (.t [.n 3, .n 4, .n 5, .n 6]) (execs (run Pt gv wf n) (mtOf Pt) gv wf bd_size_of_0) (ss.map eSnd) [v, .d (.int i), .d (.tuple (ss.map eSnd)), .un, .un, .un, .un, .d (.tuple (r.rows.map eRow)), hg, bk, .un, .un] = .ok .next ρ' ∧
      ∃ ρ2, ρ' = v :: .d (.int (ss.foldl (fun z s => z * fac s) i)) :: ρ2 := by
    intro v hg bk i
    obtain ⟨ρ', h1, h2⟩ := loopF_ind (t := .t [.n 3, .n 4, .n 5, .n 6]) (body := execs (run Pt gv wf n) (mtOf Pt) gv wf bd_size_of_0) (xs := ss.map eSnd)
      (fun k ρ => ∃ x3 x4 x5 x6, ρ = [v, .d (.int ((ss.take k).foldl (fun z s => z * fac s) i)), .d (.tuple (ss.map eSnd)), x3, x4, x5, x6, .d (.tuple (r.rows.map eRow)), hg, bk, .un, .un] ∧ stor (some x3) = true ∧ stor (some x4) = true ∧ stor (some x5) = true ∧ stor (some x6) = true)
      (fun k x ρ hx ⟨x3, x4, x5, x6, e, s3, s4, s5, s6⟩ => by
        subst e
        rw [List.getElem?_map, Option.map_eq_some_iff] at hx
        obtain ⟨s, hx, rfl⟩ := hx
        have ms : s ∈ ss := List.mem_of_getElem? hx
        refine ⟨[v, .d (.int ((ss.take k).foldl (fun z s => z * fac s) i)), .d (.tuple (ss.map eSnd)), .d (.tuple [.int s.a, .int s.b]), .d (.tuple [.int s.c, .int s.d]), .d (.int s.t), .d (.int s.m), .d (.tuple (r.rows.map eRow)), hg, bk, .un, .un], _,
          by simp [eSnd, s3, s4, s5, s6], bd_size (hs s ms), .d (.tuple [.int s.a, .int s.b]), .d (.tuple [.int s.c, .int s.d]), .d (.int s.t), .d (.int s.m), ?_, rfl, rfl, rfl, rfl⟩
        rw [List.take_add_one, hx]
        simp) _ ⟨.un, .un, .un, .un, rfl, rfl, rfl, rfl, rfl⟩
    obtain ⟨w1, w2, w3, w4, e, _⟩ := h2
    rw [List.length_map, List.take_length] at e
    exact ⟨ρ', h1, _, e⟩
  have e1 : ∀ h : Int, (0 ≤ h ∧ h ≤ 2) → binD .mul (.int r.rows.length) (.int (h + 1)) = some (.int (r.rows.length * (h + 1))) := fun h _ => bin_mulL (by omega)
  cases eh : r.hang with
  | none =>
    obtain ⟨ρ1, g1, ρ2, rfl⟩ := key (.d (ePl r ss)) (.d .none) (.d (eO r.back)) (base r)
    simp only [ePl, eRcv, eh, base] at g1 ⊢
    simp [d_size_of, ex_for, setR, cm_size (show r.rows.length ≤ lim by omega), ints_m (fun x : Int × Int => x.2)] at g1 ⊢
    rw [g1]
    simp [sizeP, base, eh]
  | some h =>
    obtain ⟨ρ1, g1, ρ2, rfl⟩ := key (.d (ePl r ss)) (.d (.int h)) (.d (eO r.back)) (base r)
    have e2 := e1 h (hr.hg h eh)
    simp only [ePl, eRcv, eh, base] at g1 ⊢
    simp [d_size_of, ex_for, setR, cm_size (show r.rows.length ≤ lim by omega), ints_m (fun x : Int × Int => x.2), e2] at g1 ⊢
    rw [g1]
    simp [sizeP, base, eh]
end Er

set_option Elab.async false
set_option linter.all false
set_option maxRecDepth 100000
set_option maxHeartbeats 0
/-! S3: is_plan, first_stand. -/
namespace Er
open PySem L2
@[simp] theorem gv_0 : gvOf Ct 0 = .int 6000 := rfl
@[simp] theorem gv_1 : gvOf Ct 1 = .tuple [.str "idle", .int 0, .int 0, .int 0] := rfl
structure OkPl (r : Rcv) (ss : List Snd) : Prop where
  rc : OkRcv r
  sn : ∀ s ∈ ss, OkSnd s
  n2 : 2 ≤ ss.length
  n3 : ss.length ≤ 3
  ch : ∀ x ∈ r.rows, x.1 < ss.length
  sz : sizeP r ss ≤ 6000
open Classical in
noncomputable def isPlan (v : PD) : Bool := decide (∃ r ss, v = ePl r ss ∧ OkPl r ss)
def preP (v : PD) : Bool := match v with
  | .tuple [r, .tuple ss] => isRecv r && (decide (2 ≤ (ss.length : Int)) && decide ((ss.length : Int) ≤ 3)) && allB isSnd ss
  | _ => false
theorem pre_inv {v : PD} (h : preP v = true) : ∃ r ss, v = ePl r ss ∧ OkRcv r ∧ (∀ s ∈ ss, OkSnd s) ∧ 2 ≤ ss.length ∧ ss.length ≤ 3 := by
  unfold preP at h
  split at h
  · rename_i r ss
    simp only [Bool.and_eq_true, decide_eq_true_eq] at h
    obtain ⟨⟨h1, h2, h3⟩, h4⟩ := h
    obtain ⟨r, rfl, hr⟩ := recv_inv h1
    obtain ⟨ss, rfl, hs⟩ := list_inv (fun v hv => snd_inv hv) h4
    rw [List.length_map] at h2 h3
    exact ⟨r, ss, rfl, hr, hs, by omega, by omega⟩
  · cases h
theorem pre_ok {r : Rcv} {ss : List Snd} (hr : OkRcv r) (hs : ∀ s ∈ ss, OkSnd s) (h2 : 2 ≤ ss.length) (h3 : ss.length ≤ 3) : preP (ePl r ss) = true := by
  have h4 : allB isSnd (ss.map eSnd) = true := List.all_eq_true.mpr fun x hx => by
    obtain ⟨y, hy, rfl⟩ := List.mem_map.mp hx
    exact snd_ok (hs y hy)
  unfold preP ePl
  simp [recv_ok hr, h4]
  omega
open Classical in
theorem isPlan_pre {v : PD} (h : preP v = false) : isPlan v = false := by
  unfold isPlan
  rw [decide_eq_false_iff_not]
  rintro ⟨r, ss, rfl, ok⟩
  rw [pre_ok ok.rc ok.sn ok.n2 ok.n3] at h
  cases h
theorem eRow_inj {a b : Int × Int} (h : eRow a = eRow b) : a = b := by
  obtain ⟨a1, a2⟩ := a
  obtain ⟨b1, b2⟩ := b
  simp [eRow] at h
  rw [h.1, h.2]
theorem eSnd_inj {a b : Snd} (h : eSnd a = eSnd b) : a = b := by
  obtain ⟨a1, a2, a3, a4, a5, a6⟩ := a
  obtain ⟨b1, b2, b3, b4, b5, b6⟩ := b
  simp [eSnd] at h
  obtain ⟨⟨h1, h2⟩, ⟨h3, h4⟩, h5, h6⟩ := h
  rw [h1, h2, h3, h4, h5, h6]
theorem eO_inj {a b : Option Int} (h : eO a = eO b) : a = b := by
  cases a <;> cases b <;> simp [eO] at h <;> simp [h]
theorem map_inj {α β : Type} {f : α → β} (hf : ∀ {a b}, f a = f b → a = b) : ∀ {l r : List α}, l.map f = r.map f → l = r
  | [], [], _ => rfl
  | [], _ :: _, h => by simp at h
  | _ :: _, [], h => by simp at h
  | a :: l, b :: r, h => by
    simp only [List.map_cons, List.cons.injEq] at h
    have e1 := hf h.1
    have e2 := map_inj hf h.2
    rw [e1, e2]
theorem ePl_inj {r r' : Rcv} {ss ss' : List Snd} (h : ePl r ss = ePl r' ss') : r = r' ∧ ss = ss' := by
  obtain ⟨r1, r2, r3⟩ := r
  obtain ⟨q1, q2, q3⟩ := r'
  simp [ePl, eRcv] at h
  obtain ⟨⟨h1, h2, h3⟩, h4⟩ := h
  have e1 := map_inj (f := eRow) (fun h => eRow_inj h) h1
  have e2 := eO_inj h2
  have e3 := eO_inj h3
  have e4 := map_inj (f := eSnd) (fun h => eSnd_inj h) h4
  subst e1 e2 e3 e4
  exact ⟨rfl, rfl⟩
open Classical in
theorem isPlan_iff {r : Rcv} {ss : List Snd} : isPlan (ePl r ss) = true ↔ OkPl r ss := by
  unfold isPlan
  constructor
  · intro h
    obtain ⟨r', ss', e, ok⟩ := of_decide_eq_true h
    obtain ⟨rfl, rfl⟩ := ePl_inj e
    exact ok
  · exact fun ok => decide_eq_true ⟨r, ss, rfl, ok⟩
theorem maxI_lt {k : Int} : ∀ {l : List Int} {m : Int}, maxI m l < k ↔ m < k ∧ ∀ x ∈ l, x < k
  | [], m => by simp [maxI]
  | x :: l, m => by
    rw [maxI, maxI_lt]
    constructor
    · rintro ⟨h1, h2⟩
      split at h1
      · exact ⟨by omega, fun y hy => by
          rcases List.mem_cons.mp hy with e | hy
          · rw [e]; exact h1
          · exact h2 y hy⟩
      · exact ⟨h1, fun y hy => by
          rcases List.mem_cons.mp hy with e | hy
          · rw [e]; omega
          · exact h2 y hy⟩
    · rintro ⟨h1, h2⟩
      refine ⟨?_, fun y hy => h2 y (by simp [hy])⟩
      split
      · exact h2 x (by simp)
      · exact h1
variable {wf n : Nat}
theorem cm_plan0 {v c t : SV} {ss : List PD} (hl : ss.length ≤ lim) : ev (run Pt (gvOf Ct) wf (n + 3)) (mtOf Pt) (gvOf Ct) cm_is_plan_0 [v, .d (.tuple ss), .un, c, t] = .ok (.d (.list (ss.map fun x => .bool (isSnd x)))) [v, .d (.tuple ss), .un, c, t] :=
  comp_all _ (by simp) hl fun x hx => ⟨[v, .d (.tuple ss), .d x, c, t], by simp, by simp, by simp⟩
theorem cm_plan1 {o s : SV} {x : List PD} {y : PD} {rows : List (Int × Int)} (hl : rows.length ≤ lim) : ev (run Pt (gvOf Ct) wf n) (mtOf Pt) (gvOf Ct) cm_is_plan_1 [.d (.tuple [.tuple (.tuple (rows.map eRow) :: x), y]), s, o, .un, .un] = .ok (.d (.list (rows.map fun x => .int x.1))) [.d (.tuple [.tuple (.tuple (rows.map eRow) :: x), y]), s, o, .un, .un] := by
  have := comp_all (cl := run Pt (gvOf Ct) wf n) (mt := mtOf Pt) (gv := gvOf Ct) (e := .v 3) (t := .t [.n 3, .n 4]) (it := .tup (.idx (.idx (.v 0) (.c (.int 0))) (.c (.int 0)))) (own := [3, 4]) (ρ := [.d (.tuple [.tuple (.tuple (rows.map eRow) :: x), y]), s, o, .un, .un]) (xs := rows.map eRow) (fun x => match x with
    | .tuple [y, _] => y
    | _ => .none) (by simp) (by simpa using hl) fun z hz => by
      obtain ⟨r, hr, rfl⟩ := List.mem_map.mp hz
      exact ⟨[.d (.tuple [.tuple (.tuple (rows.map eRow) :: x), y]), s, o, .d (.int r.1), .d (.int r.2)], by simp [eRow], by simp, by simp [eRow]⟩
  rw [List.map_map] at this
  exact this
@[simp] theorem run_is_plan (v : PD) : run Pt (gvOf Ct) wf (n + 4) 6 [.d v] = some (.ret (.bool (isPlan v)), [.d v]) := by
  rw [run_of P_is_plan rfl]
  cases hp : preP v with
  | false =>
    rw [isPlan_pre hp]
    cases v <;> simp [d_is_plan, isTy]
    rename_i l
    rcases l with _ | ⟨r, _ | ⟨s, _ | ⟨c, l⟩⟩⟩ <;> simp
    cases hr : isRecv r with
    | false => simp
    | true =>
      cases s <;> simp [isTy, setR]
      rename_i ss
      by_cases h2 : (2 : Int) ≤ ss.length
      · by_cases h3 : (ss.length : Int) ≤ 3
        · have hl : ss.length ≤ lim := Nat.le_trans (by omega) lim_ge
          simp [preP, hr, h2, h3] at hp
          simp [h2, h3, cm_plan0 hl, hp]
        · simp [h2, h3]
      · simp [h2]
  | true =>
    obtain ⟨r, ss, rfl, hr, hs, h2, h3⟩ := pre_inv hp
    have l2 := hr.l2
    have l1 := hr.l1
    have hlim := lim_ge
    have hr' := recv_ok hr
    have h4 : allB isSnd (ss.map eSnd) = true := List.all_eq_true.mpr fun x hx => by
      obtain ⟨y, hy, rfl⟩ := List.mem_map.mp hx
      exact snd_ok (hs y hy)
    have z := run_size_of (wf := wf) (n := n + 2) (gv := gvOf Ct) hr hs (by omega)
    obtain ⟨x, xs, ex⟩ : ∃ x xs, r.rows = x :: xs := by
      cases e : r.rows with
      | nil => rw [e] at l1; simp at l1
      | cons x xs => exact ⟨x, xs, rfl⟩
    have hm : biD .max1 [.list (r.rows.map fun x => .int x.1)] = some (.int (maxI x.1 (xs.map fun x => x.1))) := by
      show (match intsD (r.rows.map fun x => .int x.1) with
        | some (n :: ns) => some (PyData.int (maxI n ns))
        | _ => none) = _
      rw [ints_m (fun x : Int × Int => x.1), ex]
      rfl
    have fin' : isPlan (ePl r ss) = (decide (maxI x.1 (xs.map fun x => x.1) < ss.length) && decide (sizeP r ss ≤ 6000)) := by
      rw [Bool.eq_iff_iff, isPlan_iff, Bool.and_eq_true, decide_eq_true_eq, decide_eq_true_eq, maxI_lt]
      constructor
      · intro ok
        refine ⟨⟨ok.ch x (by rw [ex]; simp), fun y hy => ?_⟩, ok.sz⟩
        obtain ⟨q, hq, rfl⟩ := List.mem_map.mp hy
        exact ok.ch q (by rw [ex]; simp [hq])
      · rintro ⟨⟨c1, c2⟩, c3⟩
        refine ⟨hr, hs, h2, h3, fun y hy => ?_, c3⟩
        rw [ex] at hy
        rcases List.mem_cons.mp hy with e | hy
        · rw [e]; exact c1
        · exact c2 _ (List.mem_map.mpr ⟨y, hy, rfl⟩)
    rw [fin']
    simp only [ePl] at z ⊢
    have hr2 : eRcv r = .tuple [.tuple (r.rows.map eRow), eO r.hang, eO r.back] := rfl
    have c1 : ((2 : Int) ≤ ss.length) = True := eq_true (by omega)
    have c2 : ((ss.length : Int) ≤ 3) = True := eq_true (by omega)
    have c3 := cm_plan1 (wf := wf) (n := n + 3) (o := .un) (s := .d (.tuple (ss.map eSnd))) (x := [eO r.hang, eO r.back]) (y := .tuple (ss.map eSnd)) (rows := r.rows) (by omega)
    have c4 := cm_plan0 (wf := wf) (n := n) (v := .d (.tuple [eRcv r, .tuple (ss.map eSnd)])) (c := .un) (t := .un) (ss := ss.map eSnd) (by simp; omega)
    rw [← hr2] at c3
    simp [-List.map_map, d_is_plan, isTy, hr', setR, c1, c2, c4, h4, c3, hm, z]
def eStand0 (k : Nat) : PD := .tuple [.tuple [.int 0, .int 0, .int (-1)], .tuple (List.replicate k (.tuple [.str "idle", .int 0, .int 0, .int 0]))]
theorem run_look {v : PD} (h : isPlan v = true) : run Pt (gvOf Ct) wf (n + 5) 7 [.d v] = some (.ret .none, [.d v]) := by
  rw [run_of P_look_at_plan rfl]
  simp [d_look_at_plan, h]
theorem rep_one {d : PD} (k : Nat) : rep k [d] = List.replicate k d := by
  unfold rep
  rw [Int.toNat_natCast]
  induction k with
  | zero => rfl
  | succ k ih => rw [List.replicate_succ, List.flatten_cons, ih, List.replicate_succ]; rfl
theorem mul_one_tup {d : PD} {k : Nat} (h : k ≤ 1000) : binD .mul (.tuple [d]) (.int k) = some (.tuple (List.replicate k d)) := by
  show (if 0 ≤ (k : Int) ∧ (k : Int) ≤ 1000 ∧ [d].length ≤ 1000 ∧ [d] ≠ [] then some (PyData.tuple (rep k [d])) else none) = _
  rw [if_pos ⟨by omega, by omega, by simp, by simp⟩, rep_one]
theorem run_begin {r : PD} {ss : List PD} (h : ss.length ≤ 1000) : run Pt (gvOf Ct) wf (n + 1) 8 [.d (.tuple [r, .tuple ss])] = some (.ret (eStand0 ss.length), [.d (.tuple [r, .tuple ss])]) := by
  rw [run_of P_begin_of rfl]
  simp [d_begin_of, mul_one_tup h, eStand0]
theorem run_first {r : Rcv} {ss : List Snd} (ok : OkPl r ss) : run Pt (gvOf Ct) wf (n + 6) 9 [.d (ePl r ss)] = some (.ret (eStand0 ss.length), [.d (ePl r ss)]) := by
  rw [run_of P_first_stand rfl]
  have n3 := ok.n3
  have z := run_begin (wf := wf) (n := n + 4) (r := eRcv r) (ss := ss.map eSnd) (by rw [List.length_map]; omega)
  rw [List.length_map] at z
  have zz := run_look (wf := wf) (n := n) (isPlan_iff.mpr ok)
  simp only [ePl] at zz ⊢
  simp [d_first_stand, zz, z]
end Er

set_option Elab.async false
set_option linter.all false
set_option maxRecDepth 100000
set_option maxHeartbeats 0
/-! S4: plans as the law looks at them. -/
namespace Er
open PySem L2
section
variable {x a b c d : Int}
theorem sh_l1 : shaped (.list [.int a]) = true := rfl
theorem sh_l2 : shaped (.list [.int a, .int b]) = true := rfl
theorem sh_l4 : shaped (.list [.int a, .int b, .int c, .int d]) = true := rfl
theorem isin_if {x : PD} {l : List PD} (h1 : shaped x = true) (h2 : shaped (.list l) = true) : cmpD .isin x (.list l) = some (anyEq x l) := by
  show (if shaped x = true ∧ shaped (.list l) = true then some (anyEq x l) else none) = _
  rw [if_pos ⟨h1, h2⟩]
@[simp] theorem isin1 : cmpD .isin (.int x) (.list [.int a]) = some (decide (a = x)) := by
  rw [isin_if sh_int sh_l1]
  simp [anyEq, PyData.eqv]
  rfl
@[simp] theorem isin2 : cmpD .isin (.int x) (.list [.int a, .int b]) = some (decide (a = x) || decide (b = x)) := by
  rw [isin_if sh_int sh_l2]
  simp [anyEq, PyData.eqv]
  rfl
@[simp] theorem isin4 : cmpD .isin (.int x) (.list [.int a, .int b, .int c, .int d]) = some (decide (a = x) || (decide (b = x) || (decide (c = x) || decide (d = x)))) := by
  rw [isin_if sh_int sh_l4]
  simp [anyEq, PyData.eqv]
  rfl
end
variable {wf n : Nat}
@[simp] theorem run_law_int (v : PD) (lo hi : Int) : run Pt (gvOf Ct) wf (n + 1) 28 [.d v, .d (.int lo), .d (.int hi)] = some (.ret (.bool (within v lo hi)), [.d v, .d (.int lo), .d (.int hi)]) := by
  rw [run_of P__law_int rfl]
  cases v <;> simp [d__law_int, within, isTy]
def is1 (a k : Int) : Bool := decide (a = k)
def is2 (a b k : Int) : Bool := decide (a = k) || decide (b = k)
def is4 (a b c d k : Int) : Bool := decide (a = k) || (decide (b = k) || (decide (c = k) || decide (d = k)))
def made (v : PD) (k : Int → Bool) : Bool := match v with
  | .tuple l => k l.length
  | _ => false
section
variable {k : Int → Bool}
@[simp] theorem made_n : made .none k = false := rfl
@[simp] theorem made_b {x : Bool} : made (.bool x) k = false := rfl
@[simp] theorem made_i {x : Int} : made (.int x) k = false := rfl
@[simp] theorem made_s {x : Str} : made (.str x) k = false := rfl
@[simp] theorem made_l {x : List PD} : made (.list x) k = false := rfl
@[simp] theorem made_d {x : List (PD × PD)} : made (.dict x) k = false := rfl
@[simp] theorem made_t {x : List PD} : made (.tuple x) k = k x.length := rfl
@[simp] theorem is1_22 : is1 2 2 = true := rfl
@[simp] theorem is1_20 : is1 2 0 = false := rfl
@[simp] theorem is1_21 : is1 2 1 = false := rfl
@[simp] theorem is1_23 (n : Nat) : is1 2 ((n : Int) + 1 + 1 + 1) = false := decide_eq_false (by omega)
@[simp] theorem is1_33 : is1 3 3 = true := rfl
@[simp] theorem is1_30 : is1 3 0 = false := rfl
@[simp] theorem is1_31 : is1 3 1 = false := rfl
@[simp] theorem is1_32 : is1 3 2 = false := rfl
@[simp] theorem is1_34 (n : Nat) : is1 3 ((n : Int) + 1 + 1 + 1 + 1) = false := decide_eq_false (by omega)
@[simp] theorem is1_44 : is1 4 4 = true := rfl
@[simp] theorem is1_40 : is1 4 0 = false := rfl
@[simp] theorem is1_41 : is1 4 1 = false := rfl
@[simp] theorem is1_42 : is1 4 2 = false := rfl
@[simp] theorem is1_43 : is1 4 3 = false := rfl
@[simp] theorem is1_45 (n : Nat) : is1 4 ((n : Int) + 1 + 1 + 1 + 1 + 1) = false := decide_eq_false (by omega)
end
@[simp] theorem run_made1 (v : PD) (a : Int) : run Pt (gvOf Ct) wf (n + 1) 29 [.d v, .d (.list [.int a])] = some (.ret (.bool (made v (is1 a))), [.d v, .d (.list [.int a])]) := by
  rw [run_of P__law_made rfl]
  cases v <;> simp [d__law_made, is1, isTy]
@[simp] theorem run_made2 (v : PD) (a b : Int) : run Pt (gvOf Ct) wf (n + 1) 29 [.d v, .d (.list [.int a, .int b])] = some (.ret (.bool (made v (is2 a b))), [.d v, .d (.list [.int a, .int b])]) := by
  rw [run_of P__law_made rfl]
  cases v <;> simp [d__law_made, is2, isTy]
@[simp] theorem run_made4 (v : PD) (a b c d : Int) : run Pt (gvOf Ct) wf (n + 1) 29 [.d v, .d (.list [.int a, .int b, .int c, .int d])] = some (.ret (.bool (made v (is4 a b c d))), [.d v, .d (.list [.int a, .int b, .int c, .int d])]) := by
  rw [run_of P__law_made rfl]
  cases v <;> simp [d__law_made, is4, isTy]
theorem ifB_if {α : Type} {b : Bool} {t f : R α} : ifB (some b) t f = if b = true then t else f := by cases b <;> rfl
theorem bd_good_rcv (v x : PD) : execs (run Pt (gvOf Ct) wf (n + 1)) (mtOf Pt) (gvOf Ct) wf bd__law_good_receiver_0 [.d v, .d x] = if isRow x = true then .ok .next [.d v, .d x] else .ok (.ret (.bool false)) [.d v, .d x] := by
  cases x <;> simp [bd__law_good_receiver_0, isRow]
  rename_i l
  rcases l with _ | ⟨a, _ | ⟨b, _ | ⟨c, l⟩⟩⟩ <;> simp
  cases within a 0 2 <;> cases within b 1 4 <;> simp
@[simp] theorem run_good_rcv (v : PD) : run Pt (gvOf Ct) wf (n + 2) 30 [.d v] = some (.ret (.bool (isRecv v)), [.d v]) := by
  rw [run_of P__law_good_receiver rfl]
  cases v <;> simp [d__law_good_receiver, isRecv]
  rename_i l
  rcases l with _ | ⟨a, _ | ⟨h, _ | ⟨b, _ | ⟨c, l⟩⟩⟩⟩ <;> simp
  cases a <;> simp [isRecv]
  rename_i rows
  by_cases h1 : (1 : Int) ≤ rows.length ∧ (rows.length : Int) ≤ 4
  · have h3 : is4 1 2 3 4 rows.length = true := by
      unfold is4
      simp
      omega
    obtain ⟨ρ', ⟨y, e, _⟩, hl⟩ := loopF_all (t := .n 1) (body := execs (run Pt (gvOf Ct) wf (n + 1)) (mtOf Pt) (gvOf Ct) wf bd__law_good_receiver_0) (v := .bool false) isRow (fun ρ => ∃ y, ρ = [SV.d (.tuple [.tuple rows, h, b]), y] ∧ stor (some y) = true) rows
      (fun x hx ρ ⟨y, e, s⟩ => ⟨[.d (.tuple [.tuple rows, h, b]), .d x], [.d (.tuple [.tuple rows, h, b]), .d x], by subst e; simp [s], ⟨_, rfl, rfl⟩, bd_good_rcv _ _⟩) [.d (.tuple [.tuple rows, h, b]), .un] ⟨_, rfl, rfl⟩
    subst e
    cases hr : rows.all isRow with
    | false =>
      rw [hr] at hl
      have hr2 : allB isRow rows = false := hr
      simp [h3, ex_for, hl, hr2]
    | true =>
      rw [hr] at hl
      have hr2 : allB isRow rows = true := hr
      simp [h3, ex_for, hl, hr2, h1.1, h1.2]
      cases isNone h <;> cases isNone b <;> simp
  · have h3 : is4 1 2 3 4 rows.length = false := by
      unfold is4
      simp
      omega
    have h4 : (decide ((1 : Int) ≤ rows.length) && decide ((rows.length : Int) ≤ 4)) = false := by
      simp
      omega
    simp [h3]
    intro h5 h6
    omega
end Er

set_option Elab.async false
set_option linter.all false
set_option maxRecDepth 100000
set_option maxHeartbeats 0
/-! S5: the size of a plan as the law reckons it; the law's look at plans. -/
namespace Er
open PySem L2
variable {wf n : Nat}
theorem sum_add (c : Int) : ∀ l : List (Int × Int), (l.map fun x => x.2 + c).sum = (l.map fun x => x.2).sum + l.length * c
  | [] => by simp
  | x :: l => by
    simp only [List.map_cons, List.sum_cons, List.length_cons, sum_add c l]
    rw [show ((l.length + 1 : Nat) : Int) * c = l.length * c + c by rw [Int.natCast_add, Int.add_mul]; simp]
    omega
def hangC : Option Int → Int
  | none => 0
  | some h => h + 1
theorem base_eq (r : Rcv) : base r = (r.rows.map fun x => x.2 + hangC r.hang).sum := by
  rw [sum_add]
  unfold base
  cases r.hang <;> simp [hangC]
theorem cm_lsize {v z s c p t m b : SV} {h : Option Int} {rows : List (Int × Int)} (hl : rows.length ≤ lim) : ev (run Pt (gvOf Ct) wf n) (mtOf Pt) (gvOf Ct) cm__law_size_0 [v, z, s, c, p, t, m, .d (.tuple (rows.map eRow)), .d (eO h), b, .un, .un] = .ok (.d (.list (rows.map fun x => .int (x.2 + hangC h)))) [v, z, s, c, p, t, m, .d (.tuple (rows.map eRow)), .d (eO h), b, .un, .un] := by
  have := comp_all (cl := run Pt (gvOf Ct) wf n) (mt := mtOf Pt) (gv := gvOf Ct) (e := .bin .add (.v 11) (.ite (.isN (.v 8)) (.c (.int 0)) (.bin .add (.v 8) (.c (.int 1))))) (t := .t [.n 10, .n 11]) (it := .tup (.v 7)) (own := [10, 11]) (ρ := [v, z, s, c, p, t, m, .d (.tuple (rows.map eRow)), .d (eO h), b, .un, .un]) (xs := rows.map eRow) (fun x => match x with
    | .tuple [_, .int y] => .int (y + hangC h)
    | _ => .none) (by simp) (by simpa using hl) fun x hx => by
      obtain ⟨r, hr, rfl⟩ := List.mem_map.mp hx
      refine ⟨[v, z, s, c, p, t, m, .d (.tuple (rows.map eRow)), .d (eO h), b, .d (.int r.1), .d (.int r.2)], by simp [eRow], by simp, ?_⟩
      cases h <;> simp [eRow, hangC]
  rw [List.map_map] at this
  exact this
theorem bd_lsize {v z h b rw' : SV} {i : Int} {s : Snd} (hs : OkSnd s) : execs (run Pt (gvOf Ct) wf n) (mtOf Pt) (gvOf Ct) wf bd__law_size_0 [v, .d (.int i), z, .d (.tuple [.int s.a, .int s.b]), .d (.tuple [.int s.c, .int s.d]), .d (.int s.t), .d (.int s.m), rw', h, b, .un, .un] =
    .ok .next [v, .d (.int (i * fac s)), z, .d (.tuple [.int s.a, .int s.b]), .d (.tuple [.int s.c, .int s.d]), .d (.int s.t), .d (.int s.m), rw', h, b, .un, .un] := bd_size hs
theorem run_law_size {r : Rcv} {ss : List Snd} (hr : OkRcv r) (hs : ∀ s ∈ ss, OkSnd s) (hl : ss.length ≤ 1000) : run Pt (gvOf Ct) wf (n + 1) 21 [.d (ePl r ss)] = some (.ret (.int (sizeP r ss)), [.d (ePl r ss)]) := by
  have l2 := hr.l2
  have hlim := lim_ge
  rw [run_of P__law_size rfl]
  have key : ∀ (v hg bk : SV) (i : Int), ∃ ρ', loopF (.t [.n 3, .n 4, .n 5, .n 6]) (execs (run Pt (gvOf Ct) wf n) (mtOf Pt) (gvOf Ct) wf bd__law_size_0) (ss.map eSnd) [v, .d (.int i), .d (.tuple (ss.map eSnd)), .un, .un, .un, .un, .d (.tuple (r.rows.map eRow)), hg, bk, .un, .un] = .ok .next ρ' ∧
      ∃ ρ2, ρ' = v :: .d (.int (ss.foldl (fun z s => z * fac s) i)) :: ρ2 := by
    intro v hg bk i
    obtain ⟨ρ', h1, h2⟩ := loopF_ind (t := .t [.n 3, .n 4, .n 5, .n 6]) (body := execs (run Pt (gvOf Ct) wf n) (mtOf Pt) (gvOf Ct) wf bd__law_size_0) (xs := ss.map eSnd)
      (fun k ρ => ∃ x3 x4 x5 x6, ρ = [v, .d (.int ((ss.take k).foldl (fun z s => z * fac s) i)), .d (.tuple (ss.map eSnd)), x3, x4, x5, x6, .d (.tuple (r.rows.map eRow)), hg, bk, .un, .un] ∧ stor (some x3) = true ∧ stor (some x4) = true ∧ stor (some x5) = true ∧ stor (some x6) = true)
      (fun k x ρ hx ⟨x3, x4, x5, x6, e, s3, s4, s5, s6⟩ => by
        subst e
        rw [List.getElem?_map, Option.map_eq_some_iff] at hx
        obtain ⟨s, hx, rfl⟩ := hx
        have ms : s ∈ ss := List.mem_of_getElem? hx
        refine ⟨[v, .d (.int ((ss.take k).foldl (fun z s => z * fac s) i)), .d (.tuple (ss.map eSnd)), .d (.tuple [.int s.a, .int s.b]), .d (.tuple [.int s.c, .int s.d]), .d (.int s.t), .d (.int s.m), .d (.tuple (r.rows.map eRow)), hg, bk, .un, .un], _,
          by simp [eSnd, s3, s4, s5, s6], bd_lsize (hs s ms), .d (.tuple [.int s.a, .int s.b]), .d (.tuple [.int s.c, .int s.d]), .d (.int s.t), .d (.int s.m), ?_, rfl, rfl, rfl, rfl⟩
        rw [List.take_add_one, hx]
        simp) _ ⟨.un, .un, .un, .un, rfl, rfl, rfl, rfl, rfl⟩
    obtain ⟨w1, w2, w3, w4, e, _⟩ := h2
    rw [List.length_map, List.take_length] at e
    exact ⟨ρ', h1, _, e⟩
  obtain ⟨ρ1, g1, ρ2, rfl⟩ := key (.d (ePl r ss)) (.d (eO r.hang)) (.d (eO r.back)) (base r)
  simp only [ePl, eRcv, base_eq] at g1 ⊢
  simp [d__law_size, ex_for, setR, cm_lsize (show r.rows.length ≤ lim by omega), ints_m (fun x : Int × Int => x.2 + hangC r.hang)] at g1 ⊢
  rw [g1]
  simp [sizeP, base_eq]
/-! the law's look at a sender -/
theorem bd_good0 (v s y1 y2 : SV) (z : PD) : execs (run Pt (gvOf Ct) wf (n + 1)) (mtOf Pt) (gvOf Ct) wf bd__law_good_plan_0 [v, s, .d z, y1, y2] = if isSpan z = true then .ok .next [v, s, .d z, y1, y2] else .ok (.ret (.bool false)) [v, s, .d z, y1, y2] := by
  cases z <;> simp [bd__law_good_plan_0, isSpan]
  rename_i l
  rcases l with _ | ⟨a, _ | ⟨b, _ | ⟨c, l⟩⟩⟩ <;> simp [isSpan]
  cases a <;> simp [isSpan]
  rename_i i
  cases hw : within (.int i) 1 4 <;> simp [within_int] at hw
  · rw [ifB_f, if_neg]
    rintro ⟨⟨h1, h2⟩, _⟩
    have := hw h1
    omega
  · cases within b i 4 <;> simp [hw]
theorem snd_no {a b t m : PD} (h : isSpan a = false) : isSnd (.tuple [a, b, t, m]) = false := by
  unfold isSnd
  split
  · rename_i e
    cases e
    rw [h]
    rfl
  · rfl
theorem bd_good1 (v x y1 y2 : SV) (s : PD) (h1 : stor (some x) = true) : ∃ z, stor (some z) = true ∧ execs (run Pt (gvOf Ct) wf (n + 1)) (mtOf Pt) (gvOf Ct) wf bd__law_good_plan_1 [v, .d s, x, y1, y2] = if isSnd s = true then .ok .next [v, .d s, z, y1, y2] else .ok (.ret (.bool false)) [v, .d s, z, y1, y2] := by
  match s with
  | .none => exact ⟨x, h1, by simp [bd__law_good_plan_1, isSnd]⟩
  | .bool _ => exact ⟨x, h1, by simp [bd__law_good_plan_1, isSnd]⟩
  | .int _ => exact ⟨x, h1, by simp [bd__law_good_plan_1, isSnd]⟩
  | .str _ => exact ⟨x, h1, by simp [bd__law_good_plan_1, isSnd]⟩
  | .list _ => exact ⟨x, h1, by simp [bd__law_good_plan_1, isSnd]⟩
  | .dict _ => exact ⟨x, h1, by simp [bd__law_good_plan_1, isSnd]⟩
  | .tuple [] => exact ⟨x, h1, by simp [bd__law_good_plan_1, isSnd]⟩
  | .tuple [a] => exact ⟨x, h1, by simp [bd__law_good_plan_1, isSnd]⟩
  | .tuple [a, b] => exact ⟨x, h1, by simp [bd__law_good_plan_1, isSnd]⟩
  | .tuple [a, b, t] => exact ⟨x, h1, by simp [bd__law_good_plan_1, isSnd]⟩
  | .tuple (a :: b :: t :: m :: c :: l) => exact ⟨x, h1, by simp [bd__law_good_plan_1, isSnd]⟩
  | .tuple [a, b, t, m] =>
  cases ha : isSpan a with
  | false =>
    refine ⟨.d a, rfl, ?_⟩
    simp [bd__law_good_plan_1, snd_no ha, ex_for, loopF, h1, bd_good0, ha]
  | true =>
    obtain ⟨i, j, rfl, _⟩ := span_inv ha
    refine ⟨.d b, rfl, ?_⟩
    cases hb : isSpan b with
    | false => simp [bd__law_good_plan_1, isSnd, ex_for, loopF, h1, bd_good0, ha, hb]
    | true =>
      simp [bd__law_good_plan_1, isSnd, ex_for, loopF, h1, bd_good0, ha, hb]
      cases within t 1 3 <;> cases within m 1 i <;> simp
end Er

set_option Elab.async false
set_option linter.all false
set_option maxRecDepth 100000
set_option maxHeartbeats 0
/-! S6: the law's good_plan; kinds, twins. -/
namespace Er
open PySem L2
variable {wf n : Nat}
theorem shaped_iff {d : PD} : shaped d = true ↔ d.canLay0 = true ∧ d.depth ≤ 64 := by
  unfold shaped PySem.SeqAt.shaped
  rw [Bool.and_eq_true, decide_eq_true_eq]
theorem eq_if {x y : PD} (h1 : shaped x = true) (h2 : shaped y = true) : cmpD .eq x y = some (PyData.eqv x y) := by
  show (if shaped x = true ∧ shaped y = true then some (PyData.eqv x y) else none) = _
  rw [if_pos ⟨h1, h2⟩]
theorem ne_if {x y : PD} (h1 : shaped x = true) (h2 : shaped y = true) : cmpD .ne x y = some (!PyData.eqv x y) := by
  show (if shaped x = true ∧ shaped y = true then some (!PyData.eqv x y) else none) = _
  rw [if_pos ⟨h1, h2⟩]
theorem ones_lay {α : Type} : ∀ l : List α, PyData.canLayAll0 (l.map fun _ => PyData.int 1) = true ∧ PyData.depthAll (l.map fun _ => PyData.int 1) = 0
  | [] => ⟨rfl, rfl⟩
  | x :: l => by
    obtain ⟨h1, h2⟩ := ones_lay l
    exact ⟨by rw [List.map_cons, PyData.canLayAll0, h1]; rfl, by rw [List.map_cons, PyData.depthAll, h2]; rfl⟩
theorem sh_ones {α : Type} (l : List α) : shaped (.list (l.map fun _ => .int 1)) = true := by
  obtain ⟨h1, h2⟩ := ones_lay l
  rw [shaped_iff]
  refine ⟨by rw [PyData.canLay0]; exact h1, ?_⟩
  rw [PyData.depth, h2]
  decide
theorem sh_nil : shaped (.list []) = true := rfl
theorem eqv_ones {α : Type} (l : List α) : PyData.eqv (.list (l.map fun _ => .int 1)) (.list []) = l.isEmpty := by
  cases l <;> rfl
@[simp] theorem ne_ones {α : Type} (l : List α) : cmpD .ne (.list (l.map fun _ => .int 1)) (.list []) = some (!l.isEmpty) := by
  show (if shaped _ = true ∧ shaped _ = true then some (!PyData.eqv _ _) else none) = _
  rw [if_pos ⟨sh_ones l, sh_nil⟩, eqv_ones]
@[simp] theorem eq_ones {α : Type} (l : List α) : cmpD .eq (.list (l.map fun _ => .int 1)) (.list []) = some l.isEmpty := by
  show (if shaped _ = true ∧ shaped _ = true then some (PyData.eqv _ _) else none) = _
  rw [if_pos ⟨sh_ones l, sh_nil⟩, eqv_ones]
def farRow (k : Int) (x : PD) : Bool := match x with
  | .tuple [.int c, _] => decide (k ≤ c)
  | _ => false
theorem cm_good {s o : SV} {x ss : List PD} {rows : List (Int × Int)} (hl : rows.length ≤ lim) : ev (run Pt (gvOf Ct) wf n) (mtOf Pt) (gvOf Ct) cm__law_good_plan_0 [.d (.tuple [.tuple (.tuple (rows.map eRow) :: x), .tuple ss]), s, o, .un, .un] =
    .ok (.d (.list (((rows.map eRow).filter (farRow ss.length)).map fun _ => .int 1))) [.d (.tuple [.tuple (.tuple (rows.map eRow) :: x), .tuple ss]), s, o, .un, .un] := by
  refine comp_pure (own := [3, 4]) (xs := rows.map eRow) (farRow ss.length) (fun _ => .int 1) (by simp) (by simpa using hl) fun z hz => ?_
  obtain ⟨r, hr, rfl⟩ := List.mem_map.mp hz
  exact ⟨[.d (.tuple [.tuple (.tuple (rows.map eRow) :: x), .tuple ss]), s, o, .d (.int r.1), .d (.int r.2)], by simp [eRow], by simp, by simp [eRow, farRow], by simp⟩
@[simp] theorem run_good_plan (v : PD) : run Pt (gvOf Ct) wf (n + 3) 31 [.d v] = some (.ret (.bool (isPlan v)), [.d v]) := by
  rw [run_of P__law_good_plan rfl]
  have loop : ∀ (u : SV) (ss : List PD), ∃ s x, loopF (.n 1) (execs (run Pt (gvOf Ct) wf (n + 2)) (mtOf Pt) (gvOf Ct) wf bd__law_good_plan_1) ss [u, .un, .un, .un, .un] = if allB isSnd ss = true then .ok .next [u, s, x, .un, .un] else .ok (.ret (.bool false)) [u, s, x, .un, .un] := by
    intro u ss
    obtain ⟨ρ', ⟨s, x, e, _⟩, hl⟩ := loopF_all (t := .n 1) (body := execs (run Pt (gvOf Ct) wf (n + 2)) (mtOf Pt) (gvOf Ct) wf bd__law_good_plan_1) (v := .bool false) isSnd (fun ρ => ∃ s x, ρ = [u, s, x, .un, .un] ∧ stor (some s) = true ∧ stor (some x) = true) ss
      (fun z hz ρ ⟨s, x, e, s1, s2⟩ => by
        subst e
        obtain ⟨z2, h1, h2⟩ := bd_good1 (wf := wf) (n := n + 1) u x .un .un z s2
        exact ⟨[u, .d z, x, .un, .un], [u, .d z, z2, .un, .un], by simp [s1], ⟨_, _, rfl, rfl, h1⟩, h2⟩) [u, .un, .un, .un, .un] ⟨_, _, rfl, rfl, rfl⟩
    subst e
    exact ⟨s, x, hl⟩
  cases hp : preP v with
  | false =>
    rw [isPlan_pre hp]
    cases v <;> simp [d__law_good_plan]
    rename_i l
    rcases l with _ | ⟨r, _ | ⟨s, _ | ⟨c, l⟩⟩⟩ <;> simp
    cases hr : isRecv r with
    | false => simp
    | true =>
      cases s <;> simp
      rename_i ss
      by_cases h2 : (2 : Int) ≤ ss.length ∧ (ss.length : Int) ≤ 3
      · have h3 : is2 2 3 ss.length = true := by
          unfold is2
          simp
          omega
        simp [preP, hr, h2.1, h2.2] at hp
        obtain ⟨s, x, hl⟩ := loop (.d (.tuple [r, .tuple ss])) ss
        rw [hp] at hl
        simp [h3, ex_for, hl]
      · have h3 : is2 2 3 ss.length = false := by
          unfold is2
          simp
          omega
        simp [h3]
  | true =>
    obtain ⟨r, ss, rfl, hr, hs, h2, h3⟩ := pre_inv hp
    have l2 := hr.l2
    have hlim := lim_ge
    have hr' := recv_ok hr
    have h4 : allB isSnd (ss.map eSnd) = true := List.all_eq_true.mpr fun x hx => by
      obtain ⟨y, hy, rfl⟩ := List.mem_map.mp hx
      exact snd_ok (hs y hy)
    have h5 : is2 2 3 ss.length = true := by
      unfold is2
      simp
      omega
    have z := run_law_size (wf := wf) (n := n + 1) hr hs (by omega)
    obtain ⟨s, x, hl⟩ := loop (.d (ePl r ss)) (ss.map eSnd)
    rw [h4] at hl
    have hr2 : eRcv r = .tuple [.tuple (r.rows.map eRow), eO r.hang, eO r.back] := rfl
    have c3 := cm_good (wf := wf) (n := n + 2) (s := s) (o := x) (x := [eO r.hang, eO r.back]) (ss := ss.map eSnd) (rows := r.rows) (by omega)
    rw [← hr2, List.length_map] at c3
    have fin' : isPlan (ePl r ss) = (((r.rows.map eRow).filter (farRow ss.length)).isEmpty && decide (sizeP r ss ≤ 6000)) := by
      rw [Bool.eq_iff_iff, isPlan_iff, Bool.and_eq_true, decide_eq_true_eq, List.isEmpty_iff, List.filter_eq_nil_iff]
      constructor
      · intro ok
        refine ⟨fun y hy => ?_, ok.sz⟩
        obtain ⟨q, hq, rfl⟩ := List.mem_map.mp hy
        have := ok.ch q hq
        simp [farRow, eRow]
        omega
      · rintro ⟨c1, c3⟩
        refine ⟨hr, hs, h2, h3, fun y hy => ?_, c3⟩
        have := c1 _ (List.mem_map.mpr ⟨y, hy, rfl⟩)
        simp [farRow, eRow] at this
        omega
    rw [fin']
    simp only [ePl] at z hl ⊢
    simp [-List.filter_map, d__law_good_plan, hr', h5, ex_for, hl, c3, z]
    cases ((r.rows.map eRow).filter (farRow ss.length)).isEmpty <;> simp
/-! kinds, twins -/
def kindN (v : PD) : Int := match v with
  | .none => 0
  | .bool _ => 1
  | .list _ => 2
  | .tuple _ => 3
  | .int _ => 4
  | .str _ => 5
  | .dict _ => 6
@[simp] theorem run_kind (v : PD) : run Pt (gvOf Ct) wf (n + 1) 16 [.d v] = some (.ret (.int (kindN v)), [.d v]) := by
  rw [run_of P__law_kind rfl]
  cases v <;> simp [d__law_kind, isTy, kindN]
theorem sh_bool {b : Bool} : shaped (.bool b) = true := rfl
theorem eq_bool {a b : Bool} : cmpD .eq (.bool a) (.bool b) = some (a == b) := by
  rw [eq_if sh_bool sh_bool]
  rfl
@[simp] theorem run_twins_bool (a b : Bool) : run Pt (gvOf Ct) wf (n + 2) 17 [.d (.bool a), .d (.bool b)] = some (.ret (.bool (a == b)), [.d (.bool a), .d (.bool b)]) := by
  rw [run_of P__law_twins rfl]
  simp [d__law_twins, kindN, eq_bool]
end Er

set_option Elab.async false
set_option linter.all false
set_option maxRecDepth 100000
set_option maxHeartbeats 0
/-! S7: what a sender does, as both look at it. -/
namespace Er
open PySem L2
variable {wf n : Nat}
theorem lay_mem : ∀ {l : List PD}, PyData.canLayAll0 l = true → PyData.depthAll l ≤ 63 → ∀ x ∈ l, shaped x = true
  | y :: l, h1, h2, x, hx => by
    rw [PyData.canLayAll0, Bool.and_eq_true] at h1
    rw [PyData.depthAll] at h2
    rcases List.mem_cons.mp hx with e | hx
    · subst e
      exact shaped_iff.mpr ⟨h1.1, by omega⟩
    · exact lay_mem h1.2 (by omega) x hx
theorem sh_mem {l : List PD} (h : shaped (.tuple l) = true) : ∀ x ∈ l, shaped x = true := by
  obtain ⟨h1, h2⟩ := shaped_iff.mp h
  rw [PyData.canLay0] at h1
  rw [PyData.depth] at h2
  exact lay_mem h1 (by omega)
theorem sh_memL {l : List PD} (h : shaped (.list l) = true) : ∀ x ∈ l, shaped x = true := by
  obtain ⟨h1, h2⟩ := shaped_iff.mp h
  rw [PyData.canLay0] at h1
  rw [PyData.depth] at h2
  exact lay_mem h1 (by omega)
theorem sh_call : shaped (.str "call") = true := by decide +kernel
theorem sh_pause : shaped (.str "pause") = true := by decide +kernel
theorem sh_idle : shaped (.str "idle") = true := by decide +kernel
theorem sh_idle4 : shaped (.tuple [.str "idle", .int 0, .int 0, .int 0]) = true := by decide +kernel
theorem eqS {x y : Str} (h1 : shaped (.str x) = true) (h2 : shaped (.str y) = true) : cmpD .eq (.str x) (.str y) = some (x == y) := by
  rw [eq_if h1 h2]
  rfl
theorem neS {x y : Str} (h1 : shaped (.str x) = true) (h2 : shaped (.str y) = true) : cmpD .ne (.str x) (.str y) = some (!(x == y)) := by
  rw [ne_if h1 h2]
  rfl
def isPart (s : Snd) (v : PD) : Bool := match v with
  | .tuple [.str st, a, b, c] => if (st == ("call" : Str)) = true then within a 0 (s.t - 1) && (within b 0 (s.b - 1) && (match b with
      | .int j => within c 0 (if s.m < j then s.m else j)
      | _ => false))
    else if (st == ("pause" : Str)) = true then within a 1 (s.t - 1) && (within b 0 (s.d - 1) && within c 0 0)
    else if (st == ("idle" : Str)) = true then within a 0 0 && (within b 0 0 && within c 0 0)
    else false
  | _ => false
theorem part_small {s : Snd} (hs : OkSnd s) {st : Str} {a b c : PD} (h : isPart s (.tuple [.str st, a, b, c]) = true) : (within a 0 10 && (within b 0 10 && within c 0 10)) = true := by
  obtain ⟨h1, h2, h3, h4, h5, h6, h7, h8, h9, h10⟩ := hs
  unfold isPart at h
  dsimp only at h
  split at h
  · simp only [Bool.and_eq_true] at h
    obtain ⟨i, rfl, i1, i2⟩ := within_inv h.1
    obtain ⟨j, rfl, j1, j2⟩ := within_inv h.2.1
    obtain ⟨k, rfl, k1, k2⟩ := within_inv h.2.2
    simp only [within_int, Bool.and_eq_true, decide_eq_true_eq]
    split at k2 <;> omega
  · split at h
    · simp only [Bool.and_eq_true] at h
      obtain ⟨i, rfl, i1, i2⟩ := within_inv h.1
      obtain ⟨j, rfl, j1, j2⟩ := within_inv h.2.1
      obtain ⟨k, rfl, k1, k2⟩ := within_inv h.2.2
      simp only [within_int, Bool.and_eq_true, decide_eq_true_eq]
      omega
    · split at h
      · simp only [Bool.and_eq_true] at h
        obtain ⟨i, rfl, i1, i2⟩ := within_inv h.1
        obtain ⟨j, rfl, j1, j2⟩ := within_inv h.2.1
        obtain ⟨k, rfl, k1, k2⟩ := within_inv h.2.2
        simp only [within_int, Bool.and_eq_true, decide_eq_true_eq]
        omega
      · cases h
theorem cm_ss {x2 x3 x4 x5 x6 x7 x8 x9 : SV} {s w : PD} {l : List PD} (hl : l.length ≤ lim) : ev (run Pt (gvOf Ct) wf (n + 1)) (mtOf Pt) (gvOf Ct) cm_is_sender_stand_0 [.d s, .d (.tuple (w :: l)), x2, x3, x4, x5, x6, x7, x8, x9, .un] = .ok (.d (.list (l.map fun x => .bool (within x 0 10)))) [.d s, .d (.tuple (w :: l)), x2, x3, x4, x5, x6, x7, x8, x9, .un] :=
  comp_all _ (by simp) hl fun x hx => ⟨[.d s, .d (.tuple (w :: l)), x2, x3, x4, x5, x6, x7, x8, x9, .d x], by simp, by simp, by simp⟩
theorem run_sstand {s : Snd} (hs : OkSnd s) {v : PD} (hv : shaped v = true) : run Pt (gvOf Ct) wf (n + 2) 11 [.d (eSnd s), .d v] = some (.ret (.bool (isPart s v)), [.d (eSnd s), .d v]) := by
  obtain ⟨h1, h2, h3, h4, h5, h6, h7, h8, h9, h10⟩ := hs
  rw [run_of P_is_sender_stand rfl]
  cases v with
  | tuple l =>
    rcases l with _ | ⟨w, _ | ⟨a, _ | ⟨b, _ | ⟨c, _ | ⟨z, l⟩⟩⟩⟩⟩
    · simp [d_is_sender_stand, isPart, isTy, eSnd]
    · simp [d_is_sender_stand, isPart, isTy, eSnd]
    · simp [d_is_sender_stand, isPart, isTy, eSnd]
    · simp [d_is_sender_stand, isPart, isTy, eSnd]
    · cases w with
      | str st =>
        have hst := sh_mem hv (.str st) (by simp)
        have c0 := cm_ss (wf := wf) (n := n) (x2 := .d (.tuple [.int s.a, .int s.b])) (x3 := .d (.tuple [.int s.c, .int s.d])) (x4 := .d (.int s.t)) (x5 := .d (.int s.m)) (x6 := .d (.str st)) (x7 := .d a) (x8 := .d b) (x9 := .d c)
          (s := .tuple [.tuple [.int s.a, .int s.b], .tuple [.int s.c, .int s.d], .int s.t, .int s.m]) (w := .str st) (l := [a, b, c]) (by simp)
        have e1 := eqS hst sh_call
        have e2 := eqS hst sh_pause
        cases hw : (within a 0 10 && (within b 0 10 && within c 0 10)) with
        | false =>
          have hp : isPart s (.tuple [.str st, a, b, c]) = false := by
            cases hq : isPart s (.tuple [.str st, a, b, c]) with
            | false => rfl
            | true =>
              rw [part_small ⟨h1, h2, h3, h4, h5, h6, h7, h8, h9, h10⟩ hq] at hw
              cases hw
          have hw2 : within a 0 10 = false ∨ within b 0 10 = false ∨ within c 0 10 = false := by
            revert hw
            cases within a 0 10 <;> cases within b 0 10 <;> cases within c 0 10 <;> simp
          simp [d_is_sender_stand, eSnd, isTy, c0, boolsD, allT, hw2, hp]
        | true =>
          simp only [Bool.and_eq_true] at hw
          obtain ⟨i, rfl, i1, i2⟩ := within_inv hw.1
          obtain ⟨j, rfl, j1, j2⟩ := within_inv hw.2.1
          obtain ⟨k, rfl, k1, k2⟩ := within_inv hw.2.2
          have e3 : PyData.eqv (.tuple [.str st, .int i, .int j, .int k]) (.tuple [.str "idle", .int 0, .int 0, .int 0]) = (st == ("idle" : Str) && (i == 0 && (j == 0 && (k == 0 && true)))) := rfl
          have f1 : within (.int i) 0 10 = true := hw.1
          have f2 : within (.int j) 0 10 = true := hw.2.1
          have f3 : within (.int k) 0 10 = true := hw.2.2
          have c1 : (("call" : Str) == "pause") = false := by decide +kernel
          have c2 : (("call" : Str) == "idle") = false := by decide +kernel
          have c3 : (("pause" : Str) == "idle") = false := by decide +kernel
          have g : isPart s (.tuple [.str st, .int i, .int j, .int k]) = if st = ("call" : Str) then decide (i < s.t) && (decide (j < s.b) && decide (k ≤ if s.m < j then s.m else j)) else if st = ("pause" : Str) then decide (1 ≤ i) && decide (i < s.t) && (decide (j < s.d) && decide (k = 0)) else (st == ("idle" : Str) && (i == 0 && (j == 0 && (k == 0 && true)))) := by
            unfold isPart
            simp only [beq_iff_eq, within_int]
            split
            · rw [Bool.eq_iff_iff]
              simp
              split <;> omega
            · split
              · rw [Bool.eq_iff_iff]
                simp
                omega
              · split
                · rename_i z
                  rw [Bool.eq_iff_iff]
                  simp [z]
                  omega
                · rename_i z
                  have z2 : (st == ("idle" : Str)) = false := beq_eq_false_iff_ne.mpr z
                  rw [z2]
                  rfl
          rw [g]
          simp only [within_int] at f1 f2 f3
          simp [d_is_sender_stand, eSnd, isTy, c0, boolsD, allT, e1, e2, eq_if hv sh_idle4, e3, within_int, i1, i2, j1, j2, k1, k2]
          by_cases z1 : st = ("call" : Str)
          · simp only [if_pos z1]
          · by_cases z2 : st = ("pause" : Str)
            · simp only [if_neg z1, if_pos z2]
            · simp only [if_neg z1, if_neg z2]
      | _ => simp [d_is_sender_stand, isTy, isPart, eSnd]
    · simp [d_is_sender_stand, isPart, isTy, eSnd]
  | _ => simp [d_is_sender_stand, isPart, isTy, eSnd]
theorem allF_eq {α : Type} {p : α → Bool} : ∀ l : List α, (l.filter fun x => !p x).isEmpty = l.all p
  | [] => rfl
  | x :: l => by
    rw [List.filter_cons, List.all_cons, ← allF_eq l]
    cases p x <;> rfl
theorem cm_gp {x2 x3 x4 x5 x6 : SV} {s w : PD} {l : List PD} (hl : l.length ≤ lim) : ev (run Pt (gvOf Ct) wf (n + 1)) (mtOf Pt) (gvOf Ct) cm__law_good_part_0 [.d s, .d (.tuple (w :: l)), x2, x3, x4, x5, x6, .un] = .ok (.d (.list ((l.filter fun x => !within x 0 0).map fun _ => .int 1))) [.d s, .d (.tuple (w :: l)), x2, x3, x4, x5, x6, .un] :=
  comp_pure (own := [7]) (xs := l) (fun x => !within x 0 0) (fun _ => .int 1) (by simp) hl fun x hx => ⟨[.d s, .d (.tuple (w :: l)), x2, x3, x4, x5, x6, .d x], by simp, by simp, by simp, by simp⟩
theorem run_gpart {s : Snd} (hs : OkSnd s) {v : PD} (hv : shaped v = true) : run Pt (gvOf Ct) wf (n + 2) 32 [.d (eSnd s), .d v] = some (.ret (.bool (isPart s v)), [.d (eSnd s), .d v]) := by
  obtain ⟨h1, h2, h3, h4, h5, h6, h7, h8, h9, h10⟩ := hs
  rw [run_of P__law_good_part rfl]
  cases v with
  | tuple l =>
    rcases l with _ | ⟨w, _ | ⟨a, _ | ⟨b, _ | ⟨c, _ | ⟨z, l⟩⟩⟩⟩⟩
    · simp [d__law_good_part, isPart, eSnd]
    · simp [d__law_good_part, isPart, eSnd]
    · simp [d__law_good_part, isPart, eSnd]
    · simp [d__law_good_part, isPart, eSnd]
    · cases w with
      | str st =>
        have hst := sh_mem hv (.str st) (by simp)
        have c0 := cm_gp (wf := wf) (n := n) (x2 := .d (.tuple [.int s.a, .int s.b])) (x3 := .d (.tuple [.int s.c, .int s.d])) (x4 := .d (.int s.t)) (x5 := .d (.int s.m)) (x6 := .un)
          (s := .tuple [.tuple [.int s.a, .int s.b], .tuple [.int s.c, .int s.d], .int s.t, .int s.m]) (w := .str st) (l := [a, b, c]) (by simp)
        have e1 := neS hst sh_call
        have e2 := eqS hst sh_pause
        have e3 := eqS hst sh_idle
        have c1 : (("idle" : Str) == "call") = false := by decide +kernel
        have c2 : (("idle" : Str) == "pause") = false := by decide +kernel
        have c3 : (("pause" : Str) == "call") = false := by decide +kernel
        by_cases z1 : st = ("idle" : Str)
        · subst z1
          simp [-List.filter_cons, d__law_good_part, eSnd, isTy, c0, e1, e2, e3, allF_eq, isPart, c1, c2]
        · by_cases z2 : st = ("pause" : Str)
          · subst z2
            have z3 : (("pause" : Str) == "idle") = false := beq_eq_false_iff_ne.mpr z1
            simp [d__law_good_part, eSnd, isTy, e1, e2, e3, setR, isPart, c3, z3]
            rw [Bool.and_assoc]
          · have z1b : (st == ("idle" : Str)) = false := beq_eq_false_iff_ne.mpr z1
            have z2b : (st == ("pause" : Str)) = false := beq_eq_false_iff_ne.mpr z2
            by_cases z3 : st = ("call" : Str)
            · have z3b : (st == ("call" : Str)) = true := beq_iff_eq.mpr z3
              cases ha : within a 0 (s.t - 1) with
              | false => simp [d__law_good_part, eSnd, isTy, e1, e2, e3, setR, isPart, z1b, z2b, z3b, ha]
              | true =>
                cases hb : within b 0 (s.b - 1) with
                | false => simp [d__law_good_part, eSnd, isTy, e1, e2, e3, setR, isPart, z1b, z2b, z3b, ha, hb]
                | true =>
                  obtain ⟨j, rfl, _⟩ := within_inv hb
                  simp [d__law_good_part, eSnd, isTy, e1, e2, e3, setR, isPart, z1b, z2b, z3b, ha, hb]
            · have z3b : (st == ("call" : Str)) = false := beq_eq_false_iff_ne.mpr z3
              simp [d__law_good_part, eSnd, isTy, e1, e2, e3, setR, isPart, z1b, z2b, z3b]
      | _ => simp [d__law_good_part, isTy, isPart, eSnd]
    · simp [d__law_good_part, isPart, eSnd]
  | _ => simp [d__law_good_part, isPart, eSnd]
end Er

set_option Elab.async false
set_option linter.all false
set_option maxRecDepth 100000
set_option maxHeartbeats 0
/-! S8: stands, as both look at them. -/
namespace Er
open PySem L2
variable {wf n : Nat}
def hangT (h : Option Int) : Int := match h with
  | none => -1
  | some h => h
def isEar (r : Rcv) (v : PD) : Bool := match v with
  | .tuple [.int i, b, c] => decide (0 ≤ i) && decide (i ≤ r.rows.length - 1) && (within b 0 ((r.rows.getD i.toNat (0, 0)).2 - 1) && within c (-1) (hangT r.hang))
  | _ => false
theorem row_at {r : Rcv} {i : Int} (h1 : 0 ≤ i) (h2 : i ≤ r.rows.length - 1) (hl : 1 ≤ r.rows.length) : atI (r.rows.map eRow) i = some (.tuple [.int (r.rows.getD i.toNat (0, 0)).1, .int (r.rows.getD i.toNat (0, 0)).2]) := by
  rw [atI_of h1, List.getElem?_map]
  have : i.toNat < r.rows.length := by omega
  rw [List.getElem?_eq_getElem this]
  simp [eRow, List.getD_eq_getElem?_getD, List.getElem?_eq_getElem this]
theorem hang_ite {cl : Call} {mt : Nat → List Bool} {gv : Nat → PD} {ρ : Rho} {h : Option Int} {i : Nat} (hi : ρ[i]? = some (.d (eO h))) : ev cl mt gv (.ite (.isN (.v i)) (.neg (.c (.int 1))) (.v i)) ρ = .ok (.d (.int (hangT h))) ρ := by
  cases h <;> simp [hi, hangT]
theorem run_ear {r : Rcv} (hr : OkRcv r) (v : PD) : run Pt (gvOf Ct) wf (n + 2) 10 [.d (eRcv r), .d v] = some (.ret (.bool (isEar r v)), [.d (eRcv r), .d v]) := by
  rw [run_of P_is_ear_stand rfl]
  have l1 := hr.l1
  cases v with
  | tuple l =>
    rcases l with _ | ⟨a, _ | ⟨b, _ | ⟨c, _ | ⟨z, l⟩⟩⟩⟩
    · simp [d_is_ear_stand, isEar, isTy, eRcv]
    · simp [d_is_ear_stand, isEar, isTy, eRcv]
    · simp [d_is_ear_stand, isEar, isTy, eRcv]
    · cases ha : within a 0 (r.rows.length - 1) with
      | false =>
        have hp : isEar r (.tuple [a, b, c]) = false := by
          cases a <;> simp [isEar, within_int] at ha ⊢
          intro h1 h2
          have := ha h1
          omega
        simp [d_is_ear_stand, isTy, eRcv, ha, hp]
      | true =>
        obtain ⟨i, rfl, i1, i2⟩ := within_inv ha
        have e1 := row_at i1 i2 l1
        have e2 := hang_ite (cl := run Pt (gvOf Ct) wf (n + 1)) (mt := mtOf Pt) (gv := gvOf Ct) (h := r.hang) (i := 3) (ρ := [.d (.tuple [.tuple (r.rows.map eRow), eO r.hang, eO r.back]), .d (.tuple [.int i, b, c]), .d (.tuple (r.rows.map eRow)), .d (eO r.hang), .d (eO r.back)]) rfl
        simp [-ev_ite, d_is_ear_stand, isTy, eRcv, ha, e1, e2, isEar, i1, i2]
    · simp [d_is_ear_stand, isEar, isTy, eRcv]
  | _ => simp [d_is_ear_stand, isEar, isTy, eRcv]
/-! all parts -/
def gP (x : PD) : Bool := match x with
  | .tuple [.tuple [.tuple [.int a, .int b], .tuple [.int c, .int d], .int t, .int m], p] => isPart ⟨a, b, c, d, t, m⟩ p
  | _ => false
theorem gP_e (s : Snd) (p : PD) : gP (.tuple [eSnd s, p]) = isPart s p := rfl
def isStand (r : Rcv) (ss : List Snd) (v : PD) : Bool := match v with
  | .tuple [e, .tuple ps] => isEar r e && (decide ((ps.length : Int) = ss.length) && allB gP (zipL (ss.map eSnd) ps))
  | _ => false
theorem zip_mem : ∀ {xs ys : List PD} {z : PD}, z ∈ zipL xs ys → ∃ x y, z = .tuple [x, y] ∧ x ∈ xs ∧ y ∈ ys
  | [], _, _, h => by simp [zipL] at h
  | _ :: _, [], _, h => by simp [zipL] at h
  | x :: xs, y :: ys, z, h => by
    rw [zipL] at h
    rcases List.mem_cons.mp h with e | h
    · exact ⟨x, y, e, by simp, by simp⟩
    · obtain ⟨a, b, e, h1, h2⟩ := zip_mem h
      exact ⟨a, b, e, by simp [h1], by simp [h2]⟩
theorem cm_fit {r e : PD} {ss : List Snd} {ps : List PD} (hs : ∀ s ∈ ss, OkSnd s) (hp : ∀ p ∈ ps, shaped p = true) (hl : ps.length ≤ 1000) : ev (run Pt (gvOf Ct) wf (n + 2)) (mtOf Pt) (gvOf Ct) cm_fits_0 [.d (.tuple [r, .tuple (ss.map eSnd)]), .d (.tuple [e, .tuple ps]), .un, .un] =
    .ok (.d (.list ((zipL (ss.map eSnd) ps).map fun x => .bool (gP x)))) [.d (.tuple [r, .tuple (ss.map eSnd)]), .d (.tuple [e, .tuple ps]), .un, .un] := by
  have hlim := lim_ge
  refine comp_all (own := [2, 3]) (xs := zipL (ss.map eSnd) ps) (fun x => .bool (gP x)) (by simp) (by rw [zipL_length]; omega) fun x hx => ?_
  obtain ⟨a, b, rfl, ha, hb⟩ := zip_mem hx
  obtain ⟨s, hs1, rfl⟩ := List.mem_map.mp ha
  exact ⟨[.d (.tuple [r, .tuple (ss.map eSnd)]), .d (.tuple [e, .tuple ps]), .d (eSnd s), .d b], by simp, by simp, by simp [run_sstand (hs s hs1) (hp b hb), gP_e]⟩
theorem run_fits {r : Rcv} {ss : List Snd} (ok : OkPl r ss) {v : PD} (hv : shaped v = true) : run Pt (gvOf Ct) wf (n + 3) 12 [.d (ePl r ss), .d v] = some (.ret (.bool (isStand r ss v)), [.d (ePl r ss), .d v]) := by
  rw [run_of P_fits rfl]
  have n3 := ok.n3
  have z := fun v => run_ear (wf := wf) (n := n) ok.rc v
  cases v with
  | tuple l =>
    rcases l with _ | ⟨a, _ | ⟨b, _ | ⟨c, l⟩⟩⟩
    · simp [d_fits, isStand, isTy, ePl]
    · simp [d_fits, isStand, isTy, ePl]
    · cases ha : isEar r a with
      | false =>
        have : isStand r ss (.tuple [a, b]) = false := by
          unfold isStand
          split
          · rename_i e
            cases e
            rw [ha]
            rfl
          · rfl
        simp [d_fits, this, isTy, ePl, z, ha]
      | true =>
        cases b with
        | tuple ps =>
          by_cases hl : (ps.length : Int) = ss.length
          · have hp : ∀ p ∈ ps, shaped p = true := sh_mem (sh_mem hv (.tuple ps) (by simp))
            have c0 := cm_fit (wf := wf) (n := n) (r := eRcv r) (e := a) (ss := ss) (ps := ps) ok.sn hp (by omega)
            simp [d_fits, isStand, isTy, ePl, z, ha, hl, c0]
          · simp [d_fits, isStand, isTy, ePl, z, ha, hl]
        | _ => simp [d_fits, isStand, isTy, ePl, z, ha]
    · simp [d_fits, isStand, isTy, ePl]
  | _ => simp [d_fits, isStand, isTy, ePl]
theorem run_is_stand {r : Rcv} {ss : List Snd} (ok : OkPl r ss) {v : PD} (hv : shaped v = true) : run Pt (gvOf Ct) wf (n + 6) 13 [.d (ePl r ss), .d v] = some (.ret (.bool (isStand r ss v)), [.d (ePl r ss), .d v]) := by
  rw [run_of P_is_stand rfl]
  have z := run_look (wf := wf) (n := n) (isPlan_iff.mpr ok)
  have z2 := run_fits (wf := wf) (n := n + 2) ok hv
  simp [d_is_stand, z, z2]
theorem allF_eqB (p : PD → Bool) (l : List PD) : (l.filter fun x => !p x).isEmpty = allB p l := allF_eq l
theorem cm_gst {x2 x3 x4 x5 x6 x7 : SV} {r e : PD} {ss : List Snd} {ps : List PD} (hs : ∀ s ∈ ss, OkSnd s) (hp : ∀ p ∈ ps, shaped p = true) (hl : ps.length ≤ 1000) : ev (run Pt (gvOf Ct) wf (n + 2)) (mtOf Pt) (gvOf Ct) cm__law_good_stand_0 [.d (.tuple [r, .tuple (ss.map eSnd)]), .d (.tuple [e, .tuple ps]), x2, x3, x4, x5, x6, x7, .un, .un] =
    .ok (.d (.list (((zipL (ss.map eSnd) ps).filter fun x => !gP x).map fun _ => .int 1))) [.d (.tuple [r, .tuple (ss.map eSnd)]), .d (.tuple [e, .tuple ps]), x2, x3, x4, x5, x6, x7, .un, .un] := by
  have hlim := lim_ge
  refine comp_pure (own := [8, 9]) (xs := zipL (ss.map eSnd) ps) (fun x => !gP x) (fun _ => .int 1) (by simp) (by rw [zipL_length]; omega) fun x hx => ?_
  obtain ⟨a, b, rfl, ha, hb⟩ := zip_mem hx
  obtain ⟨s, hs1, rfl⟩ := List.mem_map.mp ha
  exact ⟨[.d (.tuple [r, .tuple (ss.map eSnd)]), .d (.tuple [e, .tuple ps]), x2, x3, x4, x5, x6, x7, .d (eSnd s), .d b], by simp, by simp, by simp [run_gpart (hs s hs1) (hp b hb), gP_e], by simp⟩
theorem run_good_stand {r : Rcv} {ss : List Snd} (ok : OkPl r ss) {v : PD} (hv : shaped v = true) : run Pt (gvOf Ct) wf (n + 3) 33 [.d (ePl r ss), .d v] = some (.ret (.bool (isStand r ss v)), [.d (ePl r ss), .d v]) := by
  rw [run_of P__law_good_stand rfl]
  have n3 := ok.n3
  have l1 := ok.rc.l1
  cases v with
  | tuple l =>
    rcases l with _ | ⟨a, _ | ⟨b, _ | ⟨c, l⟩⟩⟩
    · simp [d__law_good_stand, isStand, ePl]
    · simp [d__law_good_stand, isStand, ePl]
    · have hno : isEar r a = false → isStand r ss (.tuple [a, b]) = false := fun ha => by
        unfold isStand
        split
        · rename_i e
          cases e
          rw [ha]
          rfl
        · rfl
      cases hm : made a (is1 3) with
      | false =>
        have ha : isEar r a = false := by
          cases a with
          | tuple l =>
            rcases l with _ | ⟨w, _ | ⟨p, _ | ⟨q, _ | ⟨z, l⟩⟩⟩⟩ <;> first | rfl | (simp at hm; done) | (cases w <;> rfl)
          | _ => rfl
        simp [d__law_good_stand, ePl, hm, hno ha]
      | true =>
        obtain ⟨w, p, q, rfl⟩ : ∃ w p q, a = .tuple [w, p, q] := by
          cases a with
          | tuple l =>
            rcases l with _ | ⟨w, _ | ⟨p, _ | ⟨q, _ | ⟨z, l⟩⟩⟩⟩
            · simp at hm
            · simp at hm
            · simp at hm
            · exact ⟨w, p, q, rfl⟩
            · simp at hm
          | _ => simp at hm
        cases b with
        | tuple ps =>
          by_cases hl : (ps.length : Int) = ss.length
          · have hp : ∀ p ∈ ps, shaped p = true := sh_mem (sh_mem hv (.tuple ps) (by simp))
            have h1 : is1 (ss.length : Int) (ps.length : Int) = true := by
              unfold is1
              exact decide_eq_true hl.symm
            have h2 : is1 (ss.length : Int) (ss.length : Int) = true := decide_eq_true rfl
            have c0 := fun x2 x3 x4 x5 x6 x7 => cm_gst (wf := wf) (n := n) (x2 := x2) (x3 := x3) (x4 := x4) (x5 := x5) (x6 := x6) (x7 := x7) (r := .tuple [.tuple (r.rows.map eRow), eO r.hang, eO r.back]) (e := .tuple [w, p, q]) (ss := ss) (ps := ps) ok.sn hp (by omega)
            cases hw : within w 0 (r.rows.length - 1) with
            | false =>
              have ha : isEar r (.tuple [w, p, q]) = false := by
                cases w <;> simp [isEar, within_int] at hw ⊢
                intro h1 h2
                have := hw h1
                omega
              simp [d__law_good_stand, ePl, eRcv, h1, hw, hno ha]
            | true =>
              obtain ⟨i, rfl, i1, i2⟩ := within_inv hw
              have e1 := row_at i1 i2 l1
              have e2 := hang_ite (cl := run Pt (gvOf Ct) wf (n + 2)) (mt := mtOf Pt) (gv := gvOf Ct) (h := r.hang) (i := 3) (ρ := [.d (.tuple [.tuple [.tuple (r.rows.map eRow), eO r.hang, eO r.back], .tuple (ss.map eSnd)]), .d (.tuple [.tuple [.int i, p, q], .tuple ps]), .d (.tuple (r.rows.map eRow)), .d (eO r.hang), .d (eO r.back), .d (.int i), .d p, .d q, .un, .un]) rfl
              have c1 := c0 (.d (.tuple (r.rows.map eRow))) (.d (eO r.hang)) (.d (eO r.back)) (.d (.int i)) (.d p) (.d q)
              simp [-ev_ite, d__law_good_stand, ePl, eRcv, h1, hw, e1, e2, c1, isStand, isEar, i1, i2, hl, allF_eqB, h2]
              cases within p 0 ((r.rows[i.toNat]?.getD (0, 0)).snd - 1) <;> cases within q (-1) (hangT r.hang) <;> simp
          · have h1 : is1 (ss.length : Int) (ps.length : Int) = false := decide_eq_false (fun z => hl z.symm)
            simp [d__law_good_stand, isStand, ePl, h1, hl]
        | _ => simp [d__law_good_stand, isStand, ePl]
    · simp [d__law_good_stand, isStand, ePl]
  | _ => simp [d__law_good_stand, isStand, ePl]
end Er

set_option Elab.async false
set_option linter.all false
set_option maxRecDepth 100000
set_option maxHeartbeats 0
/-! S9: springs, drawn numbers, drawn plans. -/
namespace Er
open PySem L2
def bk1 (x : Option SV) (i : Nat) (ρ : Rho) : Rho := match x with
  | some x => ρ.set i x
  | none => ρ
@[simp] theorem bk1_s {x : SV} {i : Nat} {ρ : Rho} : bk1 (some x) i ρ = ρ.set i x := rfl
@[simp] theorem backR_nil {ρ ρ' : Rho} : backR ρ ρ' [] = ρ' := rfl
@[simp] theorem backR_cons {ρ ρ' : Rho} {i : Nat} {l : List Nat} : backR ρ ρ' (i :: l) = bk1 ρ[i]? i (backR ρ ρ' l) := rfl
theorem backR_w {ρ ρ' : Rho} {own : List Nat} (h : ρ'.length = ρ.length) : backR ρ (wipeR ρ' own) own = backR ρ ρ' own := by
  apply List.ext_getElem?
  intro i
  by_cases m : i ∈ own
  · rw [backR_in ρ _ (by rw [wipeR_length]; exact h) own i m, backR_in ρ _ h own i m]
  · rw [backR_get ρ _ own i m, backR_get ρ _ own i m, wipeR_get ρ' own i m]
section
variable {cl : Call} {mt : Nat → List Bool} {gv : Nat → PD} {wf : Nat}
theorem comp_run {e : Ex} {t : Tg} {it : Er.It} {own : List Nat} {ρ ρ0 : Rho} {xs : List PD} (J : Nat → Rho → List PD → Prop) (hi : evIt cl mt gv it ρ = .ok xs ρ0) (hl : xs.length ≤ lim)
    (h0 : J 0 (wipeR ρ0 own) []) (hlen : ∀ i ρ ys, J i ρ ys → ρ.length = ρ0.length)
    (h : ∀ i x ρ ys, xs[i]? = some x → J i ρ ys → ∃ ρ1 y ρ2, asgR t x ρ = some ρ1 ∧ ev cl mt gv e ρ1 = .ok (.d y) ρ2 ∧ J (i + 1) (wipeR ρ2 own) (ys ++ [y])) :
    ∃ ρ1 ys, ev cl mt gv (.comp e t it (.c (.bool true)) own) ρ = .ok (.d (.list ys)) (backR ρ0 ρ1 own) ∧ ys.length = xs.length ∧ J xs.length ρ1 ys := by
  obtain ⟨ρ', ys, h1, h2, h3⟩ := comp_st (cl := cl) (mt := mt) (gv := gv) J hi hl h0 h
  refine ⟨_, ys, ?_, h2, h3⟩
  have := hlen _ _ _ h3
  rw [wipeR_length] at this
  rw [h1, backR_w this]
end
variable {wf n : Nat}
def Spr (o : OB) : Prop := ∃ a b : Int, o = .lst [.int a, .int b] ∧ 0 ≤ a ∧ 0 ≤ b
@[simp] theorem ixN_20 : ixN 2 0 = some 0 := rfl
@[simp] theorem ixN_21 : ixN 2 1 = some 1 := rfl
theorem bin_mod {i j : Int} (h : j ≠ 0) : binD .mod (.int i) (.int j) = some (.int (i.fmod j)) := by
  show (if j ≠ 0 then some (PyData.int (i.fmod j)) else none) = _
  rw [if_pos h]
theorem bin_fdiv {i j : Int} (h : j ≠ 0) (h2 : j.natAbs < 1073741824) : binD .fdiv (.int i) (.int j) = some (.int (i.fdiv j)) := by
  show (if j ≠ 0 ∧ j.natAbs < 1073741824 then some (PyData.int (i.fdiv j)) else none) = _
  rw [if_pos ⟨h, h2⟩]
theorem bin_mulC {i j : Int} (h : j.natAbs < 18446744073709551616) : binD .mul (.int i) (.int j) = some (.int (i * j)) := by
  show (if i.natAbs < 18446744073709551616 ∨ j.natAbs < 18446744073709551616 then some (PyData.int (i * j)) else none) = _
  rw [if_pos (.inr h)]
theorem bin_mulD {i j : Int} (h : i.natAbs < 18446744073709551616) : binD .mul (.int i) (.int j) = some (.int (i * j)) := by
  show (if i.natAbs < 18446744073709551616 ∨ j.natAbs < 18446744073709551616 then some (PyData.int (i * j)) else none) = _
  rw [if_pos (.inl h)]
@[simp] theorem get_s1 {i : Nat} {ρ : Rho} : OV.get ρ (.s i) = (obj1 ρ[i]?).bind OB.rd := rfl
theorem run_pick {o : OB} (ho : Spr o) {m : Int} (h1 : 1 ≤ m) (h2 : m < 1000000000) : ∃ o' d, run Pt (gvOf Ct) wf (n + 1) 15 [.b o, .d (.int m)] = some (.ret (.int d), [.b o', .d (.int m)]) ∧ Spr o' ∧ 0 ≤ d ∧ d < m := by
  obtain ⟨a, b, rfl, ha, hb⟩ := ho
  have m0 : m ≠ 0 := by omega
  have m1 : m.natAbs < 1073741824 := by omega
  have q : (999999999989 : Int) ≠ 0 := by decide
  by_cases hz : 0 < a
  · refine ⟨.lst [.int (a.fdiv m), .int b], a.fmod m, ?_, ⟨_, _, rfl, Int.fdiv_nonneg ha (by omega), hb⟩, Int.fmod_nonneg ha (by omega), Int.fmod_lt_of_pos a (by omega)⟩
    rw [run_of P__law_pick rfl]
    simp [d__law_pick, hz, bin_mod m0, bin_fdiv m0 m1, setR]
  · have hb' : 0 ≤ (b * 393555900739 + 8191).fmod 999999999989 := Int.fmod_nonneg (by omega) (by decide)
    refine ⟨.lst [.int a, .int ((b * 393555900739 + 8191).fmod 999999999989)], (((b * 393555900739 + 8191).fmod 999999999989).fdiv 4093).fmod m, ?_, ⟨_, _, rfl, ha, hb'⟩, Int.fmod_nonneg (Int.fdiv_nonneg hb' (by decide)) (by omega), Int.fmod_lt_of_pos _ (by omega)⟩
    rw [run_of P__law_pick rfl]
    simp [d__law_pick, hz, bin_mod m0, bin_mod q, bin_fdiv (show (4093 : Int) ≠ 0 by decide) (by decide), setR, bin_mulC (show (393555900739 : Int).natAbs < 18446744073709551616 by decide)]
theorem bin_pow18 : binD .pow (.int 10) (.int 18) = some (.int 1000000000000000000) := by
  show (if 0 ≤ (18 : Int) ∧ (18 : Int) ≤ 1000000 ∧ (10 : Int).natAbs < 18446744073709551616 then some (PyData.int (10 ^ (18 : Int).toNat)) else none) = _
  rw [if_pos (by decide)]
  have : (10 : Int) ^ (18 : Int).toNat = 1000000000000000000 := by decide +kernel
  rw [this]
@[simp] theorem lim5 : (5 ≤ lim) = True := eq_true (by decide)
@[simp] theorem lim6 : (6 ≤ lim) = True := eq_true (by decide)
@[simp] theorem lim7 : (7 ≤ lim) = True := eq_true (by decide)
@[simp] theorem lim8 : (8 ≤ lim) = True := eq_true (by decide)
@[simp] theorem lim19 : (19 ≤ lim) = True := eq_true (by decide)
theorem run_spring {ns : List Int} {at_ : Nat} : ∃ a b : Int, run Pt (gvOf Ct) wf (n + 1) 14 [.d (.list (ns.map .int)), .d (.int at_)] = some (.ret (.list [.int a, .int b]), [.d (.list (ns.map .int)), .d (.int at_)]) ∧ 0 ≤ a ∧ 0 ≤ b := by
  have q : (999999999989 : Int) ≠ 0 := by decide
  have key : ∀ cell : Int, 0 ≤ cell → 0 ≤ (cell * 863 + 524287 * (at_ : Int) + 1).fmod 999999999989 ∧ 0 ≤ (if 1000000000000000000 ≤ cell then cell else 0) := fun cell h => ⟨Int.fmod_nonneg (by omega) (by decide), by split <;> omega⟩
  by_cases h : (at_ : Int) < ns.length
  · have h0 : at_ < ns.length := by omega
    have e1 : atI (ns.map PyData.int) (at_ : Int) = some (.int ns[at_]) := by
      rw [atI_ofNat, List.getElem?_map, List.getElem?_eq_getElem h0]
      rfl
    obtain ⟨k1, k2⟩ := key (if ns[at_] < 0 then -ns[at_] else ns[at_]) (by split <;> omega)
    refine ⟨_, _, ?_, k2, k1⟩
    rw [run_of P__law_spring rfl]
    simp [d__law_spring, setR, h0, e1, bin_mod q, bin_mulC (show (863 : Int).natAbs < 18446744073709551616 by decide), bin_mulD (show (524287 : Int).natAbs < 18446744073709551616 by decide), bin_pow18]
  · have h0 : ¬ at_ < ns.length := by omega
    obtain ⟨k1, k2⟩ := key 7 (by decide)
    refine ⟨_, _, ?_, k2, k1⟩
    rw [run_of P__law_spring rfl]
    simp [d__law_spring, setR, h0, bin_mod q, bin_mulC (show (863 : Int).natAbs < 18446744073709551616 by decide), bin_mulD (show (524287 : Int).natAbs < 18446744073709551616 by decide), bin_pow18]
theorem run_lspan {o : OB} (ho : Spr o) {m : Int} (h1 : 1 ≤ m) (h2 : m ≤ 3) : ∃ o' x y, run Pt (gvOf Ct) wf (n + 2) 19 [.b o, .d (.int m)] = some (.ret (.tuple [.int x, .int y]), [.b o', .d (.int m)]) ∧ Spr o' ∧ 1 ≤ x ∧ x ≤ m ∧ x ≤ y ∧ y ≤ 4 ∧ y ≤ x + 1 := by
  obtain ⟨o1, d1, e1, s1, d1a, d1b⟩ := run_pick (wf := wf) (n := n) ho h1 (by omega)
  obtain ⟨o2, d2, e2, s2, d2a, d2b⟩ := run_pick (wf := wf) (n := n) s1 (m := 2) (by decide) (by decide)
  refine ⟨o2, 1 + d1, if 1 + d1 + d2 < 4 then 1 + d1 + d2 else 4, ?_, s2, by omega, by omega, by split <;> omega, by split <;> omega, by split <;> omega⟩
  rw [run_of P__law_span rfl]
  simp [d__law_span, setR, e1, e2]
theorem pick5 {ρ : Rho} {d : Int} (h0 : 0 ≤ d) (h5 : d < 5) : ∃ k, atI [PyData.int 0, .int 0, .int 1, .int 1, .int 2] d = some (.int k) ∧ 0 ≤ k ∧ k ≤ 2 := by
  have : d = 0 ∨ d = 1 ∨ d = 2 ∨ d = 3 ∨ d = 4 := by omega
  rcases this with e | e | e | e | e <;> subst e
  · exact ⟨0, rfl, by decide, by decide⟩
  · exact ⟨0, rfl, by decide, by decide⟩
  · exact ⟨1, rfl, by decide, by decide⟩
  · exact ⟨1, rfl, by decide, by decide⟩
  · exact ⟨2, rfl, by decide, by decide⟩
theorem run_lsender {o : OB} (ho : Spr o) : ∃ o' s, run Pt (gvOf Ct) wf (n + 3) 20 [.b o] = some (.ret (eSnd s), [.b o']) ∧ Spr o' ∧ OkSnd s := by
  obtain ⟨o1, x, y, e1, s1, x1, x2, x3, x4, x5⟩ := run_lspan (wf := wf) (n := n) ho (m := 3) (by decide) (by decide)
  obtain ⟨o2, z, w, e2, s2, z1, z2, z3, z4, z5⟩ := run_lspan (wf := wf) (n := n) s1 (m := 2) (by decide) (by decide)
  obtain ⟨o3, d3, e3, s3, d3a, d3b⟩ := run_pick (wf := wf) (n := n + 1) s2 (m := 5) (by decide) (by decide)
  obtain ⟨k, e4, k1, k2⟩ := pick5 (ρ := []) d3a d3b
  obtain ⟨o5, d5, e5, s5, d5a, d5b⟩ := run_pick (wf := wf) (n := n + 1) s3 (m := x) (by omega) (by omega)
  refine ⟨o5, ⟨x, y, z, w, 1 + k, 1 + d5⟩, ?_, s5, ⟨x1, x3, x4, z1, z3, z4, by show 1 ≤ 1 + k; omega, by show 1 + k ≤ 3; omega, by show 1 ≤ 1 + d5; omega, by show 1 + d5 ≤ x; omega⟩⟩
  rw [run_of P__law_sender rfl]
  simp [d__law_sender, e1, e2, e3, e4, e5, eSnd]
end Er

set_option Elab.async false
set_option linter.all false
set_option maxRecDepth 100000
set_option maxHeartbeats 0
/-! S10: drawn receivers and plans. -/
namespace Er
open PySem L2
variable {wf n : Nat}
theorem small_ok {i : Int} (h0 : -1000000 ≤ i) (h1 : i ≤ 1000000) : small62 i = true := by
  unfold small62
  rw [Bool.and_eq_true, decide_eq_true_eq, decide_eq_true_eq]
  omega
theorem rangeL_len {a b : Int} : (rangeL a b).length = (b - a).toNat := by simp [rangeL]
theorem rangeL_get {a b : Int} {i : Nat} {x : PD} (h : (rangeL a b)[i]? = some x) : x = .int (a + i) ∧ i < (b - a).toNat := by
  unfold rangeL at h
  rw [List.getElem?_map, Option.map_eq_some_iff] at h
  obtain ⟨j, hj, rfl⟩ := h
  obtain ⟨h1, h2⟩ := List.getElem?_eq_some_iff.mp hj
  rw [List.getElem_range] at h2
  subst h2
  exact ⟨rfl, by simpa using h1⟩
theorem cm_lrcv {o : OB} (ho : Spr o) {c k mo : Int} (c1 : 1 ≤ c) (c2 : c ≤ 3) (k1 : 1 ≤ k) (k2 : k ≤ 4) : ∃ (o' : OB) (rs : List (Int × Int)), ev (run Pt (gvOf Ct) wf (n + 1)) (mtOf Pt) (gvOf Ct) cm__law_receiver_0 [.b o, .d (.int c), .d (.int mo), .d (.int k), .un, .un, .un, .un] =
    .ok (.d (.list (rs.map eRow))) [.b o', .d (.int c), .d (.int mo), .d (.int k), .un, .un, .un, .un] ∧ Spr o' ∧ (rs.length : Int) = k ∧ ∀ x ∈ rs, 0 ≤ x.1 ∧ x.1 < c ∧ 1 ≤ x.2 ∧ x.2 ≤ 2 := by
  have hlim := lim_ge
  obtain ⟨ρ1, ys, h1, h2, o', rs, rfl, s', rfl, h3, h4⟩ := comp_run (cl := run Pt (gvOf Ct) wf (n + 1)) (mt := mtOf Pt) (gv := gvOf Ct) (e := .tup (.cons (.call 15 (.cons (.s 0) (.cons (.v 1) .nil))) (.cons (.bin .add (.c (.int 1)) (.call 15 (.cons (.s 0) (.cons (.c (.int 2)) .nil)))) .nil)))
    (t := .n 7) (it := .range1 (.v 3)) (own := [7]) (ρ := [.b o, .d (.int c), .d (.int mo), .d (.int k), .un, .un, .un, .un]) (ρ0 := [.b o, .d (.int c), .d (.int mo), .d (.int k), .un, .un, .un, .un]) (xs := rangeL 0 k)
    (fun i ρ ys => ∃ (o : OB) (rs : List (Int × Int)), ρ = [.b o, .d (.int c), .d (.int mo), .d (.int k), .un, .un, .un, .un] ∧ Spr o ∧ ys = rs.map eRow ∧ rs.length = i ∧ ∀ x ∈ rs, 0 ≤ x.1 ∧ x.1 < c ∧ 1 ≤ x.2 ∧ x.2 ≤ 2)
    (by simp [small_ok (i := k) (by omega) (by omega)]) (by rw [rangeL_len]; omega) ⟨o, [], rfl, ho, rfl, rfl, fun x h => by simp at h⟩ (fun i ρ ys ⟨_, _, e, _⟩ => by subst e; rfl)
    (fun i x ρ ys hx ⟨o, rs, e1, s1, e2, e3, e4⟩ => by
      subst e1 e2
      obtain ⟨rfl, _⟩ := rangeL_get hx
      obtain ⟨o2, d2, p2, s2, d2a, d2b⟩ := run_pick (wf := wf) (n := n) s1 (m := c) c1 (by omega)
      obtain ⟨o3, d3, p3, s3, d3a, d3b⟩ := run_pick (wf := wf) (n := n) s2 (m := 2) (by decide) (by decide)
      refine ⟨[.b o, .d (.int c), .d (.int mo), .d (.int k), .un, .un, .un, .d (.int (0 + i))], eRow (d2, 1 + d3), [.b o3, .d (.int c), .d (.int mo), .d (.int k), .un, .un, .un, .d (.int (0 + i))], by simp, by simp [p2, p3, eRow], o3, rs ++ [(d2, 1 + d3)], rfl, s3, by simp, by simp [e3], fun y hy => ?_⟩
      rcases List.mem_append.mp hy with hy | hy
      · exact e4 y hy
      · have : y = (d2, 1 + d3) := by simpa using hy
        subst this
        exact ⟨d2a, d2b, by show 1 ≤ 1 + d3; omega, by show 1 + d3 ≤ 2; omega⟩)
  refine ⟨o', rs, h1, s', ?_, h4⟩
  rw [h3, rangeL_len]
  omega
theorem hang5 {d : Int} (h0 : 0 ≤ d) (h5 : d < 5) : ∃ h, atI [PyData.none, .int 0, .int 0, .int 1, .int 2] d = some (eO h) ∧ ∀ i, h = some i → 0 ≤ i ∧ i ≤ 2 := by
  have : d = 0 ∨ d = 1 ∨ d = 2 ∨ d = 3 ∨ d = 4 := by omega
  rcases this with e | e | e | e | e <;> subst e
  · exact ⟨none, rfl, fun i h => by cases h⟩
  · exact ⟨some 0, rfl, fun i h => by cases h; decide⟩
  · exact ⟨some 0, rfl, fun i h => by cases h; decide⟩
  · exact ⟨some 1, rfl, fun i h => by cases h; decide⟩
  · exact ⟨some 2, rfl, fun i h => by cases h; decide⟩
theorem run_lrcvG {o : OB} (ho : Spr o) {c mo : Int} (c1 : 1 ≤ c) (c2 : c ≤ 3) (m1 : 1 ≤ mo) (m2 : mo ≤ 4) : ∃ o' r, run Pt (gvOf Ct) wf (n + 2) 18 [.b o, .d (.int c), .d (.int mo)] = some (.ret (eRcv r), [.b o', .d (.int c), .d (.int mo)]) ∧ Spr o' ∧ OkRcv r ∧ (r.rows.length : Int) ≤ mo ∧ ∀ x ∈ r.rows, x.1 < c ∧ x.2 ≤ 2 := by
  obtain ⟨o1, d1, p1, s1, d1a, d1b⟩ := run_pick (wf := wf) (n := n) ho (m := mo) m1 (by omega)
  obtain ⟨o2, rs, p2, s2, l2, h2⟩ := cm_lrcv (wf := wf) (n := n) s1 (mo := mo) (c := c) (k := 1 + d1) c1 c2 (by omega) (by omega)
  obtain ⟨o3, d3, p3, s3, d3a, d3b⟩ := run_pick (wf := wf) (n := n) s2 (m := 5) (by decide) (by decide)
  obtain ⟨h, p4, h4⟩ := hang5 d3a d3b
  have okr : ∀ b : Option Int, (h = none → b = none) → (∀ j, b = some j → 0 ≤ j ∧ j ≤ rs.length - 1) → OkRcv ⟨rs, h, b⟩ := fun b b1 b2 =>
    ⟨by show 1 ≤ rs.length; omega, by show rs.length ≤ 4; omega, fun x hx => by have := h2 x hx; have := (h2 x hx).2.1; exact ⟨(h2 x hx).1, by omega, (h2 x hx).2.2.1, by have := (h2 x hx).2.2.2; omega⟩, b1, h4, b2⟩
  have hx : ∀ x ∈ rs, x.1 < c ∧ x.2 ≤ 2 := fun x hx => ⟨(h2 x hx).2.1, (h2 x hx).2.2.2⟩
  rw [run_of P__law_receiver rfl]
  cases h with
  | none =>
    refine ⟨o3, ⟨rs, none, none⟩, ?_, s3, okr none (fun _ => rfl) (fun j e => by cases e), by show (rs.length : Int) ≤ mo; omega, hx⟩
    simp [d__law_receiver, setR, p1, p2, p3, p4, eRcv]
  | some i =>
    obtain ⟨o5, d5, p5, s5, d5a, d5b⟩ := run_pick (wf := wf) (n := n) s3 (m := 2) (by decide) (by decide)
    by_cases z : d5 = 0
    · refine ⟨o5, ⟨rs, some i, none⟩, ?_, s5, okr none (fun _ => rfl) (fun j e => by cases e), by show (rs.length : Int) ≤ mo; omega, hx⟩
      simp [d__law_receiver, setR, p1, p2, p3, p4, p5, eRcv, z]
    · obtain ⟨o6, d6, p6, s6, d6a, d6b⟩ := run_pick (wf := wf) (n := n) s5 (m := 1 + d1) (by omega) (by omega)
      refine ⟨o6, ⟨rs, some i, some d6⟩, ?_, s6, okr (some d6) (fun e => by cases e) (fun j e => by cases e; omega), by show (rs.length : Int) ≤ mo; omega, hx⟩
      simp [d__law_receiver, setR, p1, p2, p3, p4, p5, p6, eRcv, z]
theorem run_lrcv {o : OB} (ho : Spr o) {c : Int} (c1 : 1 ≤ c) (c2 : c ≤ 3) : ∃ o' r, run Pt (gvOf Ct) wf (n + 2) 18 [.b o, .d (.int c), .d (.int 3)] = some (.ret (eRcv r), [.b o', .d (.int c), .d (.int 3)]) ∧ Spr o' ∧ OkRcv r ∧ r.rows.length ≤ 3 ∧ ∀ x ∈ r.rows, x.1 < c ∧ x.2 ≤ 2 := by
  obtain ⟨o', r, h1, h2, h3, h4, h5⟩ := run_lrcvG (wf := wf) (n := n) ho (mo := 3) c1 c2 (by decide) (by decide)
  exact ⟨o', r, h1, h2, h3, by omega, h5⟩
end Er

set_option Elab.async false
set_option linter.all false
set_option maxRecDepth 100000
set_option maxHeartbeats 0
/-! S11: drawn plans are plans. -/
namespace Er
open PySem L2
variable {wf n : Nat}
theorem bin_addT {x y : List PD} (h : x.length + y.length ≤ 1000) : binD .add (.tuple x) (.tuple y) = some (.tuple (x ++ y)) := by
  have := lim_ge
  show (if x.length + y.length ≤ lim then some (PyData.tuple (x ++ y)) else none) = _
  rw [if_pos (by omega)]
theorem bin_addL {x y : List PD} (h : x.length + y.length ≤ 1000) : binD .add (.list x) (.list y) = some (.list (x ++ y)) := by
  have := lim_ge
  show (if x.length + y.length ≤ lim then some (PyData.list (x ++ y)) else none) = _
  rw [if_pos (by omega)]
theorem cm_lplan {o : OB} (ho : Spr o) {c b k : Int} (k1 : 0 ≤ k) (k2 : k ≤ 3) : ∃ (o' : OB) (ss : List Snd), ev (run Pt (gvOf Ct) wf (n + 3)) (mtOf Pt) (gvOf Ct) cm__law_plan_0 [.b o, .d (.int c), .d (.int b), .d (.int k), .un, .un, .un] =
    .ok (.d (.list (ss.map eSnd))) [.b o', .d (.int c), .d (.int b), .d (.int k), .un, .un, .un] ∧ Spr o' ∧ (ss.length : Int) = k ∧ ∀ x ∈ ss, OkSnd x := by
  have hlim := lim_ge
  obtain ⟨ρ1, ys, h1, h2, o', rs, rfl, s', rfl, h3, h4⟩ := comp_run (cl := run Pt (gvOf Ct) wf (n + 3)) (mt := mtOf Pt) (gv := gvOf Ct) (e := .call 20 (.cons (.s 0) .nil))
    (t := .n 6) (it := .range1 (.v 3)) (own := [6]) (ρ := [.b o, .d (.int c), .d (.int b), .d (.int k), .un, .un, .un]) (ρ0 := [.b o, .d (.int c), .d (.int b), .d (.int k), .un, .un, .un]) (xs := rangeL 0 k)
    (fun i ρ ys => ∃ (o : OB) (rs : List Snd), ρ = [.b o, .d (.int c), .d (.int b), .d (.int k), .un, .un, .un] ∧ Spr o ∧ ys = rs.map eSnd ∧ rs.length = i ∧ ∀ x ∈ rs, OkSnd x)
    (by simp [small_ok (i := k) (by omega) (by omega)]) (by rw [rangeL_len]; omega) ⟨o, [], rfl, ho, rfl, rfl, fun x h => by simp at h⟩ (fun i ρ ys ⟨_, _, e, _⟩ => by subst e; rfl)
    (fun i x ρ ys hx ⟨o, rs, e1, s1, e2, e3, e4⟩ => by
      subst e1 e2
      obtain ⟨rfl, _⟩ := rangeL_get hx
      obtain ⟨o2, s, p2, s2, oks⟩ := run_lsender (wf := wf) (n := n) s1
      refine ⟨[.b o, .d (.int c), .d (.int b), .d (.int k), .un, .un, .d (.int (0 + i))], eSnd s, [.b o2, .d (.int c), .d (.int b), .d (.int k), .un, .un, .d (.int (0 + i))], by simp, by simp [p2], o2, rs ++ [s], rfl, s2, by simp, by simp [e3], fun y hy => ?_⟩
      rcases List.mem_append.mp hy with hy | hy
      · exact e4 y hy
      · have : y = s := by simpa using hy
        subst this
        exact oks)
  refine ⟨o', rs, h1, s', ?_, h4⟩
  rw [h3, rangeL_len]
  omega
def sA : Snd := ⟨2, 2, 1, 1, 1, 1⟩
def sB : Snd := ⟨1, 2, 1, 1, 2, 1⟩
theorem ok_sA : OkSnd sA := ⟨by decide, by decide, by decide, by decide, by decide, by decide, by decide, by decide, by decide, by decide⟩
theorem ok_sB : OkSnd sB := ⟨by decide, by decide, by decide, by decide, by decide, by decide, by decide, by decide, by decide, by decide⟩
theorem sum_le {k : Int} : ∀ {l : List Int}, (∀ x ∈ l, x ≤ k) → l.sum ≤ l.length * k
  | [], _ => by simp
  | x :: l, h => by
    have h1 := h x (by simp)
    have h2 := sum_le (l := l) fun y hy => h y (by simp [hy])
    rw [List.sum_cons, List.length_cons, Int.natCast_add, Int.add_mul]
    simp
    omega
theorem base_le {r : Rcv} (ok : OkRcv r) (h3 : r.rows.length ≤ 3) (h2 : ∀ x ∈ r.rows, x.2 ≤ 2) : base r ≤ 15 := by
  have hc : hangC r.hang ≤ 3 := by
    cases e : r.hang with
    | none => simp [hangC]
    | some h =>
      have := ok.hg h e
      simp [hangC]
      omega
  have := sum_le (k := 5) (l := r.rows.map fun x => x.2 + hangC r.hang) fun y hy => by
    obtain ⟨x, hx, rfl⟩ := List.mem_map.mp hy
    have := h2 x hx
    omega
  rw [base_eq]
  rw [List.length_map] at this
  omega
theorem size_2 (r : Rcv) : sizeP r [sB, sA] = base r * 10 * 5 := rfl
theorem size_3 (r : Rcv) : sizeP r [sB, sA, sA] = base r * 10 * 5 * 5 := rfl
theorem run_lplan {o : OB} (ho : Spr o) {c b : Int} (hc : c = 2 ∨ c = 3) (hb : b ≤ 6000) : ∃ o' r ss, run Pt (gvOf Ct) wf (n + 4) 22 [.b o, .d (.int c), .d (.int b)] = some (.ret (ePl r ss), [.b o', .d (.int c), .d (.int b)]) ∧ Spr o' ∧ OkPl r ss := by
  -- how many
  obtain ⟨o1, m, hm, e1, s1⟩ : ∃ o1 m, (m = 2 ∨ m = 3) ∧ ev (run Pt (gvOf Ct) wf (n + 3)) (mtOf Pt) (gvOf Ct) (.ite (.or (.cmp .eq (.v 1) (.c (.int 2))) (.cmp .eq (.call 15 (.cons (.s 0) (.cons (.c (.int 2)) .nil))) (.c (.int 0)))) (.v 1) (.c (.int 2))) [.b o, .d (.int c), .d (.int b), .un, .un, .un, .un] = .ok (.d (.int m)) [.b o1, .d (.int c), .d (.int b), .un, .un, .un, .un] ∧ Spr o1 := by
    rcases hc with rfl | rfl
    · exact ⟨o, 2, .inl rfl, by simp, ho⟩
    · obtain ⟨o1, d1, p1, s1, d1a, d1b⟩ := run_pick (wf := wf) (n := n + 2) ho (m := 2) (by decide) (by decide)
      by_cases z : d1 = 0
      · exact ⟨o1, 3, .inr rfl, by simp [p1, z], s1⟩
      · exact ⟨o1, 2, .inl rfl, by simp [p1, z], s1⟩
  obtain ⟨o2, ss, e2, s2, l2, h2⟩ := cm_lplan (wf := wf) (n := n) s1 (c := c) (b := b) (k := m) (by omega) (by omega)
  obtain ⟨o3, r, e3, s3, okr, r3, hr⟩ := run_lrcv (wf := wf) (n := n + 1) s2 (c := m) (by omega) (by omega)
  have z1 := run_law_size (wf := wf) (n := n + 2) okr h2 (by omega)
  have cut : ∀ T : List Snd, (T.length : Int) = m → (∀ s ∈ T, OkSnd s) → sizeP r T ≤ 6000 → OkPl r T := fun T t1 t2 t3 => ⟨okr, t2, by omega, by omega, fun x hx => by have := (hr x hx).1; omega, t3⟩
  by_cases c1 : sizeP r ss ≤ b
  · refine ⟨o3, r, ss, ?_, s3, cut ss l2 h2 (by omega)⟩
    rw [run_of P__law_plan rfl]
    simp only [ePl] at z1 ⊢
    have c1' : ¬ b < sizeP r ss := by omega
    simp [-ev_ite, d__law_plan, setR, e1, e2, e3, z1, c1']
  · have c1' : b < sizeP r ss := by omega
    have eA : eSnd sA = .tuple [.tuple [.int 2, .int 2], .tuple [.int 1, .int 1], .int 1, .int 1] := rfl
    have eB : eSnd sB = .tuple [.tuple [.int 1, .int 2], .tuple [.int 1, .int 1], .int 2, .int 1] := rfl
    have b0 := base_le okr r3 (fun x hx => (hr x hx).2)
    rcases hm with rfl | rfl
    · obtain ⟨s0, t0, rfl⟩ : ∃ s0 t0, ss = [s0, t0] := by
        rcases ss with _ | ⟨s0, _ | ⟨t0, _ | ⟨u0, ss⟩⟩⟩
        · simp at l2
        · simp at l2
        · exact ⟨s0, t0, rfl⟩
        · simp at l2
      have m1 : binD .mul (.tuple [.tuple [.tuple [.int 2, .int 2], .tuple [.int 1, .int 1], .int 1, .int 1]]) (.int 1) = some (.tuple [.tuple [.tuple [.int 2, .int 2], .tuple [.int 1, .int 1], .int 1, .int 1]]) := mul_one_tup (k := 1) (by decide)
      have ok1 : ∀ s ∈ [s0, sA], OkSnd s := fun s hs => by
        rcases List.mem_cons.mp hs with e | hs
        · rw [e]; exact h2 s0 (by simp)
        · have : s = sA := by simpa using hs
          rw [this]; exact ok_sA
      have z2 := run_law_size (wf := wf) (n := n + 2) (ss := [s0, sA]) okr ok1 (by simp)
      have a1 : binD .add (.tuple [eSnd s0]) (.tuple [.tuple [.tuple [.int 2, .int 2], .tuple [.int 1, .int 1], .int 1, .int 1]]) = some (.tuple [eSnd s0, .tuple [.tuple [.int 2, .int 2], .tuple [.int 1, .int 1], .int 1, .int 1]]) := bin_addT (by simp)
      have a2 : binD .add (.tuple [.tuple [.tuple [.int 1, .int 2], .tuple [.int 1, .int 1], .int 2, .int 1]]) (.tuple [.tuple [.tuple [.int 2, .int 2], .tuple [.int 1, .int 1], .int 1, .int 1]]) = some (.tuple [.tuple [.tuple [.int 1, .int 2], .tuple [.int 1, .int 1], .int 2, .int 1], .tuple [.tuple [.int 2, .int 2], .tuple [.int 1, .int 1], .int 1, .int 1]]) := bin_addT (by simp)
      by_cases c2 : sizeP r [s0, sA] ≤ b
      · refine ⟨o3, r, [s0, sA], ?_, s3, cut _ rfl ok1 (by omega)⟩
        rw [run_of P__law_plan rfl]
        simp only [ePl, List.map_cons, List.map_nil, eA] at z1 z2 e2 ⊢
        have c2' : ¬ b < sizeP r [s0, sA] := by omega
        simp [-ev_ite, d__law_plan, setR, e1, e2, e3, z1, c1', m1, a1, z2, c2']
      · refine ⟨o3, r, [sB, sA], ?_, s3, cut _ rfl (fun s hs => ?_) (by rw [size_2]; omega)⟩
        · rw [run_of P__law_plan rfl]
          simp only [ePl, List.map_cons, List.map_nil, eA, eB] at z1 z2 e2 ⊢
          have c2' : b < sizeP r [s0, sA] := by omega
          simp [-ev_ite, d__law_plan, setR, e1, e2, e3, z1, c1', m1, a1, z2, c2', a2]
        · have : s = sB ∨ s = sA := by simpa using hs
          rcases this with e | e
          · rw [e]; exact ok_sB
          · rw [e]; exact ok_sA
    · obtain ⟨s0, t0, u0, rfl⟩ : ∃ s0 t0 u0, ss = [s0, t0, u0] := by
        rcases ss with _ | ⟨s0, _ | ⟨t0, _ | ⟨u0, _ | ⟨v0, ss⟩⟩⟩⟩
        · simp at l2
        · simp at l2
        · simp at l2
        · exact ⟨s0, t0, u0, rfl⟩
        · simp at l2
      have m1 : binD .mul (.tuple [.tuple [.tuple [.int 2, .int 2], .tuple [.int 1, .int 1], .int 1, .int 1]]) (.int 2) = some (.tuple [.tuple [.tuple [.int 2, .int 2], .tuple [.int 1, .int 1], .int 1, .int 1], .tuple [.tuple [.int 2, .int 2], .tuple [.int 1, .int 1], .int 1, .int 1]]) := mul_one_tup (k := 2) (by decide)
      have ok1 : ∀ s ∈ [s0, sA, sA], OkSnd s := fun s hs => by
        rcases List.mem_cons.mp hs with e | hs
        · rw [e]; exact h2 s0 (by simp)
        · have : s = sA := by simpa using hs
          rw [this]; exact ok_sA
      have z2 := run_law_size (wf := wf) (n := n + 2) (ss := [s0, sA, sA]) okr ok1 (by simp)
      have a1 : binD .add (.tuple [eSnd s0]) (.tuple [.tuple [.tuple [.int 2, .int 2], .tuple [.int 1, .int 1], .int 1, .int 1], .tuple [.tuple [.int 2, .int 2], .tuple [.int 1, .int 1], .int 1, .int 1]]) = some (.tuple [eSnd s0, .tuple [.tuple [.int 2, .int 2], .tuple [.int 1, .int 1], .int 1, .int 1], .tuple [.tuple [.int 2, .int 2], .tuple [.int 1, .int 1], .int 1, .int 1]]) := bin_addT (by simp)
      have a2 : binD .add (.tuple [.tuple [.tuple [.int 1, .int 2], .tuple [.int 1, .int 1], .int 2, .int 1]]) (.tuple [.tuple [.tuple [.int 2, .int 2], .tuple [.int 1, .int 1], .int 1, .int 1], .tuple [.tuple [.int 2, .int 2], .tuple [.int 1, .int 1], .int 1, .int 1]]) = some (.tuple [.tuple [.tuple [.int 1, .int 2], .tuple [.int 1, .int 1], .int 2, .int 1], .tuple [.tuple [.int 2, .int 2], .tuple [.int 1, .int 1], .int 1, .int 1], .tuple [.tuple [.int 2, .int 2], .tuple [.int 1, .int 1], .int 1, .int 1]]) := bin_addT (by simp)
      by_cases c2 : sizeP r [s0, sA, sA] ≤ b
      · refine ⟨o3, r, [s0, sA, sA], ?_, s3, cut _ rfl ok1 (by omega)⟩
        rw [run_of P__law_plan rfl]
        simp only [ePl, List.map_cons, List.map_nil, eA] at z1 z2 e2 ⊢
        have c2' : ¬ b < sizeP r [s0, sA, sA] := by omega
        simp [-ev_ite, d__law_plan, setR, e1, e2, e3, z1, c1', m1, a1, z2, c2']
      · refine ⟨o3, r, [sB, sA, sA], ?_, s3, cut _ rfl (fun s hs => ?_) (by rw [size_3]; omega)⟩
        · rw [run_of P__law_plan rfl]
          simp only [ePl, List.map_cons, List.map_nil, eA, eB] at z1 z2 e2 ⊢
          have c2' : b < sizeP r [s0, sA, sA] := by omega
          simp [-ev_ite, d__law_plan, setR, e1, e2, e3, z1, c1', m1, a1, z2, c2', a2]
        · have : s = sB ∨ s = sA := by simpa using hs
          rcases this with e | e
          · rw [e]; exact ok_sB
          · rw [e]; exact ok_sA
end Er

set_option Elab.async false
set_option linter.all false
set_option maxRecDepth 100000
set_option maxHeartbeats 0
/-! S12: ears, ticks, choices, as the law reckons them. -/
namespace Er
open PySem L2
variable {wf n : Nat}
structure Ear where
  (row passed silent : Int)
def eEar (e : Ear) : PD := .tuple [.int e.row, .int e.passed, .int e.silent]
def rowT (r : Rcv) (i : Int) : Int := (r.rows.getD i.toNat (0, 0)).2
def rowC (r : Rcv) (i : Int) : Int := (r.rows.getD i.toNat (0, 0)).1
def earP (r : Rcv) (e : Ear) (heard : Bool) : Ear :=
  let nx (l : Int) : Ear := ⟨if l < r.rows.length then l else 0, 0, -1⟩
  match r.hang with
  | none => if e.passed + 1 = rowT r e.row then nx (e.row + 1) else ⟨e.row, e.passed + 1, e.silent⟩
  | some h => if heard = true then ⟨e.row, e.passed, 0⟩
    else if e.silent = -1 then (if e.passed + 1 = rowT r e.row then nx (e.row + 1) else ⟨e.row, e.passed + 1, e.silent⟩)
    else if h < e.silent + 1 then nx (match r.back with
      | none => e.row + 1
      | some b => b) else ⟨e.row, e.passed, e.silent + 1⟩
def OkEar (r : Rcv) (e : Ear) : Prop := 0 ≤ e.row ∧ e.row ≤ r.rows.length - 1
@[simp] theorem ifB_tup {b : Bool} {x y : List PD} {ρ : Rho} : ifB (some b) (.ok (OV.d (.tuple x)) ρ) (.ok (OV.d (.tuple y)) ρ) = .ok (OV.d (if b = true then .tuple x else .tuple y)) ρ := by cases b <;> rfl
theorem run_law_ear {r : Rcv} (ok : OkRcv r) {e : Ear} (oe : OkEar r e) (heard : Bool) : run Pt (gvOf Ct) wf (n + 1) 26 [.d (eRcv r), .d (eEar e), .d (.bool heard)] = some (.ret (eEar (earP r e heard)), [.d (eRcv r), .d (eEar e), .d (.bool heard)]) := by
  rw [run_of P__law_ear rfl]
  have e1 : atI (r.rows.map eRow) e.row = some (.tuple [.int (rowC r e.row), .int (rowT r e.row)]) := row_at oe.1 oe.2 ok.l1
  obtain ⟨rows, hang, back⟩ := r
  obtain ⟨row, passed, silent⟩ := e
  simp only at e1
  cases hang with
  | none =>
    by_cases z : passed + 1 = rowT ⟨rows, none, back⟩ row
    · simp [d__law_ear, eRcv, eEar, setR, e1, earP, z]
    · simp [d__law_ear, eRcv, eEar, setR, e1, earP, z]
  | some h =>
    cases heard with
    | true =>
      simp [d__law_ear, eRcv, eEar, setR, e1, earP]
    | false =>
      by_cases z : silent = -1
      · subst z
        by_cases z : passed + 1 = rowT ⟨rows, some h, back⟩ row
        · simp [d__law_ear, eRcv, eEar, setR, e1, earP, z]
        · simp [d__law_ear, eRcv, eEar, setR, e1, earP, z]
      · by_cases z2 : h < silent + 1
        · cases back <;> simp [d__law_ear, eRcv, eEar, setR, e1, earP, z, z2]
        · cases back <;> simp [d__law_ear, eRcv, eEar, setR, e1, earP, z, z2]
theorem earP_ok {r : Rcv} (ok : OkRcv r) {e : Ear} (oe : OkEar r e) (heard : Bool) : OkEar r (earP r e heard) := by
  obtain ⟨h1, h2⟩ := oe
  have l1 := ok.l1
  have nx : ∀ l : Int, 0 ≤ l → OkEar r ⟨if l < r.rows.length then l else 0, 0, -1⟩ := fun l hl => by
    unfold OkEar
    dsimp only
    split <;> omega
  unfold earP
  dsimp only
  split
  · split
    · exact nx _ (by omega)
    · exact ⟨h1, h2⟩
  · rename_i h eh
    split
    · exact ⟨h1, h2⟩
    · split
      · split
        · exact nx _ (by omega)
        · exact ⟨h1, h2⟩
      · split
        · split
          · exact nx _ (by omega)
          · rename_i b eb
            exact nx _ (ok.bk b eb).1
        · exact ⟨h1, h2⟩
end Er

set_option Elab.async false
set_option linter.all false
set_option maxRecDepth 100000
set_option maxHeartbeats 0
/-! S13: one tick, as the law reckons it. -/
namespace Er
open PySem L2
variable {wf n : Nat}
inductive Ph where
  | idle | call | pause
  deriving DecidableEq
def nm : Ph → Str
  | .idle => "idle"
  | .call => "call"
  | .pause => "pause"
structure Prt where
  ph : Ph
  (told passed got : Int)
instance : Inhabited Prt := ⟨⟨.idle, 0, 0, 0⟩⟩
instance : Inhabited Snd := ⟨⟨1, 1, 1, 1, 1, 1⟩⟩
def ePrt (p : Prt) : PD := .tuple [.str (nm p.ph), .int p.told, .int p.passed, .int p.got]
def highP (s : Snd) : Ph → Int
  | .idle => 99
  | .call => s.b
  | .pause => s.d
/-- got, behind this tick -/
def got1 (s : Snd) (p : Prt) (air : Bool) : Int := if (decide (p.ph = .call) && (air && decide (p.got < s.m))) = true then p.got + 1 else p.got
def pas1 (p : Prt) : Int := p.passed + (if p.ph = .idle then 0 else 1)
def goes (s : Snd) (p : Prt) (c : Bool) : Bool := !c && decide (pas1 p < highP s p.ph)
def stepP (s : Snd) (p : Prt) (c air : Bool) : Prt :=
  if goes s p c = true then ⟨p.ph, p.told, pas1 p, got1 s p air⟩
  else if p.ph ≠ .call then ⟨.call, p.told, 0, 0⟩
  else if got1 s p air < s.m ∧ p.told + 1 < s.t then ⟨.pause, p.told + 1, 0, 0⟩
  else ⟨.idle, 0, 0, 0⟩
def hearP (s : Snd) (p : Prt) (air : Bool) : Bool := (decide (p.ph = .call) && (air && decide (p.got < s.m))) && decide (got1 s p air = s.m)
def missP (s : Snd) (p : Prt) (c air : Bool) : Bool := !goes s p c && (decide (p.ph = .call) && (!(decide (got1 s p air < s.m) && decide (p.told + 1 < s.t)) && decide (got1 s p air < s.m)))
@[simp] theorem mul_bit {d : PD} {b : Bool} : binD .mul (.tuple [d]) (.int (if b = true then 1 else 0)) = some (.tuple (if b = true then [d] else [])) := by
  cases b
  · exact mul_one_tup (k := 0) (by decide)
  · exact mul_one_tup (k := 1) (by decide)
@[simp] theorem mul_1 {d : PD} : binD .mul (.tuple [d]) (.int 1) = some (.tuple [d]) := mul_one_tup (k := 1) (by decide)
@[simp] theorem mul_0 {d : PD} : binD .mul (.tuple [d]) (.int 0) = some (.tuple []) := mul_one_tup (k := 0) (by decide)
theorem nm_sh (p : Ph) : shaped (.str (nm p)) = true := by cases p <;> decide +kernel
theorem nm_call (p : Ph) : cmpD .eq (.str (nm p)) (.str "call") = some (decide (p = .call)) := by
  rw [eqS (nm_sh p) sh_call]
  cases p <;> decide +kernel
theorem nm_ncall (p : Ph) : cmpD .ne (.str (nm p)) (.str "call") = some (!decide (p = .call)) := by
  rw [neS (nm_sh p) sh_call]
  cases p <;> decide +kernel
theorem nm_nidle (p : Ph) : cmpD .ne (.str (nm p)) (.str "idle") = some (!decide (p = .idle)) := by
  rw [neS (nm_sh p) sh_idle]
  cases p <;> decide +kernel
theorem pick_nm (p : Ph) (a b c : PD) : pickD ["idle", "call", "pause"] [a, b, c] (nm p) = some (match p with
    | .idle => a
    | .call => b
    | .pause => c) := by
  cases p <;> rfl
theorem bd_tick {plan ear : PD} {pl cs hs ms fs : List PD} {ch : Int} {k : Nat} {s : Snd} {p : Prt} {c : Bool} {x9 x10 x15 x16 x17 : SV}
    (h1 : pl[k]? = some (ePrt p)) (h2 : cs[k]? = some (.bool c)) (l1 : hs.length ≤ 900) (l2 : ms.length ≤ 900) (l3 : fs.length ≤ 900)
    (s9 : stor (some x9) = true) (s10 : stor (some x10) = true) (s15 : stor (some x15) = true) (s16 : stor (some x16) = true) (s17 : stor (some x17) = true) :
    execs (run Pt (gvOf Ct) wf n) (mtOf Pt) (gvOf Ct) wf bd__law_tick_0 [.d plan, .d (.tuple [ear, .tuple pl]), .d (.tuple cs), .d (.int ch), .un, .d (.tuple hs), .d (.tuple ms), .o (.lst fs), .d (.int k), x9, x10, .d (.tuple [.int s.a, .int s.b]), .d (.tuple [.int s.c, .int s.d]), .d (.int s.t), .d (.int s.m), x15, x16, x17] =
    .ok .next [.d plan, .d (.tuple [ear, .tuple pl]), .d (.tuple cs), .d (.int ch), .un, .d (.tuple (hs ++ if hearP s p (decide ((k : Int) = ch)) = true then [.int k] else [])), .d (.tuple (ms ++ if missP s p c (decide ((k : Int) = ch)) = true then [.int k] else [])), .o (.lst (fs ++ [ePrt (stepP s p c (decide ((k : Int) = ch)))])), .d (.int k), .d (.int (highP s p.ph)), .d (.int (pas1 p)), .d (.tuple [.int s.a, .int s.b]), .d (.tuple [.int s.c, .int s.d]), .d (.int s.t), .d (.int s.m), .d (.str (nm p.ph)), .d (.int p.told), .d (.int (got1 s p (decide ((k : Int) = ch))))] := by
  have hlim := lim_ge
  have e1 : atI pl (k : Int) = some (ePrt p) := by rw [atI_ofNat]; exact h1
  have e2 : atI cs (k : Int) = some (.bool c) := by rw [atI_ofNat]; exact h2
  have e3 : fs.length < lim := by omega
  obtain ⟨ph, told, passed, got⟩ := p
  have a1 : ∀ b : Bool, binD .add (.tuple hs) (.tuple (if b = true then [.int k] else [])) = some (.tuple (hs ++ if b = true then [.int k] else [])) := fun b => bin_addT (by cases b <;> simp <;> omega)
  have a2 : ∀ b : Bool, binD .add (.tuple ms) (.tuple (if b = true then [.int k] else [])) = some (.tuple (ms ++ if b = true then [.int k] else [])) := fun b => bin_addT (by cases b <;> simp <;> omega)
  have i1 := nm_call ph
  have i2 := nm_ncall ph
  have i3 := nm_nidle ph
  have n1 : nm .call = ("call" : Str) := rfl
  have n2 : nm .pause = ("pause" : Str) := rfl
  have n3 : nm .idle = ("idle" : Str) := rfl
  cases ph with
  | idle =>
    cases c <;> by_cases hg : passed < 99 <;> simp [bd__law_tick_0, e1, ePrt, s9, s10, s15, s16, s17, setR, i1, i2, i3, pick_nm, e2, hg, e3, stepP, hearP, missP, goes, pas1, highP, got1] <;> rfl
  | pause =>
    cases c <;> by_cases hg : passed + 1 < s.d <;> simp [bd__law_tick_0, e1, ePrt, s9, s10, s15, s16, s17, setR, i1, i2, i3, pick_nm, e2, hg, e3, stepP, hearP, missP, goes, pas1, highP, got1] <;> rfl
  | call =>
    have b1 : binD .add (.tuple hs) (.tuple [.int k]) = some (.tuple (hs ++ [.int k])) := bin_addT (by simp; omega)
    have b2 : binD .add (.tuple ms) (.tuple [.int k]) = some (.tuple (ms ++ [.int k])) := bin_addT (by simp; omega)
    have b3 : binD .add (.tuple hs) (.tuple []) = some (.tuple (hs ++ [])) := bin_addT (by simp; omega)
    have b4 : binD .add (.tuple ms) (.tuple []) = some (.tuple (ms ++ [])) := bin_addT (by simp; omega)
    by_cases z1 : (k : Int) = ch
    · subst z1
      by_cases z2 : got < s.m
      · by_cases z3 : got + 1 = s.m
        · cases c <;> by_cases hg : passed + 1 < s.b <;> simp [bd__law_tick_0, e1, ePrt, s9, s10, s15, s16, s17, setR, i1, i2, i3, pick_nm, e2, hg, e3, z2, z3, stepP, hearP, missP, goes, pas1, highP, got1, b1, b2, b3, b4] <;> rfl
        · have z4 : got + 1 < s.m := by omega
          cases c <;> by_cases hg : passed + 1 < s.b <;> by_cases ht : told + 1 < s.t <;> simp [bd__law_tick_0, e1, ePrt, s9, s10, s15, s16, s17, setR, i1, i2, i3, pick_nm, e2, hg, e3, z2, z3, z4, ht, stepP, hearP, missP, goes, pas1, highP, got1, b1, b2, b3, b4] <;> rfl
      · cases c <;> by_cases hg : passed + 1 < s.b <;> simp [bd__law_tick_0, e1, ePrt, s9, s10, s15, s16, s17, setR, i1, i2, i3, pick_nm, e2, hg, e3, z2, stepP, hearP, missP, goes, pas1, highP, got1, b1, b2, b3, b4] <;> rfl
    · by_cases z2 : got < s.m
      · cases c <;> by_cases hg : passed + 1 < s.b <;> by_cases ht : told + 1 < s.t <;> simp [bd__law_tick_0, e1, ePrt, s9, s10, s15, s16, s17, setR, i1, i2, i3, pick_nm, e2, hg, e3, z1, z2, ht, stepP, hearP, missP, goes, pas1, highP, got1, b1, b2, b3, b4] <;> rfl
      · cases c <;> by_cases hg : passed + 1 < s.b <;> simp [bd__law_tick_0, e1, ePrt, s9, s10, s15, s16, s17, setR, i1, i2, i3, pick_nm, e2, hg, e3, z1, z2, stepP, hearP, missP, goes, pas1, highP, got1, b1, b2, b3, b4] <;> rfl
end Er

set_option Elab.async false
set_option linter.all false
set_option maxRecDepth 100000
set_option maxHeartbeats 0
/-! S14: a whole tick. -/
namespace Er
open PySem L2
variable {wf n : Nat}
def isI (x : PD) : Bool := match x with
  | .int _ => true
  | _ => false
theorem ints_lay : ∀ {l : List PD}, l.all isI = true → PyData.canLayAll0 l = true ∧ PyData.depthAll l = 0
  | [], _ => ⟨rfl, rfl⟩
  | x :: l, h => by
    rw [List.all_cons, Bool.and_eq_true] at h
    obtain ⟨h1, h2⟩ := ints_lay h.2
    cases x <;> first | (cases h.1; done) | exact ⟨by rw [PyData.canLayAll0, h1]; rfl, by rw [PyData.depthAll, h2]; rfl⟩
theorem sh_ints {l : List PD} (h : l.all isI = true) : shaped (.list l) = true := by
  obtain ⟨h1, h2⟩ := ints_lay h
  rw [shaped_iff]
  refine ⟨by rw [PyData.canLay0]; exact h1, ?_⟩
  rw [PyData.depth, h2]
  decide
def pA (x : PD) : Bool := match x with
  | .tuple [_, .tuple (.str st :: _)] => st == ("call" : Str)
  | _ => false
def gA (x : PD) : PD := match x with
  | .tuple [i, _] => i
  | _ => .none
def airF (i : Nat) : List Prt → Int → Bool
  | [], _ => false
  | p :: ps, ch => (decide (p.ph = .call) && decide ((i : Int) = ch)) || airF (i + 1) ps ch
theorem nm_callB (p : Ph) : (nm p == ("call" : Str)) = decide (p = .call) := by cases p <;> decide +kernel
theorem pA_e (i : Int) (p : Prt) : pA (.tuple [.int i, ePrt p]) = decide (p.ph = .call) := nm_callB p.ph
theorem air_any (ch : Int) : ∀ (ps : List Prt) (i : Nat), anyEq (.int ch) (((enumL i (ps.map ePrt)).filter pA).map gA) = airF i ps ch ∧ (((enumL i (ps.map ePrt)).filter pA).map gA).all isI = true
  | [], i => ⟨rfl, rfl⟩
  | p :: ps, i => by
    obtain ⟨h1, h2⟩ := air_any ch ps (i + 1)
    rw [List.map_cons, enumL, List.filter_cons, pA_e, airF]
    cases decide (p.ph = .call) with
    | false => exact ⟨by simpa using h1, by simpa using h2⟩
    | true =>
      rw [if_pos rfl, List.map_cons]
      refine ⟨?_, ?_⟩
      · show (PyData.eqv (.int i) (.int ch) || anyEq (.int ch) _) = _
        rw [h1]
        show (((i : Int) == ch) || airF (i + 1) ps ch) = (true && decide ((i : Int) = ch) || airF (i + 1) ps ch)
        rw [Bool.true_and]
        rfl
      · rw [List.all_cons, h2]
        rfl
theorem enumL_len : ∀ (i : Nat) (l : List PD), (enumL i l).length = l.length := fun i l => enumL_length l i
theorem enum_mem : ∀ {l : List PD} {i : Nat} {x : PD}, x ∈ enumL i l → ∃ (j : Nat) (y : PD), x = .tuple [.int j, y] ∧ y ∈ l
  | [], i, x, h => by simp [enumL] at h
  | z :: l, i, x, h => by
    rw [enumL] at h
    rcases List.mem_cons.mp h with e | h
    · exact ⟨i, z, e, by simp⟩
    · obtain ⟨j, y, e, hy⟩ := enum_mem h
      exact ⟨j, y, e, by simp [hy]⟩
theorem run_air {e : PD} {ps : List Prt} (hl : ps.length ≤ 1000) : run Pt (gvOf Ct) wf (n + 1) 24 [.d (.tuple [e, .tuple (ps.map ePrt)])] = some (.ret (.list (((enumL 0 (ps.map ePrt)).filter pA).map gA)), [.d (.tuple [e, .tuple (ps.map ePrt)])]) := by
  have hlim := lim_ge
  rw [run_of P__law_on_air rfl]
  have c0 : ev (run Pt (gvOf Ct) wf n) (mtOf Pt) (gvOf Ct) cm__law_on_air_0 [.d (.tuple [e, .tuple (ps.map ePrt)]), .un, .un] = .ok (.d (.list (((enumL 0 (ps.map ePrt)).filter pA).map gA))) [.d (.tuple [e, .tuple (ps.map ePrt)]), .un, .un] := by
    refine comp_pure (own := [1, 2]) (xs := enumL 0 (ps.map ePrt)) pA gA (by simp) (by rw [enumL_len, List.length_map]; omega) fun x hx => ?_
    obtain ⟨j, y, rfl, hy⟩ := enum_mem hx
    obtain ⟨p, _, rfl⟩ := List.mem_map.mp hy
    exact ⟨[.d (.tuple [e, .tuple (ps.map ePrt)]), .d (.int j), .d (ePrt p)], by simp, by simp, by simp [ePrt, nm_call, pA, nm_callB], by simp [gA]⟩
  simp [d__law_on_air, c0]
/-! what a tick makes -/
def stepAt (ss : List Snd) (ps : List Prt) (cs : List Bool) (ch : Int) (j : Nat) : Prt := stepP (ss.getD j default) (ps.getD j default) (cs.getD j false) (decide ((j : Int) = ch))
def hearAt (ss : List Snd) (ps : List Prt) (ch : Int) (j : Nat) : Bool := hearP (ss.getD j default) (ps.getD j default) (decide ((j : Int) = ch))
def missAt (ss : List Snd) (ps : List Prt) (cs : List Bool) (ch : Int) (j : Nat) : Bool := missP (ss.getD j default) (ps.getD j default) (cs.getD j false) (decide ((j : Int) = ch))
def stepsP (ss : List Snd) (ps : List Prt) (cs : List Bool) (ch : Int) (k : Nat) : List Prt := (List.range k).map (stepAt ss ps cs ch)
def hears (ss : List Snd) (ps : List Prt) (ch : Int) (k : Nat) : List Nat := (List.range k).filter (hearAt ss ps ch)
def missd (ss : List Snd) (ps : List Prt) (cs : List Bool) (ch : Int) (k : Nat) : List Nat := (List.range k).filter (missAt ss ps cs ch)
def eIx (l : List Nat) : List PD := l.map fun (j : Nat) => PyData.int (j : Int)
theorem eIx_snoc (p : Nat → Bool) (k : Nat) : eIx ((List.range (k + 1)).filter p) = eIx ((List.range k).filter p) ++ if p k = true then [.int k] else [] := by
  rw [List.range_succ, List.filter_append]
  cases h : p k <;> simp [eIx, List.filter_cons, h]
def tickV (r : Rcv) (ss : List Snd) (e : Ear) (ps : List Prt) (cs : List Bool) : PD :=
  .tuple [.tuple [eEar (earP r e (airF 0 ps (rowC r e.row))), .tuple ((stepsP ss ps cs (rowC r e.row) ss.length).map ePrt)], .tuple (eIx (hears ss ps (rowC r e.row) ss.length)), .tuple (eIx (missd ss ps cs (rowC r e.row) ss.length))]
theorem eIx_len (l : List Nat) (p : Nat → Bool) (k : Nat) : (eIx ((List.range k).filter p)).length ≤ k := by
  unfold eIx
  rw [List.length_map]
  exact Nat.le_trans (List.length_filter_le _ _) (by simp)
def eSt (e : Ear) (ps : List Prt) : PD := .tuple [eEar e, .tuple (ps.map ePrt)]
def eCh (cs : List Bool) : PD := .tuple (cs.map .bool)
theorem run_law_tick {r : Rcv} {ss : List Snd} (ok : OkPl r ss) {e : Ear} (oe : OkEar r e) {ps : List Prt} {cs : List Bool} (hp : ps.length = ss.length) (hc : cs.length = ss.length) :
    run Pt (gvOf Ct) wf (n + 2) 27 [.d (ePl r ss), .d (eSt e ps), .d (eCh cs)] = some (.ret (tickV r ss e ps cs), [.d (ePl r ss), .d (eSt e ps), .d (eCh cs)]) := by
  have n3 := ok.n3
  have hlim := lim_ge
  rw [run_of P__law_tick rfl]
  have e1 : atI (r.rows.map eRow) e.row = some (.tuple [.int (rowC r e.row), .int (rowT r e.row)]) := row_at oe.1 oe.2 ok.rc.l1
  obtain ⟨ρ', hl, x9, x10, x15, x16, x17, x8, x11, x12, x13, x14, er, _⟩ := loopF_ind (t := .t [.n 8, .t [.n 11, .n 12, .n 13, .n 14]]) (body := execs (run Pt (gvOf Ct) wf (n + 1)) (mtOf Pt) (gvOf Ct) wf bd__law_tick_0) (xs := enumL 0 (ss.map eSnd))
    (fun k ρ => ∃ x9 x10 x15 x16 x17 x8 x11 x12 x13 x14, ρ = [.d (ePl r ss), .d (eSt e ps), .d (eCh cs), .d (.int (rowC r e.row)), .un, .d (.tuple (eIx (hears ss ps (rowC r e.row) k))), .d (.tuple (eIx (missd ss ps cs (rowC r e.row) k))), .o (.lst ((stepsP ss ps cs (rowC r e.row) k).map ePrt)), x8, x9, x10, x11, x12, x13, x14, x15, x16, x17] ∧
      (stor (some x8) = true ∧ stor (some x9) = true ∧ stor (some x10) = true ∧ stor (some x11) = true ∧ stor (some x12) = true ∧ stor (some x13) = true ∧ stor (some x14) = true ∧ stor (some x15) = true ∧ stor (some x16) = true ∧ stor (some x17) = true))
    (fun k x ρ hx ⟨x9, x10, x15, x16, x17, x8, x11, x12, x13, x14, er, t8, t9, t10, t11, t12, t13, t14, t15, t16, t17⟩ => by
      have hk : k < ss.length := by
        have := (List.getElem?_eq_some_iff.mp hx).1
        rw [enumL_len, List.length_map] at this
        exact this
      have ex : x = .tuple [.int (k : Nat), eSnd (ss.getD k default)] := by
        have z := enumL_get (ss.map eSnd) 0 k (eSnd ss[k]) (by rw [List.getElem?_map, List.getElem?_eq_getElem hk]; rfl)
        rw [hx] at z
        rw [Option.some.inj z, Nat.zero_add, List.getD_eq_getElem?_getD, List.getElem?_eq_getElem hk]
        rfl
      subst ex er
      have l1 := eIx_len [] (hearAt ss ps (rowC r e.row)) k
      have l2 := eIx_len [] (missAt ss ps cs (rowC r e.row)) k
      have b := bd_tick (wf := wf) (n := n + 1) (plan := ePl r ss) (ear := eEar e) (pl := ps.map ePrt) (cs := cs.map .bool) (hs := eIx (hears ss ps (rowC r e.row) k)) (ms := eIx (missd ss ps cs (rowC r e.row) k)) (fs := (stepsP ss ps cs (rowC r e.row) k).map ePrt) (ch := rowC r e.row) (k := k) (s := ss.getD k default) (p := ps.getD k default) (c := cs.getD k false)
        (by rw [List.getElem?_map, List.getD_eq_getElem?_getD, List.getElem?_eq_getElem (show k < ps.length by omega)]; rfl)
        (by rw [List.getElem?_map, List.getD_eq_getElem?_getD, List.getElem?_eq_getElem (show k < cs.length by omega)]; rfl)
        (by unfold hears; omega) (by unfold missd; omega) (by simp [stepsP]; omega) t9 t10 t15 t16 t17
      refine ⟨[.d (ePl r ss), .d (eSt e ps), .d (eCh cs), .d (.int (rowC r e.row)), .un, .d (.tuple (eIx (hears ss ps (rowC r e.row) k))), .d (.tuple (eIx (missd ss ps cs (rowC r e.row) k))), .o (.lst ((stepsP ss ps cs (rowC r e.row) k).map ePrt)), .d (.int k), x9, x10, .d (.tuple [.int (ss.getD k default).a, .int (ss.getD k default).b]), .d (.tuple [.int (ss.getD k default).c, .int (ss.getD k default).d]), .d (.int (ss.getD k default).t), .d (.int (ss.getD k default).m), x15, x16, x17], _, ?_, b, .d (.int (highP (ss.getD k default) (ps.getD k default).ph)), .d (.int (pas1 (ps.getD k default))), .d (.str (nm (ps.getD k default).ph)), .d (.int (ps.getD k default).told), .d (.int (got1 (ss.getD k default) (ps.getD k default) (decide ((k : Int) = rowC r e.row)))), .d (.int k), .d (.tuple [.int (ss.getD k default).a, .int (ss.getD k default).b]), .d (.tuple [.int (ss.getD k default).c, .int (ss.getD k default).d]), .d (.int (ss.getD k default).t), .d (.int (ss.getD k default).m), ?_, rfl, rfl, rfl, rfl, rfl, rfl, rfl, rfl, rfl, rfl⟩
      · simp [eSnd, t8, t11, t12, t13, t14]
      · unfold hears missd stepsP
        rw [eIx_snoc, eIx_snoc, List.range_succ, List.map_append, List.map_append]
        rfl) [.d (ePl r ss), .d (eSt e ps), .d (eCh cs), .d (.int (rowC r e.row)), .un, .d (.tuple []), .d (.tuple []), .o (.lst []), .un, .un, .un, .un, .un, .un, .un, .un, .un, .un] ⟨.un, .un, .un, .un, .un, .un, .un, .un, .un, .un, rfl, rfl, rfl, rfl, rfl, rfl, rfl, rfl, rfl, rfl, rfl⟩
  rw [enumL_len, List.length_map] at er
  subst er
  have a0 := run_air (wf := wf) (n := n) (e := eEar e) (ps := ps) (by omega)
  obtain ⟨a1, a2⟩ := air_any (rowC r e.row) ps 0
  have a3 := isin_if (x := .int (rowC r e.row)) sh_int (sh_ints a2)
  rw [a1] at a3
  have a4 := run_law_ear (wf := wf) (n := n) ok.rc oe (airF 0 ps (rowC r e.row))
  have hr2 : eRcv r = .tuple [.tuple (r.rows.map eRow), eO r.hang, eO r.back] := rfl
  have he2 : eEar e = .tuple [.int e.row, .int e.passed, .int e.silent] := rfl
  simp only [ePl, eSt, eCh] at hl ⊢
  rw [hr2, he2] at hl a4 ⊢
  rw [he2] at a0
  simp [d__law_tick, setR, ex_for, e1, hl, a0, a3, a4, tickV]
end Er

set_option Elab.async false
set_option linter.all false
set_option maxRecDepth 100000
set_option maxHeartbeats 0
/-! S15: choices, as the law makes them. -/
namespace Er
open PySem L2
variable {wf n : Nat}
theorem alike_bools : ∀ {a b : List Bool}, a.length = b.length → PySem.W.alikeAll (a.map PyData.bool) (b.map PyData.bool) = true
  | [], [], _ => rfl
  | [], _ :: _, h => by simp at h
  | _ :: _, [], h => by simp at h
  | x :: a, y :: b, h => by
    rw [List.map_cons, List.map_cons, PySem.W.alikeAll, alike_bools (by simpa using h)]
    rfl
theorem alike_ch {a b : List Bool} (h : a.length = b.length) : PySem.W.alike (eCh a) (eCh b) = true := by
  unfold eCh
  rw [PySem.W.alike]
  exact alike_bools h
theorem depth_ch (a : List Bool) : (eCh a).depth ≤ 8 := by
  have : PyData.depthAll (a.map PyData.bool) = 0 := by
    induction a with
    | nil => rfl
    | cons x a ih => rw [List.map_cons, PyData.depthAll, ih]; rfl
  unfold eCh
  rw [PyData.depth, this]
  decide
theorem lay_ch (a : List Bool) : (eCh a).canLay0 = true := by
  unfold eCh
  rw [PyData.canLay0]
  induction a with
  | nil => rfl
  | cons x a ih => rw [List.map_cons, PyData.canLayAll0, ih]; rfl
theorem sorted_ch {L : List (List Bool)} {k : Nat} (hk : ∀ c ∈ L, c.length = k + 1) (hl : L.length ≤ 1000) : ∃ L' : List (List Bool), biD .sorted [.list (L.map eCh)] = some (.list (L'.map eCh)) ∧ L'.Perm L := by
  have hlim := lim_ge
  have mem : ∀ d ∈ L.map eCh, ∃ c ∈ L, d = eCh c := fun d hd => by
    obtain ⟨c, hc, rfl⟩ := List.mem_map.mp hd
    exact ⟨c, hc, rfl⟩
  have hp := List.mergeSort_perm (L.map eCh) (PySem.W.dataLe false id)
  have ex : ∀ M : List PD, M.Perm (L.map eCh) → ∃ L' : List (List Bool), M = L'.map eCh ∧ L'.Perm L := fun M hM => by
    have inj : ∀ a b : List Bool, eCh a = eCh b → a = b := fun a b h => by
      unfold eCh at h
      have h2 : a.map PyData.bool = b.map PyData.bool := by simpa using h
      exact map_inj (f := PyData.bool) (fun h => by simpa using h) h2
    obtain ⟨dec, hd⟩ : ∃ dec : PD → List Bool, ∀ c, dec (eCh c) = c := ⟨fun d => match d with
      | .tuple l => l.map fun x => match x with
        | .bool b => b
        | _ => false
      | _ => [], fun c => by simp [eCh, List.map_map, Function.comp_def]⟩
    refine ⟨M.map dec, ?_, ?_⟩
    · rw [List.map_map]
      refine (List.map_id M).symm.trans (List.map_congr_left fun d hd' => ?_)
      obtain ⟨c, _, rfl⟩ := mem d (hM.mem_iff.mp hd')
      show eCh c = eCh (dec (eCh c))
      rw [hd]
    · have := hM.map dec
      rw [List.map_map] at this
      have e : L.map (dec ∘ eCh) = L := by
        refine (List.map_congr_left fun c _ => hd c).trans (List.map_id L)
      rwa [e] at this
  obtain ⟨L', e1, e2⟩ := ex _ hp
  refine ⟨L', ?_, e2⟩
  rw [bi_sorted, e1]
  · rw [Bool.or_eq_true]
    refine .inl (List.all_eq_true.mpr fun d hd => ?_)
    obtain ⟨c, hc, rfl⟩ := mem d hd
    have := hk c hc
    cases c with
    | nil => simp at this
    | cons x c => rfl
  · intro d hd
    obtain ⟨c, hc, rfl⟩ := mem d hd
    exact lay_ch c
  · rw [List.length_map]; omega
  · intro d hd e he
    obtain ⟨c, hc, rfl⟩ := mem d hd
    obtain ⟨c2, hc2, rfl⟩ := mem e he
    exact alike_ch ((hk c hc).trans (hk c2 hc2).symm)
  · intro d hd
    obtain ⟨c, hc, rfl⟩ := mem d hd
    exact depth_ch c
end Er

set_option Elab.async false
set_option linter.all false
set_option maxRecDepth 100000
set_option maxHeartbeats 0
/-! S16: the law's choices. -/
namespace Er
open PySem L2
variable {wf n : Nat}
def loP (s : Snd) : Ph → Int
  | .idle => 0
  | .call => s.a
  | .pause => s.c
def freeP (s : Snd) (p : Prt) : Bool := decide (loP s p.ph < p.passed + 2) && decide (p.passed + 2 ≤ highP s p.ph)
def addB (b : Bool) (x : PD) : PD := match x with
  | .tuple l => .tuple (l ++ [.bool b])
  | _ => .none
theorem addB_ch (b : Bool) (c : List Bool) : addB b (eCh c) = eCh (c ++ [b]) := by simp [addB, eCh]
theorem addB_map (b : Bool) (L : List (List Bool)) : (L.map eCh).map (addB b) = (L.map (· ++ [b])).map eCh := by
  rw [List.map_map, List.map_map]
  exact List.map_congr_left fun c _ => addB_ch b c
section
variable {a0 a1 a3 a4 a5 a6 a7 a8 a9 a10 : SV}
theorem cm_ch0 {L : List (List Bool)} {k : Nat} (hk : ∀ c ∈ L, c.length = k) (hk2 : k ≤ 900) (hl : L.length ≤ 900) : ev (run Pt (gvOf Ct) wf n) (mtOf Pt) (gvOf Ct) cm__law_choices_0 [a0, a1, .d (.list (L.map eCh)), a3, a4, a5, a6, a7, a8, a9, a10, .un] = .ok (.d (.list ((L.map (· ++ [false])).map eCh))) [a0, a1, .d (.list (L.map eCh)), a3, a4, a5, a6, a7, a8, a9, a10, .un] := by
  have hlim := lim_ge
  rw [← addB_map]
  refine comp_all (own := [11]) (xs := L.map eCh) (addB false) (by simp) (by rw [List.length_map]; omega) fun x hx => ?_
  obtain ⟨c, hc, rfl⟩ := List.mem_map.mp hx
  have := hk c hc
  have e := bin_addT (x := c.map .bool) (y := [.bool false]) (by simp; omega)
  exact ⟨[a0, a1, .d (.list (L.map eCh)), a3, a4, a5, a6, a7, a8, a9, a10, .d (eCh c)], by simp, by simp, by simp [eCh, e, addB]⟩
theorem cm_ch1 {L : List (List Bool)} {k : Nat} {f : Bool} (hk : ∀ c ∈ L, c.length = k) (hk2 : k ≤ 900) (hl : L.length ≤ 900) : ev (run Pt (gvOf Ct) wf n) (mtOf Pt) (gvOf Ct) cm__law_choices_1 [a0, a1, .d (.list (L.map eCh)), a3, .d (.bool f), a5, a6, a7, a8, a9, a10, .un] = .ok (.d (.list ((if f = true then L.map (· ++ [true]) else []).map eCh))) [a0, a1, .d (.list (L.map eCh)), a3, .d (.bool f), a5, a6, a7, a8, a9, a10, .un] := by
  have hlim := lim_ge
  have e0 : (if f = true then L.map (· ++ [true]) else []).map eCh = ((L.map eCh).filter fun _ => f).map (addB true) := by
    cases f
    · simp
    · rw [if_pos rfl, ← addB_map, List.filter_eq_self.mpr (fun _ _ => rfl)]
  rw [e0]
  refine comp_pure (own := [11]) (xs := L.map eCh) (fun _ => f) (addB true) (by simp) (by rw [List.length_map]; omega) fun x hx => ?_
  obtain ⟨c, hc, rfl⟩ := List.mem_map.mp hx
  have := hk c hc
  have e := bin_addT (x := c.map .bool) (y := [.bool true]) (by simp; omega)
  exact ⟨[a0, a1, .d (.list (L.map eCh)), a3, .d (.bool f), a5, a6, a7, a8, a9, a10, .d (eCh c)], by simp, by simp, by simp, by simp [eCh, e, addB]⟩
end
theorem bd_ch {v w x4 x9 x10 : SV} {L : List (List Bool)} {k : Nat} {s : Snd} {p : Prt} (hk : ∀ c ∈ L, c.length = k) (hk2 : k ≤ 400) (hl : L.length ≤ 400) (t4 : stor (some x4) = true) (t9 : stor (some x9) = true) (t10 : stor (some x10) = true) :
    ∃ L' : List (List Bool), execs (run Pt (gvOf Ct) wf n) (mtOf Pt) (gvOf Ct) wf bd__law_choices_0 [v, w, .d (.list (L.map eCh)), .d (ePrt p), x4, .d (.tuple [.int s.a, .int s.b]), .d (.tuple [.int s.c, .int s.d]), .d (.int s.t), .d (.int s.m), x9, x10, .un] =
      .ok .next [v, w, .d (.list (L'.map eCh)), .d (ePrt p), .d (.bool (freeP s p)), .d (.tuple [.int s.a, .int s.b]), .d (.tuple [.int s.c, .int s.d]), .d (.int s.t), .d (.int s.m), .d (.int (loP s p.ph)), .d (.int (highP s p.ph)), .un] ∧
      L'.Perm (L.map (· ++ [false]) ++ if freeP s p = true then L.map (· ++ [true]) else []) := by
  have hl2 : (L.map (· ++ [false]) ++ if freeP s p = true then L.map (· ++ [true]) else []).length ≤ 1000 := by
    rw [List.length_append, List.length_map]
    split <;> simp <;> omega
  obtain ⟨L', e1, e2⟩ := sorted_ch (L := L.map (· ++ [false]) ++ if freeP s p = true then L.map (· ++ [true]) else []) (k := k) (fun c hc => by
    rcases List.mem_append.mp hc with hc | hc
    · obtain ⟨d, hd, rfl⟩ := List.mem_map.mp hc
      simp [hk d hd]
    · split at hc
      · obtain ⟨d, hd, rfl⟩ := List.mem_map.mp hc
        simp [hk d hd]
      · simp at hc) hl2
  refine ⟨L', ?_, e2⟩
  have e3 := bin_addL (x := (L.map (· ++ [false])).map eCh) (y := (if freeP s p = true then L.map (· ++ [true]) else []).map eCh) (by
    rw [List.length_append, List.length_map] at hl2
    simp only [List.length_map]
    exact hl2)
  rw [← List.map_append] at e3
  have c0 := fun a4 a9 a10 => cm_ch0 (wf := wf) (n := n) (a0 := v) (a1 := w) (a3 := .d (ePrt p)) (a4 := a4) (a5 := .d (.tuple [.int s.a, .int s.b])) (a6 := .d (.tuple [.int s.c, .int s.d])) (a7 := .d (.int s.t)) (a8 := .d (.int s.m)) (a9 := a9) (a10 := a10) hk (by omega) (by omega)
  have c1 := fun f a9 a10 => cm_ch1 (wf := wf) (n := n) (a0 := v) (a1 := w) (a3 := .d (ePrt p)) (f := f) (a5 := .d (.tuple [.int s.a, .int s.b])) (a6 := .d (.tuple [.int s.c, .int s.d])) (a7 := .d (.int s.t)) (a8 := .d (.int s.m)) (a9 := a9) (a10 := a10) hk (by omega) (by omega)
  obtain ⟨ph, told, passed, got⟩ := p
  simp only [ePrt] at c0 c1
  cases ph with
  | idle =>
    have hF : freeP s ⟨.idle, told, passed, got⟩ = (decide (0 < passed + 2) && decide (passed + 2 ≤ 99)) := rfl
    simp [-List.map_map, -List.map_append, bd__law_choices_0, ePrt, t4, t9, t10, setR, pick_nm]
    rw [← hF]
    simp [-List.map_map, -List.map_append, c0, c1, e3, e1, loP, highP, setR]
  | call =>
    have hF : freeP s ⟨.call, told, passed, got⟩ = (decide (s.a < passed + 2) && decide (passed + 2 ≤ s.b)) := rfl
    simp [-List.map_map, -List.map_append, bd__law_choices_0, ePrt, t4, t9, t10, setR, pick_nm]
    rw [← hF]
    simp [-List.map_map, -List.map_append, c0, c1, e3, e1, loP, highP, setR]
  | pause =>
    have hF : freeP s ⟨.pause, told, passed, got⟩ = (decide (s.c < passed + 2) && decide (passed + 2 ≤ s.d)) := rfl
    simp [-List.map_map, -List.map_append, bd__law_choices_0, ePrt, t4, t9, t10, setR, pick_nm]
    rw [← hF]
    simp [-List.map_map, -List.map_append, c0, c1, e3, e1, loP, highP, setR]
theorem run_law_choices {r : Rcv} {ss : List Snd} (hs3 : ss.length ≤ 3) {e : PD} {ps : List Prt} (hp : ps.length = ss.length) :
    ∃ L : List (List Bool), run Pt (gvOf Ct) wf (n + 1) 25 [.d (ePl r ss), .d (.tuple [e, .tuple (ps.map ePrt)])] = some (.ret (.list (L.map eCh)), [.d (ePl r ss), .d (.tuple [e, .tuple (ps.map ePrt)])]) ∧ L ≠ [] ∧ L.length ≤ 8 ∧ ∀ c ∈ L, c.length = ss.length := by
  rw [run_of P__law_choices rfl]
  obtain ⟨ρ', hl, L, x3, x4, x5, x6, x7, x8, x9, x10, er, g1, g2, g3, _⟩ := loopF_ind (t := .t [.t [.n 5, .n 6, .n 7, .n 8], .n 3]) (body := execs (run Pt (gvOf Ct) wf n) (mtOf Pt) (gvOf Ct) wf bd__law_choices_0) (xs := zipL (ss.map eSnd) (ps.map ePrt))
    (fun k ρ => ∃ (L : List (List Bool)) (x3 x4 x5 x6 x7 x8 x9 x10 : SV), ρ = [.d (ePl r ss), .d (.tuple [e, .tuple (ps.map ePrt)]), .d (.list (L.map eCh)), x3, x4, x5, x6, x7, x8, x9, x10, .un] ∧ L ≠ [] ∧ L.length ≤ 2 ^ k ∧ (∀ c ∈ L, c.length = k) ∧
      (stor (some x3) = true ∧ stor (some x4) = true ∧ stor (some x5) = true ∧ stor (some x6) = true ∧ stor (some x7) = true ∧ stor (some x8) = true ∧ stor (some x9) = true ∧ stor (some x10) = true))
    (fun k x ρ hx ⟨L, x3, x4, x5, x6, x7, x8, x9, x10, er, g1, g2, g3, t3, t4, t5, t6, t7, t8, t9, t10⟩ => by
      have hk : k < ss.length := by
        have := (List.getElem?_eq_some_iff.mp hx).1
        rw [zipL_length, List.length_map, List.length_map] at this
        omega
      have ex : x = .tuple [eSnd ss[k], ePrt (ps[k]'(by omega))] := by
        have z := zipL_get (ss.map eSnd) (ps.map ePrt) k (eSnd ss[k]) (ePrt (ps[k]'(by omega))) (by rw [List.getElem?_map, List.getElem?_eq_getElem hk]; rfl) (by rw [List.getElem?_map, List.getElem?_eq_getElem (by omega)]; rfl)
        rw [hx] at z
        exact Option.some.inj z
      subst ex er
      have hk2 : k = 0 ∨ k = 1 ∨ k = 2 := by omega
      have hL : L.length ≤ 400 := by rcases hk2 with e | e | e <;> subst e <;> simp at g2 <;> omega
      obtain ⟨L', b1, b2⟩ := bd_ch (wf := wf) (n := n) (v := .d (ePl r ss)) (w := .d (.tuple [e, .tuple (ps.map ePrt)])) (s := ss[k]) (p := ps[k]'(by omega)) g3 (by omega) hL t4 t9 t10
      refine ⟨_, _, ?_, b1, L', .d (ePrt (ps[k]'(by omega))), .d (.bool (freeP ss[k] (ps[k]'(by omega)))), .d (.tuple [.int ss[k].a, .int ss[k].b]), .d (.tuple [.int ss[k].c, .int ss[k].d]), .d (.int ss[k].t), .d (.int ss[k].m), .d (.int (loP ss[k] (ps[k]'(by omega)).ph)), .d (.int (highP ss[k] (ps[k]'(by omega)).ph)), rfl, ?_, ?_, ?_, rfl, rfl, rfl, rfl, rfl, rfl, rfl, rfl⟩
      · simp [eSnd, t3, t5, t6, t7, t8]
      · intro z
        have := b2.length_eq
        rw [z, List.length_append, List.length_map] at this
        cases L with
        | nil => exact g1 rfl
        | cons =>
          simp only [List.length_cons, List.length_nil] at this
          omega
      · have := b2.length_eq
        rw [this, List.length_append, List.length_map, Nat.pow_succ]
        split
        · rw [List.length_map]
          omega
        · simp
          omega
      · intro c hc
        rcases List.mem_append.mp (b2.mem_iff.mp hc) with hc | hc
        · obtain ⟨d, hd, rfl⟩ := List.mem_map.mp hc
          simp [g3 d hd]
        · split at hc
          · obtain ⟨d, hd, rfl⟩ := List.mem_map.mp hc
            simp [g3 d hd]
          · simp at hc) [.d (ePl r ss), .d (.tuple [e, .tuple (ps.map ePrt)]), .d (.list [.tuple []]), .un, .un, .un, .un, .un, .un, .un, .un, .un] ⟨[[]], .un, .un, .un, .un, .un, .un, .un, .un, rfl, by simp, by simp, by simp, rfl, rfl, rfl, rfl, rfl, rfl, rfl, rfl⟩
  rw [zipL_length, List.length_map, List.length_map, hp, Nat.min_self] at g2 g3
  subst er
  refine ⟨L, ?_, g1, ?_, g3⟩
  · simp only [ePl] at hl ⊢
    simp [d__law_choices, setR, ex_for, hl]
  · have : ss.length = 0 ∨ ss.length = 1 ∨ ss.length = 2 ∨ ss.length = 3 := by omega
    rcases this with e | e | e | e <;> rw [e] at g2 <;> simp at g2 <;> omega
end Er

set_option Elab.async false
set_option linter.all false
set_option maxRecDepth 100000
set_option maxHeartbeats 0
/-! S17: the first stand; values bent. -/
namespace Er
open PySem L2
variable {wf n : Nat}
theorem run_law_first {r : PD} {ss : List PD} (h : ss.length ≤ 1000) : run Pt (gvOf Ct) wf (n + 1) 23 [.d (.tuple [r, .tuple ss])] = some (.ret (eStand0 ss.length), [.d (.tuple [r, .tuple ss])]) := by
  rw [run_of P__law_first rfl]
  simp [d__law_first, mul_one_tup h, eStand0]
def eaP0 : Ear := ⟨0, 0, -1⟩
theorem stand0_eq (k : Nat) : eStand0 k = eSt eaP0 (List.replicate k ⟨.idle, 0, 0, 0⟩) := by
  unfold eStand0 eSt
  rw [List.map_replicate]
  rfl
/-! no tuple of it is long -/
mutual
def slim : PD → Bool
  | .tuple l => decide (l.length ≤ 100) && slims l
  | _ => true
def slims : List PD → Bool
  | [] => true
  | x :: l => slim x && slims l
end
theorem slims_mem : ∀ {l : List PD}, slims l = true → ∀ x ∈ l, slim x = true
  | y :: l, h, x, hx => by
    rw [slims, Bool.and_eq_true] at h
    rcases List.mem_cons.mp hx with e | hx
    · rw [e]; exact h.1
    · exact slims_mem h.2 x hx
theorem lays_iff : ∀ {l : List PD}, PyData.canLayAll0 l = true ↔ ∀ x ∈ l, x.canLay0 = true
  | [] => by simp [PyData.canLayAll0]
  | y :: l => by
    rw [PyData.canLayAll0, Bool.and_eq_true, lays_iff]
    simp
theorem depths_le {k : Nat} : ∀ {l : List PD}, PyData.depthAll l ≤ k ↔ ∀ x ∈ l, x.depth ≤ k
  | [] => by simp [PyData.depthAll]
  | y :: l => by
    rw [PyData.depthAll, Nat.max_le, depths_le]
    simp
def bentConsts : List PD := [.none, .bool true, .bool false, .int 0, .int 1, .int 2, .int 3, .int 4, .int 5, .int (-1), .int (-2), .int 1000000000000000000000000000000, .str "idle", .str "call", .str "pause", .str "", .tuple [], .list [], .tuple [.int 0, .int 1],
  .tuple [.int 2, .int 1], .tuple [.int 1, .int 4], .tuple [.int 4, .int 4], .tuple [.str "idle", .int 0, .int 0, .int 0], .tuple [.str "call", .int 0, .int 1, .int 1], .tuple [.str "pause", .int 1, .int 0, .int 0], .tuple [.int 0, .int 0, .int (-1)]]
theorem bentConsts_ok : ∀ x ∈ bentConsts, x.canLay0 = true ∧ x.depth ≤ 1 := by
  have h : (bentConsts.all fun x => x.canLay0 && decide (x.depth ≤ 1)) = true := by decide +kernel
  intro x hx
  have := List.all_eq_true.mp h x hx
  rw [Bool.and_eq_true, decide_eq_true_eq] at this
  exact this
theorem bin_pow30 : binD .pow (.int 10) (.int 30) = some (.int 1000000000000000000000000000000) := by
  show (if 0 ≤ (30 : Int) ∧ (30 : Int) ≤ 1000000 ∧ (10 : Int).natAbs < 18446744073709551616 then some (PyData.int (10 ^ (30 : Int).toNat)) else none) = _
  rw [if_pos (by decide)]
  have : (10 : Int) ^ (30 : Int).toNat = 1000000000000000000000000000000 := by decide +kernel
  rw [this]
def bentA : Sm := match d__law_bent.body with
  | .cons s _ => s
  | .nil => .dead
def bentR : Sms := match d__law_bent.body with
  | .cons _ l => l
  | .nil => .nil
theorem bent_body : d__law_bent.body = .cons bentA bentR := rfl
/-- what is drawn in its place -/
theorem bent_some {o : OB} (ho : Spr o) {v : PD} {x2 x3 x4 : SV} (t2 : stor (some x2) = true) : ∃ o' w, fin [.b o, .d v] (execs (run Pt (gvOf Ct) wf (n + 1)) (mtOf Pt) (gvOf Ct) wf bentR [.b o, .d v, x2, x3, x4]) = some (.ret w, [.b o', .d v]) ∧ Spr o' ∧ w.canLay0 = true ∧ w.depth ≤ 1 := by
  obtain ⟨o1, d1, p1, s1, d1a, d1b⟩ := run_pick (wf := wf) (n := n) ho (m := 26) (by decide) (by decide)
  have hd : d1.toNat < bentConsts.length := by
    show d1.toNat < 26
    omega
  obtain ⟨w1, w2⟩ := bentConsts_ok _ (List.getElem_mem hd)
  have e1 : atI bentConsts d1 = some bentConsts[d1.toNat] := by rw [atI_of d1a, List.getElem?_eq_getElem hd]
  refine ⟨o1, bentConsts[d1.toNat], ?_, s1, w1, w2⟩
  have e2 : ∀ x y : List PD, x.length + y.length ≤ 1000 → binD .add (.list x) (.list y) = some (.list (x ++ y)) := fun x y h => bin_addL h
  unfold bentConsts at e1
  simp [bentR, d__law_bent, setR, t2, bin_pow30, e2, p1, e1]
  rfl
theorem fin_o {o o1 : OB} {v : PD} {r : R Flow} : fin [.b o, .d v] r = fin [.b o1, .d v] r := by
  cases r with
  | stuck => rfl
  | exc e ρ =>
    rcases ρ with _ | ⟨x, _ | ⟨y, ρ⟩⟩ <;> first | rfl | (cases x <;> rfl)
  | ok f ρ =>
    cases f <;> rcases ρ with _ | ⟨x, _ | ⟨y, ρ⟩⟩ <;> first | rfl | (cases x <;> rfl)
theorem bent_no {o : OB} {v : PD} (h : ∀ x l, v ≠ .tuple (x :: l)) : exec (run Pt (gvOf Ct) wf n) (mtOf Pt) (gvOf Ct) wf bentA [.b o, .d v, .un, .un, .un] = .ok .next [.b o, .d v, .un, .un, .un] := by
  cases v with
  | tuple l =>
    cases l with
    | nil =>
      have e : cmpD .ne (.tuple []) (.tuple []) = some false := by decide +kernel
      simp [bentA, d__law_bent, isTy, e]
    | cons x l => exact (h x l rfl).elim
  | _ => simp [bentA, d__law_bent, isTy]
theorem parts_ok {L : List PD} {k : Nat} (h1 : ∀ x ∈ L, x.canLay0 = true) (h2 : ∀ x ∈ L, x.depth ≤ k) : (PyData.tuple L).canLay0 = true ∧ (PyData.tuple L).depth ≤ k + 1 := by
  refine ⟨by rw [PyData.canLay0]; exact lays_iff.mpr h1, ?_⟩
  rw [PyData.depth]
  have := depths_le.mpr h2
  omega
theorem run_bent : ∀ (d : Nat) (v : PD), d ≤ 60 → v.depth ≤ d → v.canLay0 = true → slim v = true → ∀ (n : Nat) (o : OB), Spr o → ∃ o' w, run Pt (gvOf Ct) wf (n + d + 2) 34 [.b o, .d v] = some (.ret w, [.b o', .d v]) ∧ Spr o' ∧ w.canLay0 = true ∧ w.depth ≤ v.depth + 1 := by
  intro d
  induction d with
  | zero =>
    intro v _ hd hc hs n o ho
    rw [run_of P__law_bent rfl, bent_body]
    have hn : ∀ x l, v ≠ .tuple (x :: l) := fun x l e => by
      rw [e, PyData.depth] at hd
      omega
    obtain ⟨o', w, h1, h2, h3, h4⟩ := bent_some (wf := wf) (n := n) ho (v := v) (x2 := .un) (x3 := .un) (x4 := .un) rfl
    refine ⟨o', w, ?_, h2, h3, by omega⟩
    show fin [.b o, .d v] (execs _ _ _ _ (.cons bentA bentR) [.b o, .d v, .un, .un, .un]) = _
    rw [exs_cons, bent_no hn]
    exact h1
  | succ d ih =>
    intro v hd60 hd hc hs n o ho
    by_cases hn : ∃ x l, v = .tuple (x :: l)
    · obtain ⟨x, l, rfl⟩ := hn
      have hsh : shaped (.tuple (x :: l)) = true := shaped_iff.mpr ⟨hc, by omega⟩
      have ne1 : cmpD .ne (.tuple (x :: l)) (.tuple []) = some true := by
        rw [ne_if hsh (show shaped (.tuple []) = true from rfl)]
        rfl
      generalize hL : x :: l = L at *
      have hne : 1 ≤ L.length := by rw [← hL]; simp
      rw [PyData.depth] at hd
      rw [PyData.canLay0] at hc
      rw [slim, Bool.and_eq_true, decide_eq_true_eq] at hs
      have hlay := lays_iff.mp hc
      have hdep := depths_le.mp (show PyData.depthAll L ≤ d by omega)
      have hdep2 := depths_le.mp (Nat.le_refl (PyData.depthAll L))
      have hslm := slims_mem hs.2
      have vdep : (PyData.tuple L).depth = PyData.depthAll L + 1 := by rw [PyData.depth]
      obtain ⟨o1, c6, p1, s1, c6a, c6b⟩ := run_pick (wf := wf) (n := n + d + 1) ho (m := 6) (by decide) (by decide)
      rw [show n + (d + 1) + 2 = (n + d + 2) + 1 by omega, run_of P__law_bent rfl, bent_body]
      show ∃ o' w, fin [.b o, .d (.tuple L)] (execs _ _ _ _ (.cons bentA bentR) [.b o, .d (.tuple L), .un, .un, .un]) = _ ∧ _
      rw [exs_cons]
      by_cases z : 0 < c6
      · obtain ⟨o2, i, p2, s2, i1, i2⟩ := run_pick (wf := wf) (n := n + d + 1) s1 (m := L.length) (by omega) (by omega)
        obtain ⟨o3, w7, p3, s3, w1, w2⟩ := run_pick (wf := wf) (n := n + d + 1) s2 (m := 7) (by decide) (by decide)
        have hi : i.toNat < L.length := by omega
        have c1 := cut_to (l := L) i1
        have c2 := cut_from (l := L) (i := i + 1) (by omega)
        have c3 := cut_mid (l := L) (i := i) (j := i + 1) i1 (by omega)
        have c4 := cut_from (l := L) i1
        have a : ∀ X Y : List PD, X.length + Y.length ≤ 1000 → binD .add (.tuple X) (.tuple Y) = some (.tuple (X ++ Y)) := fun X Y h => bin_addT h
        have t1 : (L.take i.toNat).length ≤ 100 := by rw [List.length_take]; omega
        have t2 : (L.drop (i + 1).toNat).length ≤ 100 := by rw [List.length_drop]; omega
        have t3 : ((L.drop i.toNat).take ((i + 1).toNat - i.toNat)).length ≤ 100 := by rw [List.length_take, List.length_drop]; omega
        have t4 : (L.drop i.toNat).length ≤ 100 := by rw [List.length_drop]; omega
        have m1 : ∀ y ∈ L.take i.toNat, y ∈ L := fun y hy => List.mem_of_mem_take hy
        have m2 : ∀ y ∈ L.drop (i + 1).toNat, y ∈ L := fun y hy => List.mem_of_mem_drop hy
        have m3 : ∀ y ∈ (L.drop i.toNat).take ((i + 1).toNat - i.toNat), y ∈ L := fun y hy => List.mem_of_mem_drop (List.mem_of_mem_take hy)
        have m4 : ∀ y ∈ L.drop i.toNat, y ∈ L := fun y hy => List.mem_of_mem_drop hy
        by_cases z0 : w7 = 0
        · have e1 := a (L.take i.toNat) (L.drop (i + 1).toNat) (by omega)
          obtain ⟨q1, q2⟩ := parts_ok (L := L.take i.toNat ++ L.drop (i + 1).toNat) (k := PyData.depthAll L) (fun y hy => hlay y ((List.mem_append.mp hy).elim (m1 y) (m2 y))) (fun y hy => hdep2 y ((List.mem_append.mp hy).elim (m1 y) (m2 y)))
          refine ⟨o3, _, ?_, s3, q1, by omega⟩
          simp [bentA, d__law_bent, isTy, ne1, p1, z, p2, p3, z0, c1, c2, e1]
        · by_cases z1 : w7 = 1
          · have e1 := a (L.take i.toNat) ((L.drop i.toNat).take ((i + 1).toNat - i.toNat)) (by omega)
            have e2 := a (L.take i.toNat ++ (L.drop i.toNat).take ((i + 1).toNat - i.toNat)) (L.drop i.toNat) (by rw [List.length_append]; omega)
            obtain ⟨q1, q2⟩ := parts_ok (L := L.take i.toNat ++ (L.drop i.toNat).take ((i + 1).toNat - i.toNat) ++ L.drop i.toNat) (k := PyData.depthAll L) (fun y hy => hlay y ((List.mem_append.mp hy).elim (fun h => (List.mem_append.mp h).elim (m1 y) (m3 y)) (m4 y))) (fun y hy => hdep2 y ((List.mem_append.mp hy).elim (fun h => (List.mem_append.mp h).elim (m1 y) (m3 y)) (m4 y)))
            refine ⟨o3, _, ?_, s3, q1, by omega⟩
            simp [-List.append_assoc, bentA, d__law_bent, isTy, ne1, p1, z, p2, p3, z1, c1, c3, c4, e1, e2]
          · have hmem : L[i.toNat] ∈ L := List.getElem_mem hi
            obtain ⟨o4, w, b1, b2, b3, b4⟩ := ih L[i.toNat] (by omega) (hdep _ hmem) (hlay _ hmem) (hslm _ hmem) n o3 s3
            have ei : atI L i = some L[i.toNat] := by rw [atI_of i1, List.getElem?_eq_getElem hi]
            have hw : w.depth ≤ PyData.depthAll L + 1 := Nat.le_trans b4 (Nat.succ_le_succ (hdep2 _ hmem))
            have e1 := a (L.take i.toNat) [w] (by simp; omega)
            have e2 := a (L.take i.toNat ++ [w]) (L.drop (i + 1).toNat) (by rw [List.length_append]; simp; omega)
            obtain ⟨q1, q2⟩ := parts_ok (L := L.take i.toNat ++ [w] ++ L.drop (i + 1).toNat) (k := PyData.depthAll L + 1) (fun y hy => (List.mem_append.mp hy).elim (fun h => (List.mem_append.mp h).elim (fun h => hlay y (m1 y h)) (fun h => by rw [List.mem_singleton.mp h]; exact b3)) (fun h => hlay y (m2 y h)))
              (fun y hy => (List.mem_append.mp hy).elim (fun h => (List.mem_append.mp h).elim (fun h => Nat.le_succ_of_le (hdep2 y (m1 y h))) (fun h => by rw [List.mem_singleton.mp h]; exact hw)) (fun h => Nat.le_succ_of_le (hdep2 y (m2 y h))))
            refine ⟨o4, _, ?_, b2, q1, by omega⟩
            simp [-List.append_assoc, bentA, d__law_bent, isTy, ne1, p1, z, p2, p3, z0, z1, c1, c2, ei, b1, e1, e2]
      · have ex : exec (run Pt (gvOf Ct) wf (n + d + 2)) (mtOf Pt) (gvOf Ct) wf bentA [.b o, .d (.tuple L), .un, .un, .un] = .ok .next [.b o1, .d (.tuple L), .un, .un, .un] := by
          simp [bentA, d__law_bent, isTy, ne1, p1, z]
        obtain ⟨o', w, h1, h2, h3, h4⟩ := bent_some (wf := wf) (n := n + d + 1) s1 (v := .tuple L) (x2 := .un) (x3 := .un) (x4 := .un) rfl
        refine ⟨o', w, ?_, h2, h3, by omega⟩
        rw [ex, fin_o (o1 := o1)]
        exact h1
    · rw [run_of P__law_bent rfl, bent_body]
      have hn : ∀ x l, v ≠ .tuple (x :: l) := fun x l e => hn ⟨x, l, e⟩
      obtain ⟨o', w, h1, h2, h3, h4⟩ := bent_some (wf := wf) (n := n + (d + 1)) ho (v := v) (x2 := .un) (x3 := .un) (x4 := .un) rfl
      refine ⟨o', w, ?_, h2, h3, by omega⟩
      show fin [.b o, .d v] (execs _ _ _ _ (.cons bentA bentR) [.b o, .d v, .un, .un, .un]) = _
      rw [exs_cons, bent_no hn]
      exact h1
end Er

set_option Elab.async false
set_option linter.all false
set_option maxRecDepth 100000
set_option maxHeartbeats 0
/-! S18: plans and stands are small; a datum is its own twin. -/
namespace Er
open PySem L2
variable {wf n : Nat}
structure Sm8 (v : PD) : Prop where
  lay : v.canLay0 = true
  dep : v.depth ≤ 8
  slm : slim v = true
theorem slims_iff : ∀ {l : List PD}, slims l = true ↔ ∀ x ∈ l, slim x = true
  | [] => by simp [slims]
  | y :: l => by
    rw [slims, Bool.and_eq_true, slims_iff]
    simp
theorem tup_sm {l : List PD} {k : Nat} (h1 : l.length ≤ 100) (h : ∀ x ∈ l, x.canLay0 = true ∧ x.depth ≤ k ∧ slim x = true) : (PyData.tuple l).canLay0 = true ∧ (PyData.tuple l).depth ≤ k + 1 ∧ slim (.tuple l) = true := by
  obtain ⟨a, b⟩ := parts_ok (L := l) (k := k) (fun x hx => (h x hx).1) (fun x hx => (h x hx).2.1)
  exact ⟨a, b, by rw [slim, Bool.and_eq_true]; exact ⟨decide_eq_true h1, slims_iff.mpr fun x hx => (h x hx).2.2⟩⟩
theorem int_sm (i : Int) : (PyData.int i).canLay0 = true ∧ (PyData.int i).depth ≤ 0 ∧ slim (.int i) = true := ⟨rfl, Nat.le_refl _, rfl⟩
theorem up_sm {v : PD} {j k : Nat} (h : v.canLay0 = true ∧ v.depth ≤ j ∧ slim v = true) (hk : j ≤ k) : v.canLay0 = true ∧ v.depth ≤ k ∧ slim v = true := ⟨h.1, by omega, h.2.2⟩
theorem row_sm (x : Int × Int) : (eRow x).canLay0 = true ∧ (eRow x).depth ≤ 1 ∧ slim (eRow x) = true := tup_sm (by simp) fun y hy => by
  have : y = .int x.1 ∨ y = .int x.2 := by simpa using hy
  rcases this with e | e <;> rw [e] <;> exact int_sm _
theorem snd_sm (s : Snd) : (eSnd s).canLay0 = true ∧ (eSnd s).depth ≤ 2 ∧ slim (eSnd s) = true := tup_sm (by simp) fun y hy => by
  have two' : ∀ a b : Int, (PyData.tuple [.int a, .int b]).canLay0 = true ∧ (PyData.tuple [.int a, .int b]).depth ≤ 1 ∧ slim (.tuple [.int a, .int b]) = true := fun a b => row_sm (a, b)
  have : y = .tuple [.int s.a, .int s.b] ∨ y = .tuple [.int s.c, .int s.d] ∨ y = .int s.t ∨ y = .int s.m := by simpa using hy
  rcases this with e | e | e | e <;> rw [e]
  · exact two' _ _
  · exact two' _ _
  · exact up_sm (int_sm _) (by decide)
  · exact up_sm (int_sm _) (by decide)
theorem eO_sm (o : Option Int) : (eO o).canLay0 = true ∧ (eO o).depth ≤ 0 ∧ slim (eO o) = true := by
  cases o with
  | none => exact ⟨rfl, Nat.le_refl _, rfl⟩
  | some i => exact int_sm i
theorem rcv_sm {r : Rcv} (h : r.rows.length ≤ 4) : (eRcv r).canLay0 = true ∧ (eRcv r).depth ≤ 3 ∧ slim (eRcv r) = true := tup_sm (by simp) fun y hy => by
  have : y = .tuple (r.rows.map eRow) ∨ y = eO r.hang ∨ y = eO r.back := by simpa using hy
  rcases this with e | e | e <;> rw [e]
  · refine tup_sm (by rw [List.length_map]; omega) fun z hz => ?_
    obtain ⟨x, _, rfl⟩ := List.mem_map.mp hz
    exact row_sm x
  · exact up_sm (eO_sm _) (by decide)
  · exact up_sm (eO_sm _) (by decide)
theorem pl_sm {r : Rcv} {ss : List Snd} (ok : OkPl r ss) : (ePl r ss).canLay0 = true ∧ (ePl r ss).depth ≤ 4 ∧ slim (ePl r ss) = true := tup_sm (by simp) fun y hy => by
  have : y = eRcv r ∨ y = .tuple (ss.map eSnd) := by simpa using hy
  have n3 := ok.n3
  rcases this with e | e <;> rw [e]
  · exact rcv_sm ok.rc.l2
  · refine up_sm (tup_sm (k := 2) (by rw [List.length_map]; omega) fun z hz => ?_) (by decide)
    obtain ⟨x, _, rfl⟩ := List.mem_map.mp hz
    exact snd_sm x
theorem prt_sm (p : Prt) : (ePrt p).canLay0 = true ∧ (ePrt p).depth ≤ 1 ∧ slim (ePrt p) = true := tup_sm (by simp) fun y hy => by
  have : y = .str (nm p.ph) ∨ y = .int p.told ∨ y = .int p.passed ∨ y = .int p.got := by simpa using hy
  rcases this with e | e | e | e <;> rw [e]
  · exact ⟨(shaped_iff.mp (nm_sh p.ph)).1, Nat.le_refl _, rfl⟩
  · exact int_sm _
  · exact int_sm _
  · exact int_sm _
theorem st_sm {e : Ear} {ps : List Prt} (h : ps.length ≤ 3) : (eSt e ps).canLay0 = true ∧ (eSt e ps).depth ≤ 3 ∧ slim (eSt e ps) = true := tup_sm (by simp) fun y hy => by
  have : y = eEar e ∨ y = .tuple (ps.map ePrt) := by simpa using hy
  rcases this with e1 | e1 <;> rw [e1]
  · refine up_sm (tup_sm (k := 0) (by simp) fun z hz => ?_) (by decide)
    have : z = .int e.row ∨ z = .int e.passed ∨ z = .int e.silent := by simpa using hz
    rcases this with e2 | e2 | e2 <;> rw [e2] <;> exact int_sm _
  · refine tup_sm (by rw [List.length_map]; omega) fun z hz => ?_
    obtain ⟨x, _, rfl⟩ := List.mem_map.mp hz
    exact prt_sm x
end Er

set_option Elab.async false
set_option linter.all false
set_option maxRecDepth 100000
set_option maxHeartbeats 0
/-! S19: a datum of tuples is its own twin. -/
namespace Er
open PySem L2
variable {wf : Nat}
def TT : Nat → PD → Prop
  | 0, v => (∃ i, v = .int i) ∨ ∃ x, v = .str x ∧ shaped v = true
  | k + 1, v => ((∃ i, v = .int i) ∨ ∃ x, v = .str x ∧ shaped v = true) ∨ ∃ l, v = .tuple l ∧ l.length ≤ 100 ∧ ∀ x ∈ l, TT k x
theorem TT.up {k : Nat} {v : PD} (h : (∃ i, v = .int i) ∨ ∃ x, v = .str x ∧ shaped v = true) : TT k v := by
  cases k with
  | zero => exact h
  | succ k => exact .inl h
theorem zip_self : ∀ {l : List PD} {z : PD}, z ∈ zipL l l → ∃ x, z = .tuple [x, x] ∧ x ∈ l
  | [], z, h => by simp [zipL] at h
  | y :: l, z, h => by
    rw [zipL] at h
    rcases List.mem_cons.mp h with e | h
    · exact ⟨y, e, by simp⟩
    · obtain ⟨x, e, hx⟩ := zip_self h
      exact ⟨x, e, by simp [hx]⟩
theorem twins_atom {n : Nat} {v : PD} (h : (∃ i, v = .int i) ∨ ∃ x, v = .str x ∧ shaped v = true) : run Pt (gvOf Ct) wf (n + 2) 17 [.d v, .d v] = some (.ret (.bool true), [.d v, .d v]) := by
  rw [run_of P__law_twins rfl]
  rcases h with ⟨i, rfl⟩ | ⟨x, rfl, hx⟩
  · simp [d__law_twins, kindN]
  · have e : cmpD .eq (.str x) (.str x) = some true := by
      rw [eqS hx hx, beq_self_eq_true]
    simp [d__law_twins, kindN, e]
theorem run_twins_self : ∀ (k : Nat) (v : PD) (n : Nat), TT k v → run Pt (gvOf Ct) wf (n + k + 2) 17 [.d v, .d v] = some (.ret (.bool true), [.d v, .d v]) := by
  intro k
  induction k with
  | zero => exact fun v n h => twins_atom h
  | succ k ih =>
    intro v n h
    rcases h with h | ⟨l, rfl, hl, h⟩
    · exact twins_atom h
    · have hlim := lim_ge
      rw [show n + (k + 1) + 2 = (n + k + 2) + 1 by omega, run_of P__law_twins rfl]
      have c0 : ev (run Pt (gvOf Ct) wf (n + k + 2)) (mtOf Pt) (gvOf Ct) cm__law_twins_0 [.d (.tuple l), .d (.tuple l), .un, .un] = .ok (.d (.list (((zipL l l).filter fun _ => false).map fun _ => .int 1))) [.d (.tuple l), .d (.tuple l), .un, .un] := by
        refine comp_pure (own := [2, 3]) (xs := zipL l l) (fun _ => false) (fun _ => .int 1) (by simp) (by rw [zipL_length]; omega) fun z hz => ?_
        obtain ⟨x, rfl, hx⟩ := zip_self hz
        exact ⟨[.d (.tuple l), .d (.tuple l), .d x, .d x], by simp, by simp, by simp [ih x n (h x hx)], by simp⟩
      rw [List.filter_eq_nil_iff.mpr (fun _ _ => by simp)] at c0
      have e : cmpD .eq (.list []) (.list []) = some true := by decide +kernel
      have k1 := run_kind (wf := wf) (n := n + k + 1) (.tuple l)
      simp [d__law_twins, k1, kindN, c0, e]
theorem TT_st {e : Ear} {ps : List Prt} (h : ps.length ≤ 3) : TT 3 (eSt e ps) := by
  refine .inr ⟨_, rfl, by simp, fun y hy => ?_⟩
  have : y = eEar e ∨ y = .tuple (ps.map ePrt) := by simpa using hy
  rcases this with e1 | e1 <;> rw [e1]
  · refine .inr ⟨_, rfl, by simp, fun z hz => ?_⟩
    have : z = .int e.row ∨ z = .int e.passed ∨ z = .int e.silent := by simpa using hz
    rcases this with e2 | e2 | e2 <;> rw [e2] <;> exact .up (.inl ⟨_, rfl⟩)
  · refine .inr ⟨_, rfl, by rw [List.length_map]; omega, fun z hz => ?_⟩
    obtain ⟨p, _, rfl⟩ := List.mem_map.mp hz
    refine .inr ⟨_, rfl, by simp, fun w hw => ?_⟩
    have : w = .str (nm p.ph) ∨ w = .int p.told ∨ w = .int p.passed ∨ w = .int p.got := by simpa using hw
    rcases this with e2 | e2 | e2 | e2 <;> rw [e2]
    · exact .up (.inr ⟨_, rfl, nm_sh p.ph⟩)
    · exact .up (.inl ⟨_, rfl⟩)
    · exact .up (.inl ⟨_, rfl⟩)
    · exact .up (.inl ⟨_, rfl⟩)
end Er

set_option Elab.async false
set_option linter.all false
set_option maxRecDepth 100000
set_option maxHeartbeats 0
/-! S20: stands in plain words; a tick keeps them. -/
namespace Er
open PySem L2
structure OkPrt (s : Snd) (p : Prt) : Prop where
  idle : p.ph = .idle → p.told = 0 ∧ p.passed = 0 ∧ p.got = 0
  call : p.ph = .call → 0 ≤ p.told ∧ p.told < s.t ∧ 0 ≤ p.passed ∧ p.passed < s.b ∧ 0 ≤ p.got ∧ p.got ≤ p.passed ∧ p.got ≤ s.m
  pause : p.ph = .pause → 1 ≤ p.told ∧ p.told < s.t ∧ 0 ≤ p.passed ∧ p.passed < s.d ∧ p.got = 0
structure OkEarS (r : Rcv) (e : Ear) : Prop where
  row0 : 0 ≤ e.row
  row1 : e.row ≤ r.rows.length - 1
  ps0 : 0 ≤ e.passed
  ps1 : e.passed < rowT r e.row
  sl0 : -1 ≤ e.silent
  sl1 : e.silent ≤ hangT r.hang
theorem OkEarS.ear {r : Rcv} {e : Ear} (h : OkEarS r e) : OkEar r e := ⟨h.row0, h.row1⟩
structure OkSt (r : Rcv) (ss : List Snd) (e : Ear) (ps : List Prt) : Prop where
  er : OkEarS r e
  len : ps.length = ss.length
  pt : ∀ k, k < ss.length → OkPrt (ss.getD k default) (ps.getD k default)
theorem sel_D {α : Type} [Inhabited α] {l : List α} {k : Nat} (h : k < l.length) : l.getD k default = l[k] := by
  rw [List.getD_eq_getElem?_getD, List.getElem?_eq_getElem h]
  rfl
theorem rowT_pos {r : Rcv} (ok : OkRcv r) {i : Int} (h0 : 0 ≤ i) (h1 : i ≤ r.rows.length - 1) : 1 ≤ rowT r i ∧ rowT r i ≤ 4 := by
  have hk : i.toNat < r.rows.length := by have := ok.l1; omega
  unfold rowT
  rw [List.getD_eq_getElem?_getD, List.getElem?_eq_getElem hk]
  have := ok.row _ (List.getElem_mem hk)
  exact ⟨this.2.2.1, this.2.2.2⟩
theorem rowC_ok {r : Rcv} {ss : List Snd} (ok : OkPl r ss) {i : Int} (h0 : 0 ≤ i) (h1 : i ≤ r.rows.length - 1) : 0 ≤ rowC r i ∧ rowC r i < ss.length := by
  have hk : i.toNat < r.rows.length := by have := ok.rc.l1; omega
  unfold rowC
  rw [List.getD_eq_getElem?_getD, List.getElem?_eq_getElem hk]
  exact ⟨(ok.rc.row _ (List.getElem_mem hk)).1, ok.ch _ (List.getElem_mem hk)⟩
theorem ear_next {r : Rcv} (ok : OkRcv r) {l : Int} (h : 0 ≤ l) : OkEarS r ⟨if l < r.rows.length then l else 0, 0, -1⟩ := by
  have l1 := ok.l1
  have h0 : 0 ≤ (if l < r.rows.length then l else 0) := by split <;> omega
  have h1 : (if l < r.rows.length then l else 0) ≤ (r.rows.length : Int) - 1 := by split <;> omega
  have hh : -1 ≤ hangT r.hang := by
    unfold hangT
    split
    · decide
    · rename_i h e
      have := (ok.hg h e).1
      omega
  have := (rowT_pos ok h0 h1).1
  exact ⟨h0, h1, Int.le_refl _, (show (0 : Int) < rowT r (if l < r.rows.length then l else 0) by omega), Int.le_refl _, hh⟩
theorem earS_ok {r : Rcv} (ok : OkRcv r) {e : Ear} (oe : OkEarS r e) (heard : Bool) : OkEarS r (earP r e heard) := by
  obtain ⟨h1, h2, h3, h4, h5, h6⟩ := oe
  have more : e.passed + 1 ≠ rowT r e.row → OkEarS r ⟨e.row, e.passed + 1, e.silent⟩ := fun z => ⟨h1, h2, by show 0 ≤ e.passed + 1; omega, by show e.passed + 1 < rowT r e.row; omega, h5, h6⟩
  unfold earP
  dsimp only
  split
  · rename_i eh
    split
    · exact ear_next ok (by omega)
    · rename_i z
      exact more z
  · rename_i h eh
    have g := ok.hg h eh
    split
    · exact ⟨h1, h2, h3, h4, by show (-1 : Int) ≤ 0; omega, by show 0 ≤ hangT r.hang; rw [eh]; exact g.1⟩
    · split
      · split
        · exact ear_next ok (by omega)
        · rename_i z
          exact more z
      · split
        · split
          · exact ear_next ok (by omega)
          · rename_i b eb
            exact ear_next ok (ok.bk b eb).1
        · rename_i z
          exact ⟨h1, h2, h3, h4, by show -1 ≤ e.silent + 1; omega, by show e.silent + 1 ≤ hangT r.hang; rw [eh]; show e.silent + 1 ≤ h; omega⟩
theorem got1_le {s : Snd} (os : OkSnd s) {p : Prt} (op : OkPrt s p) (air : Bool) (hc : p.ph = .call) : 0 ≤ got1 s p air ∧ got1 s p air ≤ s.m ∧ got1 s p air ≤ p.passed + 1 := by
  have := op.call hc
  unfold got1
  split
  · rename_i h
    simp only [Bool.and_eq_true, decide_eq_true_eq] at h
    omega
  · omega
theorem stepP_ok {s : Snd} (os : OkSnd s) {p : Prt} (op : OkPrt s p) (c air : Bool) : OkPrt s (stepP s p c air) := by
  obtain ⟨o1, o2, o3, o4, o5, o6, o7, o8, o9, o10⟩ := os
  have g1 := got1_le ⟨o1, o2, o3, o4, o5, o6, o7, o8, o9, o10⟩ op air
  obtain ⟨ph, told, passed, got⟩ := p
  obtain ⟨i1, i2, i3⟩ := op
  dsimp only at i1 i2 i3 g1
  unfold stepP
  split
  · rename_i hg
    simp only [goes, Bool.and_eq_true, decide_eq_true_eq] at hg
    refine ⟨fun e => ?_, fun e => ?_, fun e => ?_⟩
    · have e : ph = .idle := e
      subst e
      have := i1 rfl
      refine ⟨this.1, ?_, ?_⟩
      · show passed + 0 = 0
        omega
      · show got1 s ⟨.idle, told, passed, got⟩ air = 0
        unfold got1
        simp [this.2.2]
    · have e : ph = .call := e
      subst e
      have := i2 rfl
      have g := g1 rfl
      have hp : passed + 1 < s.b := hg.2
      exact ⟨this.1, this.2.1, by show 0 ≤ passed + 1; omega, hp, g.1, g.2.2, g.2.1⟩
    · have e : ph = .pause := e
      subst e
      have := i3 rfl
      have hp : passed + 1 < s.d := hg.2
      refine ⟨this.1, this.2.1, by show 0 ≤ passed + 1; omega, hp, ?_⟩
      show got1 s ⟨.pause, told, passed, got⟩ air = 0
      unfold got1
      simp [this.2.2.2.2]
  · split
    · rename_i hn
      refine ⟨(fun e => by cases e), fun _ => ?_, (fun e => by cases e)⟩
      cases ph with
      | idle =>
        have := i1 rfl
        exact ⟨by show 0 ≤ told; omega, by show told < s.t; omega, Int.le_refl _, by show 0 < s.b; omega, Int.le_refl _, Int.le_refl _, by show 0 ≤ s.m; omega⟩
      | pause =>
        have := i3 rfl
        exact ⟨by show 0 ≤ told; omega, this.2.1, Int.le_refl _, by show 0 < s.b; omega, Int.le_refl _, Int.le_refl _, by show 0 ≤ s.m; omega⟩
      | call => exact absurd rfl hn
    · rename_i hn
      have hc : ph = .call := Classical.not_not.mp hn
      subst hc
      have := i2 rfl
      split
      · rename_i h
        have h2 : told + 1 < s.t := h.2
        exact ⟨(fun e => by cases e), (fun e => by cases e), fun _ => ⟨by show 1 ≤ told + 1; omega, h2, Int.le_refl _, by show 0 < s.d; omega, rfl⟩⟩
      · exact ⟨fun _ => ⟨rfl, rfl, rfl⟩, (fun e => by cases e), (fun e => by cases e)⟩
/-- the stand behind a tick -/
def nEar (r : Rcv) (e : Ear) (ps : List Prt) : Ear := earP r e (airF 0 ps (rowC r e.row))
def nPs (r : Rcv) (ss : List Snd) (e : Ear) (ps : List Prt) (cs : List Bool) : List Prt := stepsP ss ps cs (rowC r e.row) ss.length
theorem stepsP_len {ss : List Snd} {ps : List Prt} {cs : List Bool} {ch : Int} {k : Nat} : (stepsP ss ps cs ch k).length = k := by simp [stepsP]
theorem stepsP_get {ss : List Snd} {ps : List Prt} {cs : List Bool} {ch : Int} {k j : Nat} (h : j < k) : (stepsP ss ps cs ch k).getD j default = stepAt ss ps cs ch j := by
  rw [sel_D (by rw [stepsP_len]; exact h)]
  simp [stepsP]
theorem tick_ok {r : Rcv} {ss : List Snd} (ok : OkPl r ss) {e : Ear} {ps : List Prt} (o : OkSt r ss e ps) (cs : List Bool) : OkSt r ss (nEar r e ps) (nPs r ss e ps cs) := by
  refine ⟨earS_ok ok.rc o.er _, stepsP_len, fun k hk => ?_⟩
  unfold nPs
  rw [stepsP_get hk]
  exact stepP_ok (by rw [sel_D hk]; exact ok.sn _ (List.getElem_mem hk)) (o.pt k hk) _ _
theorem begin_ok {r : Rcv} {ss : List Snd} (ok : OkPl r ss) : OkSt r ss eaP0 (List.replicate ss.length ⟨.idle, 0, 0, 0⟩) := by
  have l1 := ok.rc.l1
  have h := ear_next (r := r) ok.rc (l := 0) (Int.le_refl _)
  rw [if_pos (by omega)] at h
  refine ⟨h, by simp, fun k hk => ?_⟩
  rw [sel_D (l := List.replicate ss.length _) (by simpa using hk), List.getElem_replicate]
  exact ⟨fun _ => ⟨rfl, rfl, rfl⟩, (fun e => by cases e), (fun e => by cases e)⟩
/-! as the program looks at them -/
theorem part_okB {s : Snd} (os : OkSnd s) {p : Prt} (op : OkPrt s p) : isPart s (ePrt p) = true := by
  obtain ⟨ph, told, passed, got⟩ := p
  obtain ⟨i1, i2, i3⟩ := op
  dsimp only at i1 i2 i3
  cases ph with
  | idle =>
    obtain ⟨rfl, rfl, rfl⟩ := i1 rfl
    have e0 : ¬ (("idle" : Str) == ("call" : Str)) = true := by decide +kernel
    have e1 : ¬ (("idle" : Str) == ("pause" : Str)) = true := by decide +kernel
    have e2 : (("idle" : Str) == ("idle" : Str)) = true := beq_self_eq_true _
    unfold isPart ePrt nm
    dsimp only
    rw [if_neg e0, if_neg e1, if_pos e2]
    rfl
  | call =>
    have := i2 rfl
    have e1 : (("call" : Str) == ("call" : Str)) = true := beq_self_eq_true _
    unfold isPart ePrt nm
    dsimp only
    rw [if_pos e1]
    simp only [within_int, Bool.and_eq_true, decide_eq_true_eq]
    refine ⟨⟨by omega, by omega⟩, ⟨by omega, by omega⟩, by omega, ?_⟩
    split <;> omega
  | pause =>
    have := i3 rfl
    have e0 : ¬ (("pause" : Str) == ("call" : Str)) = true := by decide +kernel
    have e1 : (("pause" : Str) == ("pause" : Str)) = true := beq_self_eq_true _
    unfold isPart ePrt nm
    dsimp only
    rw [if_neg e0, if_pos e1]
    simp only [within_int, Bool.and_eq_true, decide_eq_true_eq]
    omega
theorem ear_okB {r : Rcv} {e : Ear} (oe : OkEarS r e) : isEar r (eEar e) = true := by
  obtain ⟨h1, h2, h3, h4, h5, h6⟩ := oe
  unfold rowT at h4
  show (decide (0 ≤ e.row) && decide (e.row ≤ r.rows.length - 1) && (within (.int e.passed) 0 ((r.rows.getD e.row.toNat (0, 0)).2 - 1) && within (.int e.silent) (-1) (hangT r.hang))) = true
  simp only [within_int, Bool.and_eq_true, decide_eq_true_eq]
  omega
theorem zip_D : ∀ {ss : List Snd} {ps : List Prt} {z : PD}, ps.length = ss.length → z ∈ zipL (ss.map eSnd) (ps.map ePrt) → ∃ k, k < ss.length ∧ z = .tuple [eSnd (ss.getD k default), ePrt (ps.getD k default)]
  | [], ps, z, _, h => by simp [zipL] at h
  | s :: ss, [], z, hl, h => by simp at hl
  | s :: ss, p :: ps, z, hl, h => by
    simp only [List.map_cons, zipL] at h
    rcases List.mem_cons.mp h with e | h
    · exact ⟨0, by simp, e⟩
    · obtain ⟨k, hk, e⟩ := zip_D (by simpa using hl) h
      exact ⟨k + 1, by simp; omega, by simpa using e⟩
theorem stand_okB {r : Rcv} {ss : List Snd} (ok : OkPl r ss) {e : Ear} {ps : List Prt} (o : OkSt r ss e ps) : isStand r ss (eSt e ps) = true := by
  show (isEar r (eEar e) && (decide (((ps.map ePrt).length : Int) = ss.length) && allB gP (zipL (ss.map eSnd) (ps.map ePrt)))) = true
  rw [ear_okB o.er, Bool.true_and, Bool.and_eq_true, decide_eq_true_eq]
  refine ⟨by rw [List.length_map, o.len], List.all_eq_true.mpr fun z hz => ?_⟩
  obtain ⟨k, hk, rfl⟩ := zip_D o.len hz
  rw [gP_e]
  exact part_okB (by rw [sel_D hk]; exact ok.sn _ (List.getElem_mem hk)) (o.pt k hk)
end Er

set_option Elab.async false
set_option linter.all false
set_option maxRecDepth 100000
set_option maxHeartbeats 0
/-! S21: the program's small steps of a tick. -/
namespace Er
open PySem L2
variable {wf n : Nat}
theorem ifB_any {b : Bool} {x y : PD} {ρ : Rho} : ifB (some b) (.ok (OV.d x) ρ) (.ok (OV.d y) ρ) = .ok (OV.d (if b = true then x else y)) ρ := by cases b <;> rfl
theorem sel_at {α : Type} [Inhabited α] {f : α → PD} {l : List α} {i : Int} (h0 : 0 ≤ i) (h1 : i < l.length) : atI (l.map f) i = some (f (l.getD i.toNat default)) := by
  have hk : i.toNat < l.length := by omega
  rw [atI_of h0, List.getElem?_map, List.getElem?_eq_getElem hk, sel_D hk]
  rfl
theorem run_channel_of {r : Rcv} (ok : OkRcv r) {e : Ear} (oe : OkEar r e) : run Pt (gvOf Ct) wf (n + 1) 37 [.d (eRcv r), .d (eEar e)] = some (.ret (.int (rowC r e.row)), [.d (eRcv r), .d (eEar e)]) := by
  rw [run_of P_channel_of rfl]
  have e1 : atI (r.rows.map eRow) e.row = some (.tuple [.int (rowC r e.row), .int (rowT r e.row)]) := row_at oe.1 oe.2 ok.l1
  simp [d_channel_of, eRcv, eEar, e1]
def heardP (r : Rcv) (e : Ear) (ps : List Prt) : Option Int := if (ps.getD (rowC r e.row).toNat default).ph = .call then some (rowC r e.row) else none
theorem eO_if {c : Prop} [Decidable c] {i : Int} : eO (if c then some i else none) = if c then .int i else .none := by split <;> rfl
theorem run_heard_at {r : Rcv} {ss : List Snd} (ok : OkPl r ss) {e : Ear} (oe : OkEar r e) {ps : List Prt} (hp : ps.length = ss.length) :
    run Pt (gvOf Ct) wf (n + 2) 38 [.d (ePl r ss), .d (eSt e ps)] = some (.ret (eO (heardP r e ps)), [.d (ePl r ss), .d (eSt e ps)]) := by
  rw [run_of P_heard_at rfl]
  have h1 := run_channel_of (wf := wf) (n := n) ok.rc oe
  obtain ⟨c1, c2⟩ := rowC_ok ok oe.1 oe.2
  have h2 := sel_at (f := ePrt) c1 (by rw [hp]; exact c2)
  have h3 := nm_call (ps.getD (rowC r e.row).toNat default).ph
  unfold heardP
  simp only [ePl, eSt]
  generalize ps.getD (rowC r e.row).toNat default = p at h2 h3 ⊢
  simp [d_heard_at, h1, h2, ePrt, h3, setR, ifB_any, eO_if]
theorem run_entered {r : Rcv} (ok : OkRcv r) {i : Int} (h0 : 0 ≤ i) (h1 : i ≤ r.rows.length) : run Pt (gvOf Ct) wf (n + 1) 39 [.d (eRcv r), .d (.int i)] = some (.ret (eEar ⟨if i < r.rows.length then i else 0, 0, -1⟩), [.d (eRcv r), .d (.int i)]) := by
  rw [run_of P_entered rfl]
  have l1 := ok.l1
  have hm : i.fmod (r.rows.length : Int) = if i < r.rows.length then i else 0 := by
    split
    · rw [Int.fmod_eq_of_lt h0 (by omega)]
    · have : i = (r.rows.length : Int) := by omega
      rw [this, Int.fmod_self]
  have hb := bin_mod (i := i) (j := (r.rows.length : Int)) (by omega)
  rw [hm] at hb
  simp [d_entered, eRcv, hb, eEar]
theorem run_ear_behind {r : Rcv} (ok : OkRcv r) {e : Ear} (oe : OkEarS r e) (heard : Bool) : run Pt (gvOf Ct) wf (n + 2) 40 [.d (eRcv r), .d (eEar e), .d (.bool heard)] = some (.ret (eEar (earP r e heard)), [.d (eRcv r), .d (eEar e), .d (.bool heard)]) := by
  rw [run_of P_ear_behind rfl]
  obtain ⟨h1, h2, h3, h4, h5, h6⟩ := oe
  have e1 : atI (r.rows.map eRow) e.row = some (.tuple [.int (rowC r e.row), .int (rowT r e.row)]) := row_at h1 h2 ok.l1
  have en : ∀ i : Int, 0 ≤ i → i ≤ r.rows.length → _ := fun i a b => run_entered (wf := wf) (n := n) ok (i := i) a b
  have hnx := en (e.row + 1) (by omega) (by omega)
  have hbk : ∀ b, r.back = some b → _ := fun b eb => en b (ok.bk b eb).1 (by have := (ok.bk b eb).2; omega)
  obtain ⟨rows, hang, back⟩ := r
  obtain ⟨row, passed, silent⟩ := e
  simp only [eRcv, eEar] at e1 hnx hbk h1 h2 h3 h4 h5 h6 ⊢
  cases hang with
  | none =>
    simp only [eO_n] at hnx
    have hs : silent = -1 := by
      have : silent ≤ -1 := h6
      omega
    subst hs
    by_cases z : passed + 1 = rowT ⟨rows, none, back⟩ row
    · simp [d_ear_behind, e1, earP, z, hnx]
    · simp [d_ear_behind, e1, earP, z]
  | some h =>
    simp only [eO_s] at hnx
    cases heard with
    | true => simp [d_ear_behind, e1, earP]
    | false =>
      by_cases z : silent = -1
      · subst z
        by_cases z : passed + 1 = rowT ⟨rows, some h, back⟩ row
        · simp [d_ear_behind, e1, earP, z, hnx]
        · simp [d_ear_behind, e1, earP, z]
      · have z1 : 0 ≤ silent := by omega
        by_cases z2 : silent < h
        · have z3 : ¬ h < silent + 1 := by omega
          simp [d_ear_behind, e1, earP, z, z1, z2, z3]
        · have z3 : h < silent + 1 := by omega
          cases back with
          | none => simp only [eO_s, eO_n] at hnx; simp [d_ear_behind, e1, earP, z, z1, z2, z3, hnx]
          | some b =>
            have hb := hbk b rfl
            simp only [eO_s] at hb
            simp [d_ear_behind, e1, earP, z, z1, z2, z3, hb]
/-! one sender's part of a tick -/
theorem run_span_of {s : Snd} {p : Ph} (hp : p ≠ .idle) : run Pt (gvOf Ct) wf (n + 1) 41 [.d (eSnd s), .d (.str (nm p))] = some (.ret (.tuple [.int (loP s p), .int (highP s p)]), [.d (eSnd s), .d (.str (nm p))]) := by
  rw [run_of P_span_of rfl]
  have h := nm_call p
  cases p with
  | idle => exact absurd rfl hp
  | call => simp [d_span_of, eSnd, h, highP, loP]
  | pause => simp [d_span_of, eSnd, h, highP, loP]
theorem nm_idle (p : Ph) : cmpD .eq (.str (nm p)) (.str "idle") = some (decide (p = .idle)) := by
  rw [eqS (nm_sh p) sh_idle]
  cases p <;> decide +kernel
theorem nm_pause (p : Ph) : cmpD .eq (.str (nm p)) (.str "pause") = some (decide (p = .pause)) := by
  rw [eqS (nm_sh p) sh_pause]
  cases p <;> decide +kernel
theorem run_is_free {s : Snd} {p : Prt} (op : OkPrt s p) : run Pt (gvOf Ct) wf (n + 2) 42 [.d (eSnd s), .d (ePrt p)] = some (.ret (.bool (freeP s p)), [.d (eSnd s), .d (ePrt p)]) := by
  rw [run_of P_is_free rfl]
  obtain ⟨ph, told, passed, got⟩ := p
  have h := nm_idle ph
  have h2 : ph ≠ .idle → run Pt (gvOf Ct) wf (n + 1) 41 [.d (eSnd s), .d (.str (nm ph))] = some (.ret (.tuple [.int (loP s ph), .int (highP s ph)]), [.d (eSnd s), .d (.str (nm ph))]) := fun q => run_span_of q
  simp only [eSnd] at h2
  cases ph with
  | idle =>
    have := op.idle rfl
    have e : passed = 0 := this.2.1
    subst e
    simp [d_is_free, eSnd, ePrt, h, freeP, loP, highP]
  | call =>
    have h2 := h2 (by decide)
    have e : freeP s ⟨.call, told, passed, got⟩ = (decide (loP s .call ≤ passed + 1) && decide (passed + 1 < highP s .call)) := by
      unfold freeP
      rw [Bool.eq_iff_iff]
      simp only [Bool.and_eq_true, decide_eq_true_eq]
      omega
    rw [e]
    simp [d_is_free, eSnd, ePrt, h, h2]
  | pause =>
    have h2 := h2 (by decide)
    have e : freeP s ⟨.pause, told, passed, got⟩ = (decide (loP s .pause ≤ passed + 1) && decide (passed + 1 < highP s .pause)) := by
      unfold freeP
      rw [Bool.eq_iff_iff]
      simp only [Bool.and_eq_true, decide_eq_true_eq]
      omega
    rw [e]
    simp [d_is_free, eSnd, ePrt, h, h2]
theorem run_goes_on {s : Snd} {p : Prt} (op : OkPrt s p) (c : Bool) : run Pt (gvOf Ct) wf (n + 2) 44 [.d (eSnd s), .d (ePrt p), .d (.bool c)] = some (.ret (.bool (!goes s p c)), [.d (eSnd s), .d (ePrt p), .d (.bool c)]) := by
  rw [run_of P_goes_on rfl]
  obtain ⟨ph, told, passed, got⟩ := p
  have h := nm_nidle ph
  have h2 : ph ≠ .idle → run Pt (gvOf Ct) wf (n + 1) 41 [.d (eSnd s), .d (.str (nm ph))] = some (.ret (.tuple [.int (loP s ph), .int (highP s ph)]), [.d (eSnd s), .d (.str (nm ph))]) := fun q => run_span_of q
  simp only [eSnd] at h2
  cases c with
  | true => simp [d_goes_on, eSnd, ePrt, goes]
  | false =>
    cases ph with
    | idle =>
      have := op.idle rfl
      have e : passed = 0 := this.2.1
      subst e
      simp [d_goes_on, eSnd, ePrt, h, goes, highP, pas1]
    | call =>
      have h2 := h2 (by decide)
      have o := op.call rfl
      dsimp only at o
      have e : goes s ⟨.call, told, passed, got⟩ false = !decide (passed + 1 = s.b) := by
        unfold goes pas1 highP
        rw [Bool.eq_iff_iff]
        simp
        omega
      rw [e]
      simp [d_goes_on, eSnd, ePrt, h, h2, highP]
    | pause =>
      have h2 := h2 (by decide)
      have o := op.pause rfl
      dsimp only at o
      have e : goes s ⟨.pause, told, passed, got⟩ false = !decide (passed + 1 = s.d) := by
        unfold goes pas1 highP
        rw [Bool.eq_iff_iff]
        simp
        omega
      rw [e]
      simp [d_goes_on, eSnd, ePrt, h, h2, highP]
theorem run_sender_behind {s : Snd} (os : OkSnd s) {p : Prt} (op : OkPrt s p) (c air : Bool) : run Pt (gvOf Ct) wf (n + 1) 45 [.d (eSnd s), .d (ePrt p), .d (.int (got1 s p air)), .d (.bool (!goes s p c))] = some (.ret (ePrt (stepP s p c air)), [.d (eSnd s), .d (ePrt p), .d (.int (got1 s p air)), .d (.bool (!goes s p c))]) := by
  rw [run_of P_sender_behind rfl]
  have g1 := got1_le os op air
  obtain ⟨ph, told, passed, got⟩ := p
  have h := nm_idle ph
  have h3 := nm_pause ph
  have n1 : nm .call = ("call" : Str) := rfl
  have n2 : nm .pause = ("pause" : Str) := rfl
  have n3 : nm .idle = ("idle" : Str) := rfl
  unfold stepP
  cases hg : goes s ⟨ph, told, passed, got⟩ c with
  | true =>
    cases ph with
    | idle =>
      obtain ⟨a1, a2, a3⟩ := op.idle rfl
      have a1 : told = 0 := a1
      have a2 : passed = 0 := a2
      have a3 : got = 0 := a3
      subst a1 a2 a3
      simp [d_sender_behind, eSnd, ePrt, h, pas1, got1]
    | call => simp [d_sender_behind, eSnd, ePrt, h, pas1]
    | pause => simp [d_sender_behind, eSnd, ePrt, h, pas1]
  | false =>
    cases ph with
    | idle =>
      have a1 : told = 0 := (op.idle rfl).1
      subst a1
      simp [d_sender_behind, eSnd, ePrt, h, n1]
    | pause => simp [d_sender_behind, eSnd, ePrt, h, h3, n1]
    | call =>
      have g := g1 rfl
      have o := op.call rfl
      dsimp only at o g
      generalize got1 s ⟨.call, told, passed, got⟩ air = g0 at g ⊢
      by_cases z : g0 < s.m ∧ told + 1 < s.t
      · have z1 : ¬ g0 = s.m := by omega
        have z2 : ¬ told + 1 = s.t := by omega
        simp [d_sender_behind, eSnd, ePrt, h, h3, n2, z, z1, z2]
      · have z1 : g0 = s.m ∨ told + 1 = s.t := by omega
        simp [d_sender_behind, eSnd, ePrt, h, h3, n3, z, z1]
end Er

set_option Elab.async false
set_option linter.all false
set_option maxRecDepth 100000
set_option maxHeartbeats 0
/-! S22: choices, what was heard, the stand behind a tick, as the program makes them. -/
namespace Er
open PySem L2
section
variable {cl : Call} {mt : Nat → List Bool} {gv : Nat → PD} {wf : Nat}
theorem ev_comp2 {e : Ex} {t t2 : Tg} {it it2 : Er.It} {own : List Nat} {ρ : Rho} : ev cl mt gv (.comp2 e t it t2 it2 own) ρ = (evIt cl mt gv it ρ).bind fun xs ρ => fin1 own ρ (loopC2 t own (fun ρ => (evIt cl mt gv it2 ρ).bind fun ys ρ => loopC t2 (tgS t2) (fun ρ => .ok (.d (.bool true)) ρ) (ev cl mt gv e) ys ρ) xs ρ) := rfl
/-- a comprehension of two clauses that changes nothing -/
theorem comp2_all {e : Ex} {t t2 : Tg} {it it2 : Er.It} {own : List Nat} {ρ : Rho} {xs : List PD} (ys : PD → List PD) (g : PD → PD → PD) (hi : evIt cl mt gv it ρ = .ok xs ρ) (hl : (xs.flatMap fun x => (ys x).map (g x)).length ≤ lim) (ht : ∀ i ∈ tgS t2, i ∈ own)
    (h : ∀ x ∈ xs, ∃ ρ1, asgR t x (wipeR ρ own) = some ρ1 ∧ wipeR ρ1 own = wipeR ρ own ∧ evIt cl mt gv it2 ρ1 = .ok (ys x) ρ1 ∧ ∀ y ∈ ys x, ∃ ρ2, asgR t2 y (wipeR ρ1 (tgS t2)) = some ρ2 ∧ wipeR ρ2 (tgS t2) = wipeR ρ1 (tgS t2) ∧ ev cl mt gv e ρ2 = .ok (.d (g x y)) ρ2) :
    ev cl mt gv (.comp2 e t it t2 it2 own) ρ = .ok (.d (.list (xs.flatMap fun x => (ys x).map (g x)))) ρ := by
  have key : ∀ (zs : List PD) (ρ' : Rho), (∀ x ∈ zs, x ∈ xs) → wipeR ρ' own = wipeR ρ own → ∃ ρ'', loopC2 t own (fun ρ => (evIt cl mt gv it2 ρ).bind fun ys ρ => loopC t2 (tgS t2) (fun ρ => .ok (.d (.bool true)) ρ) (ev cl mt gv e) ys ρ) zs ρ' = .ok (zs.flatMap fun x => (ys x).map (g x)) ρ'' ∧ wipeR ρ'' own = wipeR ρ own := by
    intro zs
    induction zs with
    | nil => exact fun ρ' _ w => ⟨ρ', rfl, w⟩
    | cons x zs ih =>
      intro ρ' hm w
      obtain ⟨ρ1, h1, h2, h3, h4⟩ := h x (hm x (by simp))
      obtain ⟨ρ3, h5, h6⟩ := loopC_pure (tg := t2) (own := tgS t2) (c := fun ρ => .ok (.d (.bool true)) ρ) (e := ev cl mt gv e) (ρ0 := wipeR ρ1 (tgS t2)) (fun _ => true) (g x) (ys x) ρ1 rfl fun y hy => by
        obtain ⟨ρ2, k1, k2, k3⟩ := h4 y hy
        exact ⟨ρ2, k1, k2, rfl, fun _ => k3⟩
      rw [List.filter_eq_self.mpr (fun _ _ => rfl)] at h5
      have w3 : wipeR ρ3 own = wipeR ρ own := by
        rw [← wipeR_sub (ρ := ρ3) ht, h6, wipeR_sub ht, h2]
      obtain ⟨ρ4, h7, h8⟩ := ih ρ3 (fun y hy => hm y (by simp [hy])) w3
      refine ⟨ρ4, ?_, h8⟩
      rw [loopC2, w, h1]
      simp [h3, h5, h7]
  obtain ⟨ρ', h1, h2⟩ := key xs ρ (fun _ h => h) rfl
  rw [ev_comp2, hi, R.bind_ok, h1, fin1_ok, if_pos hl, backR_wipe h2]
end
variable {wf n : Nat}
/-! choices -/
def chStep (L : List (List Bool)) (f : Bool) : List (List Bool) := L.flatMap fun row => (if f = true then [false, true] else [false]).map fun b => row ++ [b]
def frees (ss : List Snd) (ps : List Prt) (k : Nat) : List Bool := (List.range k).map fun j => freeP (ss.getD j default) (ps.getD j default)
def chAll (fs : List Bool) : List (List Bool) := fs.foldl chStep [[]]
theorem chStep_len {L : List (List Bool)} {f : Bool} {k : Nat} (h : ∀ c ∈ L, c.length = k) : ∀ c ∈ chStep L f, c.length = k + 1 := fun c hc => by
  obtain ⟨row, hr, hc⟩ := List.mem_flatMap.mp hc
  obtain ⟨b, _, rfl⟩ := List.mem_map.mp hc
  simp [h row hr]
theorem chStep_size {L : List (List Bool)} {f : Bool} : (chStep L f).length ≤ 2 * L.length := by
  unfold chStep
  induction L with
  | nil => simp
  | cons x L ih =>
    rw [List.flatMap_cons, List.length_append, List.length_cons]
    cases f <;> simp at ih ⊢ <;> omega
theorem chAll_snoc {fs : List Bool} {f : Bool} : chAll (fs ++ [f]) = chStep (chAll fs) f := by simp [chAll]
theorem chAll_len : ∀ {fs : List Bool}, (∀ c ∈ chAll fs, c.length = fs.length) ∧ (chAll fs).length ≤ 2 ^ fs.length := by
  intro fs
  have key : ∀ (gs : List Bool) (L : List (List Bool)) (k : Nat), (∀ c ∈ L, c.length = k) → (∀ c ∈ gs.foldl chStep L, c.length = k + gs.length) ∧ (gs.foldl chStep L).length ≤ L.length * 2 ^ gs.length := by
    intro gs
    induction gs with
    | nil => exact fun L k h => ⟨by simpa using h, by simp⟩
    | cons f gs ih =>
      intro L k h
      obtain ⟨h1, h2⟩ := ih (chStep L f) (k + 1) (chStep_len h)
      refine ⟨fun c hc => by rw [h1 c hc, List.length_cons]; omega, Nat.le_trans h2 ?_⟩
      have := chStep_size (L := L) (f := f)
      rw [List.length_cons, Nat.pow_succ]
      calc (chStep L f).length * 2 ^ gs.length ≤ (2 * L.length) * 2 ^ gs.length := Nat.mul_le_mul_right _ this
        _ = L.length * (2 ^ gs.length * 2) := by rw [Nat.mul_comm 2 L.length, Nat.mul_assoc, Nat.mul_comm 2]
  obtain ⟨h1, h2⟩ := key fs [[]] 0 (by simp)
  exact ⟨fun c hc => by have := h1 c hc; omega, by simpa [chAll] using h2⟩
theorem frees_len {ss : List Snd} {ps : List Prt} {k : Nat} : (frees ss ps k).length = k := by simp [frees]
theorem frees_snoc {ss : List Snd} {ps : List Prt} {k : Nat} : frees ss ps (k + 1) = frees ss ps k ++ [freeP (ss.getD k default) (ps.getD k default)] := by simp [frees, List.range_succ]
def unB (x : PD) : Bool := match x with
  | .bool b => b
  | _ => false
def addC (x y : PD) : PD := match x, y with
  | .tuple l, b => .tuple (l ++ [b])
  | _, _ => .none
theorem chStep_map (L : List (List Bool)) (f : Bool) : ((L.map eCh).flatMap fun x => ((if f = true then [PyData.bool false, .bool true] else [.bool false]) : List PD).map (addC x)) = (chStep L f).map eCh := by
  unfold chStep
  induction L with
  | nil => rfl
  | cons x L ih =>
    rw [List.map_cons, List.flatMap_cons, List.flatMap_cons, List.map_append, ih]
    congr 1
    cases f <;> simp [addC, eCh]
theorem cm_choices {a0 a1 a3 a4 : SV} {L : List (List Bool)} {k : Nat} {f : Bool} (hk : ∀ c ∈ L, c.length = k) (hk2 : k ≤ 900) (hl : L.length ≤ 400) :
    ev (run Pt (gvOf Ct) wf n) (mtOf Pt) (gvOf Ct) cm_choices_of_0 [a0, a1, .d (.list (L.map eCh)), a3, a4, .d (.list (if f = true then [.bool false, .bool true] else [.bool false])), .un, .un] =
    .ok (.d (.list ((chStep L f).map eCh))) [a0, a1, .d (.list (L.map eCh)), a3, a4, .d (.list (if f = true then [.bool false, .bool true] else [.bool false])), .un, .un] := by
  have hlim := lim_ge
  rw [← chStep_map]
  refine comp2_all (own := [6, 7]) (xs := L.map eCh) (fun _ => if f = true then [.bool false, .bool true] else [.bool false]) addC (by simp) ?_ (fun i hi => by simp [tgS] at hi; simp [hi]) fun x hx => ?_
  · rw [chStep_map, List.length_map]
    have := chStep_size (L := L) (f := f)
    omega
  · obtain ⟨c, hc, rfl⟩ := List.mem_map.mp hx
    have := hk c hc
    refine ⟨[a0, a1, .d (.list (L.map eCh)), a3, a4, .d (.list (if f = true then [.bool false, .bool true] else [.bool false])), .d (eCh c), .un], by simp, by simp, by simp, fun y hy => ?_⟩
    have e := bin_addT (x := c.map .bool) (y := [y]) (by simp; omega)
    exact ⟨[a0, a1, .d (.list (L.map eCh)), a3, a4, .d (.list (if f = true then [.bool false, .bool true] else [.bool false])), .d (eCh c), .d y], by simp [tgS], by simp [tgS], by simp [eCh, e, addC]⟩
theorem zip_at {ss : List Snd} {ps : List Prt} {k : Nat} {x : PD} (hp : ps.length = ss.length) (hx : (zipL (ss.map eSnd) (ps.map ePrt))[k]? = some x) : k < ss.length ∧ x = .tuple [eSnd (ss.getD k default), ePrt (ps.getD k default)] := by
  have hk : k < ss.length := by
    have := (List.getElem?_eq_some_iff.mp hx).1
    rw [zipL_length, List.length_map, List.length_map] at this
    omega
  have z := zipL_get (ss.map eSnd) (ps.map ePrt) k (eSnd ss[k]) (ePrt (ps[k]'(by omega))) (by rw [List.getElem?_map, List.getElem?_eq_getElem hk]; rfl) (by rw [List.getElem?_map, List.getElem?_eq_getElem (by omega)]; rfl)
  rw [hx] at z
  rw [sel_D hk, sel_D (by omega)]
  exact ⟨hk, Option.some.inj z⟩
theorem run_choices_of {r : Rcv} {ss : List Snd} (ok : OkPl r ss) {e : Ear} {ps : List Prt} (o : OkSt r ss e ps) :
    run Pt (gvOf Ct) wf (n + 3) 43 [.d (ePl r ss), .d (eSt e ps)] = some (.ret (.list ((chAll (frees ss ps ss.length)).map eCh)), [.d (ePl r ss), .d (eSt e ps)]) := by
  have n3 := ok.n3
  have hp := o.len
  rw [run_of P_choices_of rfl]
  obtain ⟨ρ', hl, x3, x4, x5, er, t3, t4, t5⟩ := loopF_ind (t := .t [.n 3, .n 4]) (body := execs (run Pt (gvOf Ct) wf (n + 2)) (mtOf Pt) (gvOf Ct) wf bd_choices_of_0) (xs := zipL (ss.map eSnd) (ps.map ePrt))
    (fun k ρ => ∃ x3 x4 x5 : SV, ρ = [.d (ePl r ss), .d (eSt e ps), .d (.list ((chAll (frees ss ps k)).map eCh)), x3, x4, x5, .un, .un] ∧ stor (some x3) = true ∧ stor (some x4) = true ∧ stor (some x5) = true)
    (fun k x ρ hx ⟨x3, x4, x5, er, t3, t4, t5⟩ => by
      subst er
      obtain ⟨hk, rfl⟩ := zip_at hp hx
      obtain ⟨c1, c2⟩ := chAll_len (fs := frees ss ps k)
      rw [frees_len] at c1 c2
      have hk2 : k = 0 ∨ k = 1 ∨ k = 2 := by omega
      have hL : (chAll (frees ss ps k)).length ≤ 400 := by rcases hk2 with e | e | e <;> subst e <;> simp at c2 <;> omega
      have f1 := run_is_free (wf := wf) (n := n) (s := ss.getD k default) (o.pt k hk)
      have cc := cm_choices (wf := wf) (n := n + 2) (a0 := .d (ePl r ss)) (a1 := .d (eSt e ps)) (a3 := .d (eSnd (ss.getD k default))) (a4 := .d (ePrt (ps.getD k default))) (f := freeP (ss.getD k default) (ps.getD k default)) c1 (by omega) hL
      refine ⟨[.d (ePl r ss), .d (eSt e ps), .d (.list ((chAll (frees ss ps k)).map eCh)), .d (eSnd (ss.getD k default)), .d (ePrt (ps.getD k default)), x5, .un, .un], _, by simp [t3, t4], ?_, .d (eSnd (ss.getD k default)), .d (ePrt (ps.getD k default)), .d (.list (if freeP (ss.getD k default) (ps.getD k default) = true then [.bool false, .bool true] else [.bool false])), rfl, rfl, rfl, rfl⟩
      rw [frees_snoc, chAll_snoc]
      generalize ss.getD k default = s0 at f1 cc ⊢
      generalize ps.getD k default = p0 at f1 cc ⊢
      cases hf : freeP s0 p0 <;> rw [hf] at f1 cc <;> simp at cc <;> simp [bd_choices_of_0, f1, setR, t5, cc]) [.d (ePl r ss), .d (eSt e ps), .d (.list [.tuple []]), .un, .un, .un, .un, .un] ⟨.un, .un, .un, rfl, rfl, rfl, rfl⟩
  rw [zipL_length, List.length_map, List.length_map, hp, Nat.min_self] at er
  subst er
  simp only [ePl, eSt] at hl ⊢
  simp [d_choices_of, setR, ex_for, hl]
end Er

set_option Elab.async false
set_option linter.all false
set_option maxRecDepth 100000
set_option maxHeartbeats 0
/-! S23: the stand behind a tick, who is heard, who is missed, as the program reckons them. -/
namespace Er
open PySem L2
variable {wf n : Nat}
def enzip1 (x y : OV) (ρ : Rho) : R (List PD) := match x, y with
  | .d (.tuple xs), .d (.tuple ys) => .ok (enumL 0 (zipL xs ys)) ρ
  | _, _ => .stuck
@[simp] theorem enzip1_t {x y : List PD} {ρ : Rho} : enzip1 (.d (.tuple x)) (.d (.tuple y)) ρ = .ok (enumL 0 (zipL x y)) ρ := rfl
@[simp] theorem evIt_enumZip {cl : Call} {mt : Nat → List Bool} {gv : Nat → PD} {ρ : Rho} {a b : Ex} : evIt cl mt gv (.enumZip a b) ρ = (ev cl mt gv a ρ).bind fun x ρ => (ev cl mt gv b ρ).bind fun y ρ => enzip1 x y ρ := rfl
theorem airF_at (ch : Int) : ∀ (ps : List Prt) (i : Nat), (i : Int) ≤ ch → ch < i + ps.length → airF i ps ch = decide ((ps.getD (ch.toNat - i) default).ph = .call)
  | [], i, h1, h2 => by
    simp at h2
    omega
  | p :: ps, i, h1, h2 => by
    rw [airF]
    have rest : (i : Int) + 1 ≤ ch → airF (i + 1) ps ch = decide ((ps.getD (ch.toNat - (i + 1)) default).ph = .call) := fun h => airF_at ch ps (i + 1) (by omega) (by rw [List.length_cons] at h2; omega)
    by_cases z : (i : Int) = ch
    · have e : ch.toNat - i = 0 := by omega
      have none_later : ∀ (qs : List Prt) (j : Nat), ch < j → airF j qs ch = false := fun qs => by
        induction qs with
        | nil => exact fun _ _ => rfl
        | cons q qs ih =>
          intro j hj
          rw [airF, ih (j + 1) (by omega), decide_eq_false (show ¬ (j : Int) = ch by omega)]
          simp
      rw [e, none_later ps (i + 1) (by omega), decide_eq_true z]
      simp
    · have e : ch.toNat - i = (ch.toNat - (i + 1)) + 1 := by omega
      rw [e, rest (by omega), decide_eq_false z]
      simp
theorem air_eq {r : Rcv} {ss : List Snd} (ok : OkPl r ss) {e : Ear} {ps : List Prt} (o : OkSt r ss e ps) : airF 0 ps (rowC r e.row) = decide ((ps.getD (rowC r e.row).toNat default).ph = .call) := by
  obtain ⟨c1, c2⟩ := rowC_ok ok o.er.row0 o.er.row1
  have := airF_at (rowC r e.row) ps 0 c1 (by rw [o.len]; omega)
  rwa [Nat.sub_zero] at this
theorem isN_heard {r : Rcv} {e : Ear} {ps : List Prt} : (!isNone (eO (heardP r e ps))) = decide ((ps.getD (rowC r e.row).toNat default).ph = .call) := by
  unfold heardP
  split <;> simp_all
@[simp] theorem cmp_eqN {i : Int} : cmpD .eq (.int i) .none = some false := by
  show (if shaped (.int i) = true ∧ shaped .none = true then some (PyData.eqv (.int i) .none) else none) = _
  rw [if_pos ⟨sh_int, by decide⟩]
  rfl
def gotsP (ss : List Snd) (ps : List Prt) (ch : Int) (k : Nat) : List Int := (List.range k).map fun j => got1 (ss.getD j default) (ps.getD j default) (decide ((j : Int) = ch))
theorem gotsP_snoc {ss : List Snd} {ps : List Prt} {ch : Int} {k : Nat} : gotsP ss ps ch (k + 1) = gotsP ss ps ch k ++ [got1 (ss.getD k default) (ps.getD k default) (decide ((k : Int) = ch))] := by simp [gotsP, List.range_succ]
theorem gotsP_len {ss : List Snd} {ps : List Prt} {ch : Int} {k : Nat} : (gotsP ss ps ch k).length = k := by simp [gotsP]
theorem gotsP_at {ss : List Snd} {ps : List Prt} {ch : Int} {k j : Nat} (h : j < k) : atI ((gotsP ss ps ch k).map PyData.int) (j : Int) = some (.int (got1 (ss.getD j default) (ps.getD j default) (decide ((j : Int) = ch)))) := by
  rw [atI_ofNat, List.getElem?_map, List.getElem?_eq_getElem (by rw [gotsP_len]; exact h)]
  simp [gotsP]
/-- what a sender's got is, by the program -/
theorem got_same {s : Snd} {p : Prt} (op : OkPrt s p) (os : OkSnd s) {b : Bool} (air : Bool) (hb : b = (decide (p.ph = .call) && air)) : (if p.got + (if b = true then 1 else 0) < s.m then p.got + (if b = true then 1 else 0) else s.m) = got1 s p air := by
  obtain ⟨ph, told, passed, got⟩ := p
  unfold got1
  have m1 := os.m1
  subst hb
  cases ph with
  | idle =>
    have := (op.idle rfl).2.2
    have e : got = 0 := this
    subst e
    simp
    omega
  | pause =>
    have := (op.pause rfl).2.2.2.2
    have e : got = 0 := this
    subst e
    simp
    omega
  | call =>
    have o := op.call rfl
    dsimp only at o
    cases air with
    | false =>
      simp
      omega
    | true =>
      by_cases z : got < s.m
      · simp [z]
        omega
      · simp [z]
        omega
theorem enz_at {ss : List Snd} {ps : List Prt} {k : Nat} {x : PD} (hp : ps.length = ss.length) (hx : (enumL 0 (zipL (ss.map eSnd) (ps.map ePrt)))[k]? = some x) : k < ss.length ∧ x = .tuple [.int k, .tuple [eSnd (ss.getD k default), ePrt (ps.getD k default)]] := by
  have hk : k < (zipL (ss.map eSnd) (ps.map ePrt)).length := by
    have := (List.getElem?_eq_some_iff.mp hx).1
    rwa [enumL_len] at this
  obtain ⟨h1, h2⟩ := zip_at hp (List.getElem?_eq_getElem hk)
  have z := enumL_get (zipL (ss.map eSnd) (ps.map ePrt)) 0 k _ (List.getElem?_eq_getElem hk)
  rw [hx, h2, Nat.zero_add] at z
  exact ⟨h1, Option.some.inj z⟩
theorem enz_len {ss : List Snd} {ps : List Prt} (hp : ps.length = ss.length) : (enumL 0 (zipL (ss.map eSnd) (ps.map ePrt))).length = ss.length := by
  rw [enumL_len, zipL_length, List.length_map, List.length_map, hp, Nat.min_self]
theorem num_heard {r : Rcv} {e : Ear} {ps : List Prt} {k : Nat} : cmpD .eq (.int (k : Int)) (eO (heardP r e ps)) = some (decide ((ps.getD k default).ph = .call) && decide ((k : Int) = rowC r e.row)) := by
  unfold heardP
  by_cases z : (k : Int) = rowC r e.row
  · have hk : (rowC r e.row).toNat = k := by omega
    rw [hk]
    split
    · rename_i h
      simp [-List.getD_eq_getElem?_getD, z, h]
    · rename_i h
      simp [-List.getD_eq_getElem?_getD, h]
  · split <;> simp [z]
theorem run_got_by {r : Rcv} {ss : List Snd} (ok : OkPl r ss) {e : Ear} {ps : List Prt} (o : OkSt r ss e ps) :
    run Pt (gvOf Ct) wf (n + 3) 46 [.d (ePl r ss), .d (eSt e ps)] = some (.ret (.list ((gotsP ss ps (rowC r e.row) ss.length).map .int)), [.d (ePl r ss), .d (eSt e ps)]) := by
  have n3 := ok.n3
  have hp := o.len
  have hlim := lim_ge
  rw [run_of P_got_by rfl]
  obtain ⟨ρ', hl, x4, x5, x6, er, t4, t5, t6⟩ := loopF_ind (t := .t [.n 4, .t [.n 5, .n 6]]) (body := execs (run Pt (gvOf Ct) wf (n + 2)) (mtOf Pt) (gvOf Ct) wf bd_got_by_0) (xs := enumL 0 (zipL (ss.map eSnd) (ps.map ePrt)))
    (fun k ρ => ∃ x4 x5 x6 : SV, ρ = [.d (ePl r ss), .d (eSt e ps), .d (eO (heardP r e ps)), .o (.lst ((gotsP ss ps (rowC r e.row) k).map .int)), x4, x5, x6] ∧ stor (some x4) = true ∧ stor (some x5) = true ∧ stor (some x6) = true)
    (fun k x ρ hx ⟨x4, x5, x6, er, t4, t5, t6⟩ => by
      subst er
      obtain ⟨hk, rfl⟩ := enz_at hp hx
      have os : OkSnd (ss.getD k default) := by rw [sel_D hk]; exact ok.sn _ (List.getElem_mem hk)
      have g := got_same (o.pt k hk) os (decide ((k : Int) = rowC r e.row)) rfl
      have nh := num_heard (r := r) (e := e) (ps := ps) (k := k)
      have l1 : (gotsP ss ps (rowC r e.row) k).length < lim := by rw [gotsP_len]; omega
      refine ⟨[.d (ePl r ss), .d (eSt e ps), .d (eO (heardP r e ps)), .o (.lst ((gotsP ss ps (rowC r e.row) k).map .int)), .d (.int k), .d (eSnd (ss.getD k default)), .d (ePrt (ps.getD k default))], _, by simp [t4, t5, t6], ?_, .d (.int k), .d (eSnd (ss.getD k default)), .d (ePrt (ps.getD k default)), rfl, rfl, rfl, rfl⟩
      rw [gotsP_snoc, ← g]
      generalize ss.getD k default = s0 at nh ⊢
      generalize ps.getD k default = p0 at nh ⊢
      simp [bd_got_by_0, nh, eSnd, ePrt, l1]) [.d (ePl r ss), .d (eSt e ps), .d (eO (heardP r e ps)), .o (.lst []), .un, .un, .un] ⟨.un, .un, .un, rfl, rfl, rfl, rfl⟩
  rw [enz_len hp] at er
  subst er
  have h1 := run_heard_at (wf := wf) (n := n) ok o.er.ear hp
  simp only [ePl, eSt] at hl h1 ⊢
  simp [d_got_by, setR, ex_for, hl, h1]
/-! the stand behind a tick -/
theorem stepsP_snoc {ss : List Snd} {ps : List Prt} {cs : List Bool} {ch : Int} {k : Nat} : stepsP ss ps cs ch (k + 1) = stepsP ss ps cs ch k ++ [stepAt ss ps cs ch k] := by simp [stepsP, List.range_succ]
theorem ch_at {cs : List Bool} {k : Nat} (h : k < cs.length) : atI (cs.map PyData.bool) (k : Int) = some (.bool (cs.getD k false)) := by
  rw [atI_ofNat, List.getElem?_map, List.getD_eq_getElem?_getD, List.getElem?_eq_getElem h]
  rfl
theorem run_behind {r : Rcv} {ss : List Snd} (ok : OkPl r ss) {e : Ear} {ps : List Prt} (o : OkSt r ss e ps) {cs : List Bool} (hc : cs.length = ss.length) :
    run Pt (gvOf Ct) wf (n + 4) 47 [.d (ePl r ss), .d (eSt e ps), .d (eCh cs)] = some (.ret (eSt (nEar r e ps) (nPs r ss e ps cs)), [.d (ePl r ss), .d (eSt e ps), .d (eCh cs)]) := by
  have n3 := ok.n3
  have hp := o.len
  have hlim := lim_ge
  rw [run_of P_behind rfl]
  obtain ⟨ρ', hl, x5, x6, x7, er, t5, t6, t7⟩ := loopF_ind (t := .t [.n 5, .t [.n 6, .n 7]]) (body := execs (run Pt (gvOf Ct) wf (n + 3)) (mtOf Pt) (gvOf Ct) wf bd_behind_0) (xs := enumL 0 (zipL (ss.map eSnd) (ps.map ePrt)))
    (fun k ρ => ∃ x5 x6 x7 : SV, ρ = [.d (ePl r ss), .d (eSt e ps), .d (eCh cs), .d (.list ((gotsP ss ps (rowC r e.row) ss.length).map .int)), .o (.lst ((stepsP ss ps cs (rowC r e.row) k).map ePrt)), x5, x6, x7] ∧ stor (some x5) = true ∧ stor (some x6) = true ∧ stor (some x7) = true)
    (fun k x ρ hx ⟨x5, x6, x7, er, t5, t6, t7⟩ => by
      subst er
      obtain ⟨hk, rfl⟩ := enz_at hp hx
      have os : OkSnd (ss.getD k default) := by rw [sel_D hk]; exact ok.sn _ (List.getElem_mem hk)
      have l1 : (stepsP ss ps cs (rowC r e.row) k).length < lim := by rw [stepsP_len]; omega
      have g1 := gotsP_at (ss := ss) (ps := ps) (ch := rowC r e.row) hk
      have g2 := ch_at (cs := cs) (k := k) (by omega)
      have g3 := run_goes_on (wf := wf) (n := n + 1) (o.pt k hk) (cs.getD k false)
      have g4 := run_sender_behind (wf := wf) (n := n + 2) os (o.pt k hk) (cs.getD k false) (decide ((k : Int) = rowC r e.row))
      refine ⟨[.d (ePl r ss), .d (eSt e ps), .d (eCh cs), .d (.list ((gotsP ss ps (rowC r e.row) ss.length).map .int)), .o (.lst ((stepsP ss ps cs (rowC r e.row) k).map ePrt)), .d (.int k), .d (eSnd (ss.getD k default)), .d (ePrt (ps.getD k default))], _, by simp [t5, t6, t7], ?_, .d (.int k), .d (eSnd (ss.getD k default)), .d (ePrt (ps.getD k default)), rfl, rfl, rfl, rfl⟩
      rw [stepsP_snoc]
      unfold stepAt
      generalize ss.getD k default = s0 at g1 g3 g4 ⊢
      generalize ps.getD k default = p0 at g1 g3 g4 ⊢
      generalize cs.getD k false = c0 at g2 g3 g4 ⊢
      simp [bd_behind_0, g1, eCh, g2, g3, g4, l1]) [.d (ePl r ss), .d (eSt e ps), .d (eCh cs), .d (.list ((gotsP ss ps (rowC r e.row) ss.length).map .int)), .o (.lst []), .un, .un, .un] ⟨.un, .un, .un, rfl, rfl, rfl, rfl⟩
  rw [enz_len hp] at er
  subst er
  have h1 := run_heard_at (wf := wf) (n := n + 1) ok o.er.ear hp
  have h2 := run_got_by (wf := wf) (n := n) ok o
  have h3 := run_ear_behind (wf := wf) (n := n + 1) ok.rc o.er (airF 0 ps (rowC r e.row))
  have h4 := isN_heard (r := r) (e := e) (ps := ps)
  rw [← air_eq ok o] at h4
  unfold nEar nPs
  simp only [ePl, eSt] at hl h1 h2 ⊢
  simp [d_behind, setR, ex_for, hl, h1, h2, h4, h3]
end Er

set_option Elab.async false
set_option linter.all false
set_option maxRecDepth 100000
set_option maxHeartbeats 0
/-! S24: whose message ends with a tick, as the program reckons it. -/
namespace Er
open PySem L2
variable {wf n : Nat}
theorem hear_same {s : Snd} {p : Prt} (op : OkPrt s p) (air : Bool) : hearP s p air = (decide (p.ph = .call) && (decide (p.got < s.m) && decide (s.m = got1 s p air))) := by
  obtain ⟨ph, told, passed, got⟩ := p
  unfold hearP got1
  cases ph with
  | idle => simp
  | pause => simp
  | call =>
    have o := op.call rfl
    dsimp only at o
    by_cases z : got < s.m
    · cases air with
      | false =>
        have : ¬ s.m = got := by omega
        simp [z, this]
      | true =>
        rw [Bool.eq_iff_iff]
        simp [z]
        omega
    · simp [z]
theorem miss_same {s : Snd} {p : Prt} (op : OkPrt s p) (c air : Bool) : missP s p c air = (decide (p.ph = .call) && ((decide (p.told + 1 = s.t) && !goes s p c) && decide (got1 s p air < s.m))) := by
  obtain ⟨ph, told, passed, got⟩ := p
  unfold missP
  cases ph with
  | idle => simp
  | pause => simp
  | call =>
    have o := op.call rfl
    dsimp only at o
    generalize got1 s _ air = g
    cases goes s ⟨.call, told, passed, got⟩ c with
    | true => simp
    | false =>
      rw [Bool.eq_iff_iff]
      simp
      omega
theorem bd_ends {v w x7 : SV} {cs : List Bool} {gs : List Int} {hs ms : List PD} {k : Nat} {s : Snd} {p : Prt} {c air : Bool} (os : OkSnd s) (op : OkPrt s p) (h1 : atI (gs.map PyData.int) (k : Int) = some (.int (got1 s p air))) (h2 : atI (cs.map PyData.bool) (k : Int) = some (.bool c)) (l1 : hs.length ≤ 900) (l2 : ms.length ≤ 900) (t7 : stor (some x7) = true) :
    execs (run Pt (gvOf Ct) wf (n + 3)) (mtOf Pt) (gvOf Ct) wf bd_ends_by_0 [v, w, .d (eCh cs), .d (.list (gs.map .int)), .d (.tuple hs), .d (.tuple ms), .d (.int k), x7, .d (eSnd s), .d (ePrt p)] =
    .ok .next [v, w, .d (eCh cs), .d (.list (gs.map .int)), .d (.tuple (hs ++ if hearP s p air = true then [.int k] else [])), .d (.tuple (ms ++ if missP s p c air = true then [.int k] else [])), .d (.int k), .d (.bool (decide (p.told + 1 = s.t) && !goes s p c)), .d (eSnd s), .d (ePrt p)] := by
  have b1 : binD .add (.tuple hs) (.tuple [.int k]) = some (.tuple (hs ++ [.int k])) := bin_addT (by simp; omega)
  have b2 : binD .add (.tuple ms) (.tuple [.int k]) = some (.tuple (ms ++ [.int k])) := bin_addT (by simp; omega)
  have g3 := run_goes_on (wf := wf) (n := n + 1) op c
  rw [hear_same op, miss_same op c]
  obtain ⟨ph, told, passed, got⟩ := p
  have hc := nm_call ph
  generalize goes s ⟨ph, told, passed, got⟩ c = g0 at g3 ⊢
  generalize got1 s ⟨ph, told, passed, got⟩ air = g1 at h1 ⊢
  simp only [eSnd, ePrt] at g3 ⊢
  cases ph with
  | idle => by_cases z3 : told + 1 = s.t <;> cases g0 <;> simp [bd_ends_by_0, eCh, h1, h2, hc, g3, t7, setR, z3]
  | pause => by_cases z3 : told + 1 = s.t <;> cases g0 <;> simp [bd_ends_by_0, eCh, h1, h2, hc, g3, t7, setR, z3]
  | call =>
    generalize e1 : decide (got < s.m) = c1
    generalize e2 : decide (s.m = g1) = c2
    generalize e3 : decide (told + 1 = s.t) = c3
    generalize e4 : decide (g1 < s.m) = c4
    cases c1 <;> cases c2 <;> cases c3 <;> cases c4 <;> cases g0 <;> simp [bd_ends_by_0, eCh, h1, h2, hc, g3, t7, setR, e1, e2, e3, e4, b1, b2]
theorem run_ends_by {r : Rcv} {ss : List Snd} (ok : OkPl r ss) {e : Ear} {ps : List Prt} (o : OkSt r ss e ps) {cs : List Bool} (hc : cs.length = ss.length) :
    run Pt (gvOf Ct) wf (n + 4) 48 [.d (ePl r ss), .d (eSt e ps), .d (eCh cs)] = some (.ret (.tuple [.tuple (eIx (hears ss ps (rowC r e.row) ss.length)), .tuple (eIx (missd ss ps cs (rowC r e.row) ss.length))]), [.d (ePl r ss), .d (eSt e ps), .d (eCh cs)]) := by
  have n3 := ok.n3
  have hp := o.len
  have hlim := lim_ge
  rw [run_of P_ends_by rfl]
  obtain ⟨ρ', hl, x6, x7, x8, x9, er, t6, t7, t8, t9⟩ := loopF_ind (t := .t [.n 6, .t [.n 8, .n 9]]) (body := execs (run Pt (gvOf Ct) wf (n + 3)) (mtOf Pt) (gvOf Ct) wf bd_ends_by_0) (xs := enumL 0 (zipL (ss.map eSnd) (ps.map ePrt)))
    (fun k ρ => ∃ x6 x7 x8 x9 : SV, ρ = [.d (ePl r ss), .d (eSt e ps), .d (eCh cs), .d (.list ((gotsP ss ps (rowC r e.row) ss.length).map .int)), .d (.tuple (eIx (hears ss ps (rowC r e.row) k))), .d (.tuple (eIx (missd ss ps cs (rowC r e.row) k))), x6, x7, x8, x9] ∧ stor (some x6) = true ∧ stor (some x7) = true ∧ stor (some x8) = true ∧ stor (some x9) = true)
    (fun k x ρ hx ⟨x6, x7, x8, x9, er, t6, t7, t8, t9⟩ => by
      subst er
      obtain ⟨hk, rfl⟩ := enz_at hp hx
      have os : OkSnd (ss.getD k default) := by rw [sel_D hk]; exact ok.sn _ (List.getElem_mem hk)
      have l1 := eIx_len [] (hearAt ss ps (rowC r e.row)) k
      have l2 := eIx_len [] (missAt ss ps cs (rowC r e.row)) k
      have g1 := gotsP_at (ss := ss) (ps := ps) (ch := rowC r e.row) hk
      have g2 := ch_at (cs := cs) (k := k) (by omega)
      have b := bd_ends (wf := wf) (n := n) (v := .d (ePl r ss)) (w := .d (eSt e ps)) (hs := eIx (hears ss ps (rowC r e.row) k)) (ms := eIx (missd ss ps cs (rowC r e.row) k)) os (o.pt k hk) g1 g2 (by unfold hears; omega) (by unfold missd; omega) t7
      refine ⟨_, _, ?_, b, .d (.int k), .d (.bool (decide ((ps.getD k default).told + 1 = (ss.getD k default).t) && !goes (ss.getD k default) (ps.getD k default) (cs.getD k false))), .d (eSnd (ss.getD k default)), .d (ePrt (ps.getD k default)), ?_, rfl, rfl, rfl, rfl⟩
      · simp [t6, t8, t9]
      · unfold hears missd
        rw [eIx_snoc, eIx_snoc]
        rfl) [.d (ePl r ss), .d (eSt e ps), .d (eCh cs), .d (.list ((gotsP ss ps (rowC r e.row) ss.length).map .int)), .d (.tuple []), .d (.tuple []), .un, .un, .un, .un] ⟨.un, .un, .un, .un, rfl, rfl, rfl, rfl, rfl⟩
  rw [enz_len hp] at er
  subst er
  have h2 := run_got_by (wf := wf) (n := n) ok o
  simp only [ePl, eSt] at hl h2 ⊢
  simp [d_ends_by, setR, ex_for, hl, h2]
/-! looks -/
theorem eqv_ch : ∀ {a b : List Bool}, PyData.eqv (eCh a) (eCh b) = decide (a = b) := by
  intro a b
  show PyData.eqv (.tuple (a.map .bool)) (.tuple (b.map .bool)) = _
  rw [PyData.eqv]
  induction a generalizing b with
  | nil => cases b <;> simp [PyData.eqvAll]
  | cons x a ih =>
    cases b with
    | nil => simp [PyData.eqvAll]
    | cons y b =>
      rw [List.map_cons, List.map_cons, PyData.eqvAll, ih]
      cases x <;> cases y <;> simp [PyData.eqv]
end Er

set_option Elab.async false
set_option linter.all false
set_option maxRecDepth 100000
set_option maxHeartbeats 0
/-! S25: is_like, the looks, what is asked of a stand. -/
namespace Er
open PySem L2
variable {wf n : Nat}
theorem bool_sm (b : Bool) : (PyData.bool b).canLay0 = true ∧ (PyData.bool b).depth ≤ 0 ∧ slim (.bool b) = true := ⟨rfl, Nat.le_refl _, rfl⟩
theorem lay_bools : ∀ l : List Bool, PyData.canLayAll0 (l.map PyData.bool) = true ∧ PyData.depthAll (l.map PyData.bool) = 0
  | [] => ⟨rfl, rfl⟩
  | b :: l => by
    obtain ⟨h1, h2⟩ := lay_bools l
    exact ⟨by rw [List.map_cons, PyData.canLayAll0, h1]; rfl, by rw [List.map_cons, PyData.depthAll, h2]; rfl⟩
theorem lay_chs : ∀ L : List (List Bool), PyData.canLayAll0 (L.map eCh) = true ∧ PyData.depthAll (L.map eCh) ≤ 1
  | [] => ⟨rfl, Nat.zero_le _⟩
  | c :: L => by
    obtain ⟨h1, h2⟩ := lay_chs L
    obtain ⟨h3, h4⟩ := lay_bools c
    refine ⟨?_, ?_⟩
    · rw [List.map_cons, PyData.canLayAll0, h1]
      show (PyData.canLay0 (.tuple (c.map .bool)) && true) = true
      rw [PyData.canLay0, h3]
      rfl
    · rw [List.map_cons, PyData.depthAll]
      show max (PyData.depth (.tuple (c.map .bool))) _ ≤ 1
      rw [PyData.depth, h4]
      omega
theorem sh_ch (c : List Bool) : shaped (eCh c) = true := by
  obtain ⟨h1, h2⟩ := lay_bools c
  refine shaped_iff.mpr ⟨by show PyData.canLay0 (.tuple (c.map .bool)) = true; rw [PyData.canLay0]; exact h1, ?_⟩
  show PyData.depth (.tuple (c.map .bool)) ≤ _
  rw [PyData.depth, h2]
  decide
theorem sh_chs (L : List (List Bool)) : shaped (.list (L.map eCh)) = true := by
  obtain ⟨h1, h2⟩ := lay_chs L
  refine shaped_iff.mpr ⟨by rw [PyData.canLay0]; exact h1, ?_⟩
  rw [PyData.depth]
  omega
theorem any_chs {c : List Bool} : ∀ L : List (List Bool), anyEq (eCh c) (L.map eCh) = decide (c ∈ L)
  | [] => by simp [anyEq]
  | d :: L => by
    have ih := any_chs (c := c) L
    unfold anyEq at ih ⊢
    rw [List.map_cons, List.any_cons, ih, eqv_ch]
    by_cases z : d = c
    · subst z
      simp
    · have z2 : ¬ c = d := fun h => z h.symm
      simp [z, z2]
def isB (x : PD) : Bool := match x with
  | .bool _ => true
  | _ => false
theorem isB_ty (x : PD) : [Ty.bool].any (isTy x) = isB x := by cases x <;> rfl
/-- the choice that a value is -/
def chOf (v : PD) : Option (List Bool) := match v with
  | .tuple l => boolsD l
  | _ => none
theorem bools_of {l : List PD} {c : List Bool} (h : boolsD l = some c) : l = c.map .bool := by
  induction l generalizing c with
  | nil => simp [boolsD] at h; subst h; rfl
  | cons x l ih =>
    cases x <;> simp [boolsD] at h
    rename_i b
    obtain ⟨d, hd, rfl⟩ := h
    rw [List.map_cons, ← ih hd]
theorem chOf_some {v : PD} {c : List Bool} (h : chOf v = some c) : v = eCh c := by
  unfold chOf at h
  split at h
  · rw [bools_of h]; rfl
  · cases h
theorem chOf_ch (c : List Bool) : chOf (eCh c) = some c := by
  show boolsD (c.map .bool) = some c
  have := bools_map (fun x => match x with
    | .bool b => b
    | _ => false) (c.map PyData.bool)
  rw [List.map_map, List.map_map] at this
  simpa [Function.comp_def] using this
theorem bools_none {l : List PD} (h : boolsD l = none) : allB isB l = false := by
  induction l with
  | nil => simp [boolsD] at h
  | cons x l ih =>
    cases x with
    | bool b =>
      have h : (boolsD l).map (b :: ·) = none := h
      exact ih (Option.map_eq_none_iff.mp h)
    | _ => rfl
def likeP (v : PD) (L : List (List Bool)) : Option (List Bool) := match chOf v with
  | some c => if c ∈ L then some c else none
  | none => none
theorem likeP_some {v : PD} {L : List (List Bool)} {c : List Bool} (h : likeP v L = some c) : v = eCh c ∧ c ∈ L := by
  unfold likeP at h
  split at h
  · rename_i d hd
    split at h
    · rename_i m
      cases h
      exact ⟨chOf_some hd, m⟩
    · cases h
  · cases h
theorem likeP_ch {c : List Bool} {L : List (List Bool)} (h : c ∈ L) : likeP (eCh c) L = some c := by
  unfold likeP
  rw [chOf_ch]
  simp [h]
theorem cm_like {l : List PD} {w : SV} (hl : l.length ≤ lim) : ev (run Pt (gvOf Ct) wf n) (mtOf Pt) (gvOf Ct) cm_is_like_0 [.d (.tuple l), w, .un] = .ok (.d (.list (l.map fun x => .bool (isB x)))) [.d (.tuple l), w, .un] :=
  comp_all _ (by simp) hl fun x hx => ⟨[.d (.tuple l), w, .d x], by simp, by simp, by simp [isTy]; cases x <;> rfl⟩
def slimTop (v : PD) : Prop := match v with
  | .tuple l => l.length ≤ 1000
  | _ => True
theorem run_is_like {v : PD} {L : List (List Bool)} (hv : slimTop v) : run Pt (gvOf Ct) wf (n + 1) 49 [.d v, .d (.list (L.map eCh))] = some (.ret (.bool (likeP v L).isSome), [.d v, .d (.list (L.map eCh))]) := by
  have hlim := lim_ge
  rw [run_of P_is_like rfl]
  cases hc : chOf v with
  | some c =>
    have e := chOf_some hc
    subst e
    have i1 : cmpD .isin (eCh c) (.list (L.map eCh)) = some (decide (c ∈ L)) := by
      show (if shaped (eCh c) = true ∧ shaped (.list (L.map eCh)) = true then some (anyEq (eCh c) (L.map eCh)) else none) = _
      rw [if_pos ⟨sh_ch c, sh_chs L⟩, any_chs]
    have hl : (c.map PyData.bool).length ≤ lim := by
      have : (c.map PyData.bool).length ≤ 1000 := hv
      omega
    have c0 := cm_like (wf := wf) (n := n) (l := c.map .bool) (w := .d (.list (L.map eCh))) hl
    have a1 : allB isB (c.map .bool) = true := List.all_eq_true.mpr fun x hx => by
      obtain ⟨b, _, rfl⟩ := List.mem_map.mp hx
      rfl
    have r1 : (likeP (eCh c) L).isSome = decide (c ∈ L) := by
      unfold likeP
      rw [hc]
      by_cases z : c ∈ L <;> simp [z]
    rw [r1]
    simp only [eCh] at i1 ⊢
    simp [-List.map_map, d_is_like, isTy, c0, a1, i1]
  | none =>
    have r1 : (likeP v L).isSome = false := by
      unfold likeP
      rw [hc]
      rfl
    rw [r1]
    cases v <;> try simp [d_is_like, isTy]
    rename_i l
    have hl : l.length ≤ lim := by
      have : l.length ≤ 1000 := hv
      omega
    have c0 := cm_like (wf := wf) (n := n) (l := l) (w := .d (.list (L.map eCh))) hl
    have a1 := bools_none hc
    simp [c0, a1]
/-! looks -/
theorem sh_st {e : Ear} {ps : List Prt} (h : ps.length ≤ 3) : shaped (eSt e ps) = true := by
  obtain ⟨v1, v2, v3⟩ := st_sm (e := e) (ps := ps) h
  exact shaped_iff.mpr ⟨v1, by omega⟩
theorem run_look_stand {r : Rcv} {ss : List Snd} (ok : OkPl r ss) {e : Ear} {ps : List Prt} (o : OkSt r ss e ps) : run Pt (gvOf Ct) wf (n + 4) 36 [.d (ePl r ss), .d (eSt e ps)] = some (.ret .none, [.d (ePl r ss), .d (eSt e ps)]) := by
  have n3 := ok.n3
  rw [run_of P_look_at_stand rfl]
  have h := run_fits (wf := wf) (n := n) ok (sh_st (e := e) (ps := ps) (by rw [o.len]; exact n3))
  rw [stand_okB ok o] at h
  simp [d_look_at_stand, h]
theorem run_look_choice {r : Rcv} {ss : List Snd} (ok : OkPl r ss) {e : Ear} {ps : List Prt} (o : OkSt r ss e ps) {c : List Bool} (hc : c ∈ chAll (frees ss ps ss.length)) : run Pt (gvOf Ct) wf (n + 4) 52 [.d (ePl r ss), .d (eSt e ps), .d (eCh c)] = some (.ret .none, [.d (ePl r ss), .d (eSt e ps), .d (eCh c)]) := by
  have n3 := ok.n3
  rw [run_of P_look_at_choice rfl]
  have h1 := run_choices_of (wf := wf) (n := n) ok o
  have hl := (chAll_len (fs := frees ss ps ss.length)).1 c hc
  rw [frees_len] at hl
  have h2 := run_is_like (wf := wf) (n := n + 2) (v := eCh c) (L := chAll (frees ss ps ss.length)) (by show (c.map PyData.bool).length ≤ 1000; rw [List.length_map]; omega)
  rw [likeP_ch hc] at h2
  simp [d_look_at_choice, h1, h2]
theorem ch_len {ss : List Snd} {ps : List Prt} {c : List Bool} (hc : c ∈ chAll (frees ss ps ss.length)) : c.length = ss.length := by
  have hl := (chAll_len (fs := frees ss ps ss.length)).1 c hc
  rwa [frees_len] at hl
section
variable {r : Rcv} {ss : List Snd} (ok : OkPl r ss) {e : Ear} {ps : List Prt} (o : OkSt r ss e ps)
include ok o
theorem run_hears : run Pt (gvOf Ct) wf (n + 6) 53 [.d (ePl r ss), .d (eSt e ps)] = some (.ret (eO (heardP r e ps)), [.d (ePl r ss), .d (eSt e ps)]) := by
  rw [run_of P_hears rfl]
  have h1 := run_look (wf := wf) (n := n) (isPlan_iff.mpr ok)
  have h2 := run_look_stand (wf := wf) (n := n + 1) ok o
  have h3 := run_heard_at (wf := wf) (n := n + 3) ok o.er.ear o.len
  simp [d_hears, h1, h2, h3]
theorem run_choices_at : run Pt (gvOf Ct) wf (n + 6) 54 [.d (ePl r ss), .d (eSt e ps)] = some (.ret (.list ((chAll (frees ss ps ss.length)).map eCh)), [.d (ePl r ss), .d (eSt e ps)]) := by
  rw [run_of P_choices_at rfl]
  have h1 := run_look (wf := wf) (n := n) (isPlan_iff.mpr ok)
  have h2 := run_look_stand (wf := wf) (n := n + 1) ok o
  have h3 := run_choices_of (wf := wf) (n := n + 2) ok o
  simp [d_choices_at, h1, h2, h3]
theorem run_after {c : List Bool} (hc : c ∈ chAll (frees ss ps ss.length)) : run Pt (gvOf Ct) wf (n + 6) 55 [.d (ePl r ss), .d (eSt e ps), .d (eCh c)] = some (.ret (eSt (nEar r e ps) (nPs r ss e ps c)), [.d (ePl r ss), .d (eSt e ps), .d (eCh c)]) := by
  rw [run_of P_after rfl]
  have h1 := run_look (wf := wf) (n := n) (isPlan_iff.mpr ok)
  have h2 := run_look_stand (wf := wf) (n := n + 1) ok o
  have h3 := run_look_choice (wf := wf) (n := n + 1) ok o hc
  have h4 := run_behind (wf := wf) (n := n + 1) ok o (ch_len hc)
  simp [d_after, h1, h2, h3, h4]
theorem run_ends {c : List Bool} (hc : c ∈ chAll (frees ss ps ss.length)) : run Pt (gvOf Ct) wf (n + 6) 56 [.d (ePl r ss), .d (eSt e ps), .d (eCh c)] = some (.ret (.tuple [.tuple (eIx (hears ss ps (rowC r e.row) ss.length)), .tuple (eIx (missd ss ps c (rowC r e.row) ss.length))]), [.d (ePl r ss), .d (eSt e ps), .d (eCh c)]) := by
  rw [run_of P_ends rfl]
  have h1 := run_look (wf := wf) (n := n) (isPlan_iff.mpr ok)
  have h2 := run_look_stand (wf := wf) (n := n + 1) ok o
  have h3 := run_look_choice (wf := wf) (n := n + 1) ok o hc
  have h4 := run_ends_by (wf := wf) (n := n + 1) ok o (ch_len hc)
  simp [d_ends, h1, h2, h3, h4]
end
end Er

set_option Elab.async false
set_option linter.all false
set_option maxRecDepth 100000
set_option maxHeartbeats 0
/-! S26: the law's choices are the program's. -/
namespace Er
open PySem L2
variable {wf n : Nat}
def code : List Bool → Nat
  | [] => 0
  | x :: a => (if x = true then 2 ^ a.length else 0) + code a
theorem code_lt : ∀ a : List Bool, code a < 2 ^ a.length
  | [] => by simp [code]
  | x :: a => by
    have := code_lt a
    rw [code, List.length_cons, Nat.pow_succ]
    split <;> omega
theorem code_snoc : ∀ (a : List Bool) (b : Bool), code (a ++ [b]) = 2 * code a + (if b = true then 1 else 0)
  | [], b => by simp [code]
  | x :: a, b => by
    rw [List.cons_append, code, code_snoc a b, code, List.length_append, List.length_singleton, Nat.pow_succ]
    split <;> omega
theorem code_inj : ∀ {a b : List Bool}, a.length = b.length → code a = code b → a = b
  | [], [], _, _ => rfl
  | x :: a, y :: b, hl, h => by
    have hl : a.length = b.length := by simpa using hl
    have h1 := code_lt a
    have h2 := code_lt b
    have e1 : code (x :: a) = (if x = true then 2 ^ b.length else 0) + code a := by rw [code, hl]
    have e2 : code (y :: b) = (if y = true then 2 ^ b.length else 0) + code b := rfl
    rw [e1, e2] at h
    rw [hl] at h1
    have z : x = y ∧ code a = code b := by cases x <;> cases y <;> simp at h <;> simp <;> omega
    rw [z.1, code_inj hl z.2]
theorem lt_ch : ∀ {a b : List Bool}, a.length = b.length → PySem.W.dataLt (eCh a) (eCh b) = decide (code a < code b) := by
  intro a b h
  show PySem.W.dataLt (.tuple (a.map .bool)) (.tuple (b.map .bool)) = _
  rw [PySem.W.dataLt_tuple]
  induction a generalizing b with
  | nil =>
    cases b with
    | nil =>
      rw [List.map_nil]
      have := PyProof.Rows.lex_irrefl (O := PyProof.Rows.itemOrd) (PySem.W.keyToksAll [])
      rw [this]
      rfl
    | cons => simp at h
  | cons x a ih =>
    cases b with
    | nil => simp at h
    | cons y b =>
      have h : a.length = b.length := by simpa using h
      have h1 := code_lt a
      have h2 := code_lt b
      rw [h] at h1
      rw [List.map_cons, List.map_cons, PySem.W.dataLt_cons rfl, ih h, PySem.W.dataLt_bool, code, code, h]
      cases x <;> cases y <;> simp [PyData.eqv, PyProof.Rows.b2i]
      all_goals omega
theorem asc_step {L : List (List Bool)} {f : Bool} (h : L.Pairwise fun a b => code a < code b) : (chStep L f).Pairwise fun a b => code a < code b := by
  unfold chStep
  induction L with
  | nil => exact .nil
  | cons x L ih =>
    obtain ⟨h1, h2⟩ := List.pairwise_cons.mp h
    rw [List.flatMap_cons, List.pairwise_append]
    refine ⟨?_, ih h2, fun a ha b hb => ?_⟩
    · cases f <;> simp [code_snoc]
    · obtain ⟨u, _, rfl⟩ := List.mem_map.mp ha
      obtain ⟨y, hy, hb⟩ := List.mem_flatMap.mp hb
      obtain ⟨v, _, rfl⟩ := List.mem_map.mp hb
      have := h1 y hy
      rw [code_snoc, code_snoc]
      cases u <;> cases v <;> simp <;> omega
theorem asc_all (fs : List Bool) : (chAll fs).Pairwise fun a b => code a < code b := by
  unfold chAll
  have key : ∀ (gs : List Bool) (L : List (List Bool)), (L.Pairwise fun a b => code a < code b) → (gs.foldl chStep L).Pairwise fun a b => code a < code b := fun gs => by
    induction gs with
    | nil => exact fun L h => h
    | cons g gs ih => exact fun L h => ih _ (asc_step h)
  exact key fs [[]] (List.pairwise_singleton ..)
theorem perm_step (L : List (List Bool)) (f : Bool) : (L.map (· ++ [false]) ++ if f = true then L.map (· ++ [true]) else []).Perm (chStep L f) := by
  unfold chStep
  cases f with
  | false =>
    simp only [Bool.false_eq_true, if_false, List.append_nil]
    induction L with
    | nil => exact .nil
    | cons x L ih =>
      rw [List.map_cons, List.flatMap_cons]
      exact List.Perm.cons _ ih
  | true =>
    simp only [if_true]
    induction L with
    | nil => exact .nil
    | cons x L ih =>
      rw [List.map_cons, List.map_cons, List.flatMap_cons, List.cons_append]
      refine List.Perm.cons _ ?_
      refine (List.perm_middle).trans ?_
      exact List.Perm.cons _ ih
theorem sorted_step {L : List (List Bool)} {k : Nat} {f : Bool} (hk : ∀ c ∈ L, c.length = k) (ha : L.Pairwise fun a b => code a < code b) (hl : L.length ≤ 400) :
    biD .sorted [.list ((L.map (· ++ [false]) ++ if f = true then L.map (· ++ [true]) else []).map eCh)] = some (.list ((chStep L f).map eCh)) := by
  have hp := perm_step L f
  have hk2 := chStep_len (f := f) hk
  have hs := chStep_size (L := L) (f := f)
  generalize (L.map (· ++ [false]) ++ if f = true then L.map (· ++ [true]) else []) = M at hp
  have hkM : ∀ c ∈ M, c.length = k + 1 := fun c hc => hk2 c (hp.mem_iff.mp hc)
  have hlen := hp.length_eq
  obtain ⟨L', e1, _⟩ := sorted_ch hkM (by omega)
  have le : ∀ a ∈ M, ∀ b ∈ M, decide (code a ≤ code b) = PySem.W.dataLe false id (eCh a) (eCh b) := fun a ha b hb => by
    show _ = !PySem.W.dataLt (eCh b) (eCh a)
    rw [lt_ch ((hkM b hb).trans (hkM a ha).symm)]
    by_cases z : code b < code a
    · rw [decide_eq_true z, decide_eq_false (by omega)]
      rfl
    · rw [decide_eq_false z, decide_eq_true (by omega)]
      rfl
  have e2 := PySem.W.sort_maps (r := fun a b => decide (code a ≤ code b)) (s := PySem.W.dataLe false id) eCh le
  have tot : PySem.W.TotalLe (fun a b : List Bool => decide (code a ≤ code b)) := ⟨fun a b c h1 h2 => by simp only [decide_eq_true_eq] at *; omega, fun a b => by simp only [decide_eq_true_eq]; omega⟩
  have e3 : M.mergeSort (fun a b => decide (code a ≤ code b)) = chStep L f := by
    refine List.Perm.eq_of_pairwise (le := fun a b => decide (code a ≤ code b) = true) (fun a b ha hb h1 h2 => ?_) (PySem.W.sort_pairwise tot M) ((asc_step ha).imp fun h => by simp only [decide_eq_true_eq]; omega) ((List.mergeSort_perm M _).trans hp)
    simp only [decide_eq_true_eq] at h1 h2
    exact code_inj ((hkM a ((List.mergeSort_perm M _).mem_iff.mp ha)).trans (hk2 b hb).symm) (by omega)
  rw [e1]
  show some (PyData.list _) = _
  have e4 : (M.map eCh).mergeSort (PySem.W.dataLe false id) = L'.map eCh := by
    have h := e1
    unfold biD at h
    simp only at h
    split at h
    · simpa using h
    · cases h
  rw [← e4, ← e2, e3]
end Er

set_option Elab.async false
set_option linter.all false
set_option maxRecDepth 100000
set_option maxHeartbeats 0
/-! S27: the law's choices; twins. -/
namespace Er
open PySem L2
variable {wf n : Nat}
theorem bd_chX {v w x4 x9 x10 : SV} {L : List (List Bool)} {k : Nat} {s : Snd} {p : Prt} (hk : ∀ c ∈ L, c.length = k) (ha : L.Pairwise fun a b => code a < code b) (hk2 : k ≤ 400) (hl : L.length ≤ 400) (t4 : stor (some x4) = true) (t9 : stor (some x9) = true) (t10 : stor (some x10) = true) :
    execs (run Pt (gvOf Ct) wf n) (mtOf Pt) (gvOf Ct) wf bd__law_choices_0 [v, w, .d (.list (L.map eCh)), .d (ePrt p), x4, .d (.tuple [.int s.a, .int s.b]), .d (.tuple [.int s.c, .int s.d]), .d (.int s.t), .d (.int s.m), x9, x10, .un] =
      .ok .next [v, w, .d (.list ((chStep L (freeP s p)).map eCh)), .d (ePrt p), .d (.bool (freeP s p)), .d (.tuple [.int s.a, .int s.b]), .d (.tuple [.int s.c, .int s.d]), .d (.int s.t), .d (.int s.m), .d (.int (loP s p.ph)), .d (.int (highP s p.ph)), .un] := by
  have e1 := sorted_step (f := freeP s p) hk ha hl
  have e3 := bin_addL (x := (L.map (· ++ [false])).map eCh) (y := (if freeP s p = true then L.map (· ++ [true]) else []).map eCh) (by
    simp only [List.length_map]
    split <;> simp <;> omega)
  rw [← List.map_append] at e3
  have c0 := fun a4 a9 a10 => cm_ch0 (wf := wf) (n := n) (a0 := v) (a1 := w) (a3 := .d (ePrt p)) (a4 := a4) (a5 := .d (.tuple [.int s.a, .int s.b])) (a6 := .d (.tuple [.int s.c, .int s.d])) (a7 := .d (.int s.t)) (a8 := .d (.int s.m)) (a9 := a9) (a10 := a10) hk (by omega) (by omega)
  have c1 := fun f a9 a10 => cm_ch1 (wf := wf) (n := n) (a0 := v) (a1 := w) (a3 := .d (ePrt p)) (f := f) (a5 := .d (.tuple [.int s.a, .int s.b])) (a6 := .d (.tuple [.int s.c, .int s.d])) (a7 := .d (.int s.t)) (a8 := .d (.int s.m)) (a9 := a9) (a10 := a10) hk (by omega) (by omega)
  obtain ⟨ph, told, passed, got⟩ := p
  simp only [ePrt] at c0 c1
  cases ph with
  | idle =>
    have hF : freeP s ⟨.idle, told, passed, got⟩ = (decide (0 < passed + 2) && decide (passed + 2 ≤ 99)) := rfl
    simp [-List.map_map, -List.map_append, bd__law_choices_0, ePrt, t4, t9, t10, setR, pick_nm]
    rw [← hF]
    simp [-List.map_map, -List.map_append, c0, c1, e3, e1, loP, highP, setR]
  | call =>
    have hF : freeP s ⟨.call, told, passed, got⟩ = (decide (s.a < passed + 2) && decide (passed + 2 ≤ s.b)) := rfl
    simp [-List.map_map, -List.map_append, bd__law_choices_0, ePrt, t4, t9, t10, setR, pick_nm]
    rw [← hF]
    simp [-List.map_map, -List.map_append, c0, c1, e3, e1, loP, highP, setR]
  | pause =>
    have hF : freeP s ⟨.pause, told, passed, got⟩ = (decide (s.c < passed + 2) && decide (passed + 2 ≤ s.d)) := rfl
    simp [-List.map_map, -List.map_append, bd__law_choices_0, ePrt, t4, t9, t10, setR, pick_nm]
    rw [← hF]
    simp [-List.map_map, -List.map_append, c0, c1, e3, e1, loP, highP, setR]
theorem run_law_ch {r : Rcv} {ss : List Snd} (hs3 : ss.length ≤ 3) {e : Ear} {ps : List Prt} (hp : ps.length = ss.length) :
    run Pt (gvOf Ct) wf (n + 1) 25 [.d (ePl r ss), .d (eSt e ps)] = some (.ret (.list ((chAll (frees ss ps ss.length)).map eCh)), [.d (ePl r ss), .d (eSt e ps)]) := by
  rw [run_of P__law_choices rfl]
  obtain ⟨ρ', hl, x3, x4, x5, x6, x7, x8, x9, x10, er, _⟩ := loopF_ind (t := .t [.t [.n 5, .n 6, .n 7, .n 8], .n 3]) (body := execs (run Pt (gvOf Ct) wf n) (mtOf Pt) (gvOf Ct) wf bd__law_choices_0) (xs := zipL (ss.map eSnd) (ps.map ePrt))
    (fun k ρ => ∃ (x3 x4 x5 x6 x7 x8 x9 x10 : SV), ρ = [.d (ePl r ss), .d (eSt e ps), .d (.list ((chAll (frees ss ps k)).map eCh)), x3, x4, x5, x6, x7, x8, x9, x10, .un] ∧
      (stor (some x3) = true ∧ stor (some x4) = true ∧ stor (some x5) = true ∧ stor (some x6) = true ∧ stor (some x7) = true ∧ stor (some x8) = true ∧ stor (some x9) = true ∧ stor (some x10) = true))
    (fun k x ρ hx ⟨x3, x4, x5, x6, x7, x8, x9, x10, er, t3, t4, t5, t6, t7, t8, t9, t10⟩ => by
      subst er
      obtain ⟨hk, rfl⟩ := zip_at hp hx
      obtain ⟨c1, c2⟩ := chAll_len (fs := frees ss ps k)
      rw [frees_len] at c1 c2
      have hk2 : k = 0 ∨ k = 1 ∨ k = 2 := by omega
      have hL : (chAll (frees ss ps k)).length ≤ 400 := by rcases hk2 with e | e | e <;> subst e <;> simp at c2 <;> omega
      have b := bd_chX (wf := wf) (n := n) (v := .d (ePl r ss)) (w := .d (eSt e ps)) (s := ss.getD k default) (p := ps.getD k default) c1 (asc_all _) (by omega) hL t4 t9 t10
      rw [← chAll_snoc, ← frees_snoc] at b
      exact ⟨_, _, by simp [eSnd, t3, t5, t6, t7, t8], b, _, _, _, _, _, _, _, _, rfl, rfl, rfl, rfl, rfl, rfl, rfl, rfl, rfl⟩) [.d (ePl r ss), .d (eSt e ps), .d (.list [.tuple []]), .un, .un, .un, .un, .un, .un, .un, .un, .un] ⟨.un, .un, .un, .un, .un, .un, .un, .un, rfl, rfl, rfl, rfl, rfl, rfl, rfl, rfl, rfl⟩
  rw [zipL_length, List.length_map, List.length_map, hp, Nat.min_self] at er
  subst er
  simp only [ePl, eSt] at hl ⊢
  simp [d__law_choices, setR, ex_for, hl]
theorem tick_same {r : Rcv} {ss : List Snd} {e : Ear} {ps : List Prt} {cs : List Bool} : tickV r ss e ps cs = .tuple [eSt (nEar r e ps) (nPs r ss e ps cs), .tuple (eIx (hears ss ps (rowC r e.row) ss.length)), .tuple (eIx (missd ss ps cs (rowC r e.row) ss.length))] := rfl
/-! twins -/
def atomB (v : PD) : Bool := match v with
  | .none => true
  | .bool _ => true
  | .int _ => true
  | .str x => shaped (.str x)
  | _ => false
def TW : Nat → PD → Prop
  | 0, v => atomB v = true
  | k + 1, v => atomB v = true ∨ ∃ l, (v = .tuple l ∨ v = .list l) ∧ l.length ≤ 5000000 ∧ ∀ x ∈ l, TW k x
theorem TW.atom {k : Nat} {v : PD} (h : atomB v = true) : TW k v := by
  cases k with
  | zero => exact h
  | succ k => exact .inl h
theorem twinsA_self {v : PD} (h : atomB v = true) : run Pt (gvOf Ct) wf (n + 2) 17 [.d v, .d v] = some (.ret (.bool true), [.d v, .d v]) := by
  rw [run_of P__law_twins rfl]
  cases v with
  | none =>
    have e : cmpD .eq .none .none = some true := by decide +kernel
    simp [d__law_twins, kindN, e]
  | bool b =>
    have e : cmpD .eq (.bool b) (.bool b) = some true := by cases b <;> decide +kernel
    simp [d__law_twins, kindN, e]
  | int i => simp [d__law_twins, kindN]
  | str x =>
    have hx : shaped (.str x) = true := h
    have e : cmpD .eq (.str x) (.str x) = some true := by rw [eqS hx hx, beq_self_eq_true]
    simp [d__law_twins, kindN, e]
  | _ => cases h
theorem run_twins_same : ∀ (k : Nat) (v : PD) (n : Nat), TW k v → run Pt (gvOf Ct) wf (n + k + 2) 17 [.d v, .d v] = some (.ret (.bool true), [.d v, .d v]) := by
  intro k
  induction k with
  | zero => exact fun v n h => twinsA_self h
  | succ k ih =>
    intro v n h
    rcases h with h | ⟨l, hv, hl, h⟩
    · exact twinsA_self h
    · have hlim := lim_big
      rw [show n + (k + 1) + 2 = (n + k + 2) + 1 by omega, run_of P__law_twins rfl]
      have e : cmpD .eq (.list []) (.list []) = some true := by decide +kernel
      rcases hv with rfl | rfl
      · have c0 : ev (run Pt (gvOf Ct) wf (n + k + 2)) (mtOf Pt) (gvOf Ct) cm__law_twins_0 [.d (.tuple l), .d (.tuple l), .un, .un] = .ok (.d (.list (((zipL l l).filter fun _ => false).map fun _ => .int 1))) [.d (.tuple l), .d (.tuple l), .un, .un] := by
          refine comp_pure (own := [2, 3]) (xs := zipL l l) (fun _ => false) (fun _ => .int 1) (by simp) (by rw [zipL_length]; omega) fun z hz => ?_
          obtain ⟨x, rfl, hx⟩ := zip_self hz
          exact ⟨[.d (.tuple l), .d (.tuple l), .d x, .d x], by simp, by simp, by simp [ih x n (h x hx)], by simp⟩
        rw [List.filter_eq_nil_iff.mpr (fun _ _ => by simp)] at c0
        have k1 := run_kind (wf := wf) (n := n + k + 1) (.tuple l)
        simp [d__law_twins, k1, kindN, c0, e]
      · have c0 : ev (run Pt (gvOf Ct) wf (n + k + 2)) (mtOf Pt) (gvOf Ct) cm__law_twins_0 [.d (.list l), .d (.list l), .un, .un] = .ok (.d (.list (((zipL l l).filter fun _ => false).map fun _ => .int 1))) [.d (.list l), .d (.list l), .un, .un] := by
          refine comp_pure (own := [2, 3]) (xs := zipL l l) (fun _ => false) (fun _ => .int 1) (by simp) (by rw [zipL_length]; omega) fun z hz => ?_
          obtain ⟨x, rfl, hx⟩ := zip_self hz
          exact ⟨[.d (.list l), .d (.list l), .d x, .d x], by simp, by simp, by simp [ih x n (h x hx)], by simp⟩
        rw [List.filter_eq_nil_iff.mpr (fun _ _ => by simp)] at c0
        have k1 := run_kind (wf := wf) (n := n + k + 1) (.list l)
        simp [d__law_twins, k1, kindN, c0, e]
theorem twins_kind {a b : PD} (h : kindN a ≠ kindN b) : run Pt (gvOf Ct) wf (n + 2) 17 [.d a, .d b] = some (.ret (.bool false), [.d a, .d b]) := by
  rw [run_of P__law_twins rfl]
  have k1 := run_kind (wf := wf) (n := n) a
  have k2 := run_kind (wf := wf) (n := n) b
  simp [d__law_twins, k1, k2, h]
theorem twins_tup {l m : List PD} (q : PD → Bool) (hl : l.length ≤ 1000) (h : ∀ z ∈ zipL l m, ∃ x y, z = .tuple [x, y] ∧ run Pt (gvOf Ct) wf (n + 1) 17 [.d x, .d y] = some (.ret (.bool (q z)), [.d x, .d y])) :
    run Pt (gvOf Ct) wf (n + 2) 17 [.d (.tuple l), .d (.tuple m)] = some (.ret (.bool (decide (l.length = m.length) && (zipL l m).all q)), [.d (.tuple l), .d (.tuple m)]) := by
  have hlim := lim_ge
  rw [run_of P__law_twins rfl]
  have c0 : ev (run Pt (gvOf Ct) wf (n + 1)) (mtOf Pt) (gvOf Ct) cm__law_twins_0 [.d (.tuple l), .d (.tuple m), .un, .un] = .ok (.d (.list (((zipL l m).filter fun z => !q z).map fun _ => .int 1))) [.d (.tuple l), .d (.tuple m), .un, .un] := by
    refine comp_pure (own := [2, 3]) (xs := zipL l m) (fun z => !q z) (fun _ => .int 1) (by simp) (by rw [zipL_length]; omega) fun z hz => ?_
    obtain ⟨x, y, rfl, hx⟩ := h z hz
    exact ⟨[.d (.tuple l), .d (.tuple m), .d x, .d y], by simp, by simp, by simp [hx], by simp⟩
  have e : ∀ L : List PD, cmpD .eq (.list (L.map fun _ => PyData.int 1)) (.list []) = some L.isEmpty := fun L => eq_ones L
  have e1 := e ((zipL l m).filter fun z => !q z)
  rw [allF_eq] at e1
  have k1 := run_kind (wf := wf) (n := n) (.tuple l)
  have k2 := run_kind (wf := wf) (n := n) (.tuple m)
  by_cases z : l.length = m.length
  · simp [-List.map_map, d__law_twins, k1, k2, kindN, z, c0, e1]
  · have z2 : ¬ (l.length : Int) = m.length := by omega
    simp [-List.map_map, d__law_twins, k1, k2, kindN, z, z2]
theorem zip_bools : ∀ {a b : List Bool}, a.length = b.length → (zipL (a.map PyData.bool) (b.map PyData.bool)).all (fun z => match z with
    | .tuple [.bool x, .bool y] => x == y
    | _ => false) = decide (a = b)
  | [], [], _ => rfl
  | x :: a, y :: b, h => by
    rw [List.map_cons, List.map_cons, zipL, List.all_cons, zip_bools (by simpa using h)]
    cases x <;> cases y <;> simp
theorem zip_boolsM : ∀ {a b : List Bool} {z : PD}, z ∈ zipL (a.map PyData.bool) (b.map PyData.bool) → ∃ x y : Bool, z = .tuple [.bool x, .bool y]
  | [], _, z, h => by simp [zipL] at h
  | _ :: _, [], z, h => by simp [zipL] at h
  | x :: a, y :: b, z, h => by
    simp only [List.map_cons, zipL] at h
    rcases List.mem_cons.mp h with e | h
    · exact ⟨x, y, e⟩
    · exact zip_boolsM h
theorem twins_bool (x y : Bool) : run Pt (gvOf Ct) wf (n + 2) 17 [.d (.bool x), .d (.bool y)] = some (.ret (.bool (x == y)), [.d (.bool x), .d (.bool y)]) := by
  rw [run_of P__law_twins rfl]
  have e : cmpD .eq (.bool x) (.bool y) = some (x == y) := by cases x <;> cases y <;> decide +kernel
  simp [d__law_twins, kindN, e]
theorem twins_chs {a b : List Bool} (h : a.length = b.length) (hl : a.length ≤ 1000) : run Pt (gvOf Ct) wf (n + 3) 17 [.d (eCh a), .d (eCh b)] = some (.ret (.bool (decide (a = b))), [.d (eCh a), .d (eCh b)]) := by
  have := twins_tup (wf := wf) (n := n + 1) (l := a.map .bool) (m := b.map .bool) (fun z => match z with
    | .tuple [.bool x, .bool y] => x == y
    | _ => false) (by rw [List.length_map]; exact hl) fun z hz => by
      obtain ⟨x, y, rfl⟩ := zip_boolsM hz
      exact ⟨_, _, rfl, twins_bool x y⟩
  rw [zip_bools h, List.length_map, List.length_map, decide_eq_true h, Bool.true_and] at this
  exact this
end Er

set_option Elab.async false
set_option linter.all false
set_option maxRecDepth 100000
set_option maxHeartbeats 0
/-! S28: runs. -/
namespace Er
open PySem L2
variable {wf n : Nat}
abbrev SS : Type := Ear × List Prt
def eSS (x : SS) : PD := eSt x.1 x.2
def nSS (r : Rcv) (ss : List Snd) (x : SS) (c : List Bool) : SS := (nEar r x.1 x.2, nPs r ss x.1 x.2 c)
def chs (ss : List Snd) (x : SS) : List (List Bool) := chAll (frees ss x.2 ss.length)
def OkSS (r : Rcv) (ss : List Snd) (x : SS) : Prop := OkSt r ss x.1 x.2
theorem nSS_ok {r : Rcv} {ss : List Snd} (ok : OkPl r ss) {x : SS} (o : OkSS r ss x) (c : List Bool) : OkSS r ss (nSS r ss x c) := tick_ok ok o c
def st0 (ss : List Snd) : SS := (eaP0, List.replicate ss.length ⟨.idle, 0, 0, 0⟩)
theorem st0_ok {r : Rcv} {ss : List Snd} (ok : OkPl r ss) : OkSS r ss (st0 ss) := begin_ok ok
/-- the stands behind choices, as far as they are possible -/
def walk (r : Rcv) (ss : List Snd) : SS → List PD → List SS
  | _, [] => []
  | x, v :: vs => match likeP v (chs ss x) with
    | some c => nSS r ss x c :: walk r ss (nSS r ss x c) vs
    | none => []
theorem walk_le (r : Rcv) (ss : List Snd) : ∀ (vs : List PD) (x : SS), (walk r ss x vs).length ≤ vs.length
  | [], _ => Nat.le_refl _
  | v :: vs, x => by
    unfold walk
    split
    · rename_i c _
      have := walk_le r ss vs (nSS r ss x c)
      rw [List.length_cons, List.length_cons]
      exact Nat.succ_le_succ this
    · simp
theorem last_at {l : List PD} {x : PD} : atI (l ++ [x]) (-1) = some x := by
  unfold atI ixN
  simp
  rw [if_pos (by omega)]
  have : (-1 + ((l.length : Int) + 1)).toNat = l.length := by omega
  rw [this]
  simp
theorem loop_st {r : Rcv} {ss : List Snd} (ok : OkPl r ss) {a1 a2 : SV} : ∀ (vs : List PD) (fs : List PD) (x : SS) (x4 : SV), (∀ v ∈ vs, slimTop v) → OkSS r ss x → fs.length + vs.length ≤ 900 → stor (some x4) = true →
    (∃ x4', loopF (.n 4) (execs (run Pt (gvOf Ct) wf (n + 4)) (mtOf Pt) (gvOf Ct) wf bd_stands_of_0) vs [.d (ePl r ss), a1, a2, .o (.lst (fs ++ [eSS x])), x4] = .ok .next [.d (ePl r ss), a1, a2, .o (.lst (fs ++ [eSS x] ++ (walk r ss x vs).map eSS)), x4']) ∨
      ∃ x3 x4', loopF (.n 4) (execs (run Pt (gvOf Ct) wf (n + 4)) (mtOf Pt) (gvOf Ct) wf bd_stands_of_0) vs [.d (ePl r ss), a1, a2, .o (.lst (fs ++ [eSS x])), x4] = .ok (.ret (.list (fs ++ [eSS x] ++ (walk r ss x vs).map eSS))) [.d (ePl r ss), a1, a2, x3, x4'] := by
  intro vs
  induction vs with
  | nil =>
    intro fs x x4 _ _ _ _
    exact .inl ⟨x4, by simp [walk, loopF]⟩
  | cons v vs ih =>
    intro fs x x4 hv o hl t4
    have hlim := lim_ge
    have c1 := run_choices_of (wf := wf) (n := n + 1) ok o
    have c2 := run_is_like (wf := wf) (n := n + 3) (v := v) (L := chAll (frees ss x.2 ss.length)) (hv v (by simp))
    have l1 : atI (fs ++ [eSt x.1 x.2]) (-1) = some (eSt x.1 x.2) := last_at
    have l2 : fs.length + 1 < lim := by rw [List.length_cons] at hl; omega
    unfold walk
    cases hk : likeP v (chs ss x) with
    | none =>
      have hk2 : likeP v (chAll (frees ss x.2 ss.length)) = none := hk
      rw [hk2] at c2
      refine .inr ⟨.d (.list (fs ++ [eSS x])), .d v, ?_⟩
      rw [loopF]
      simp [t4, bd_stands_of_0, l1, c1, c2, eSS]
    | some c =>
      have hk2 : likeP v (chAll (frees ss x.2 ss.length)) = some c := hk
      rw [hk2] at c2
      obtain ⟨ev', mc⟩ := likeP_some hk2
      subst ev'
      have c3 := run_behind (wf := wf) (n := n) ok o (ch_len mc)
      have step : loopF (.n 4) (execs (run Pt (gvOf Ct) wf (n + 4)) (mtOf Pt) (gvOf Ct) wf bd_stands_of_0) (eCh c :: vs) [.d (ePl r ss), a1, a2, .o (.lst (fs ++ [eSS x])), x4] =
          loopF (.n 4) (execs (run Pt (gvOf Ct) wf (n + 4)) (mtOf Pt) (gvOf Ct) wf bd_stands_of_0) vs [.d (ePl r ss), a1, a2, .o (.lst ((fs ++ [eSS x]) ++ [eSS (nSS r ss x c)])), .d (eCh c)] := by
        conv => lhs; rw [loopF]
        simp [t4, bd_stands_of_0, l1, c1, c2, c3, l2, eSS, nSS]
      have h := ih (fs ++ [eSS x]) (nSS r ss x c) (.d (eCh c)) (fun w hw => hv w (by simp [hw])) (nSS_ok ok o c) (by simp at hl ⊢; omega) rfl
      rw [step]
      dsimp only
      rcases h with ⟨x4', h1⟩ | ⟨x3, x4', h1⟩
      · exact .inl ⟨x4', by rw [h1]; simp⟩
      · exact .inr ⟨x3, x4', by rw [h1]; simp⟩
theorem run_stands_of {r : Rcv} {ss : List Snd} (ok : OkPl r ss) {x : SS} (o : OkSS r ss x) {vs : List PD} (hv : ∀ v ∈ vs, slimTop v) (hl : vs.length ≤ 800) :
    run Pt (gvOf Ct) wf (n + 5) 50 [.d (ePl r ss), .d (eSS x), .d (.tuple vs)] = some (.ret (.list ((x :: walk r ss x vs).map eSS)), [.d (ePl r ss), .d (eSS x), .d (.tuple vs)]) := by
  rw [run_of P_stands_of rfl]
  have h := loop_st (wf := wf) (n := n) ok (a1 := .d (eSS x)) (a2 := .d (.tuple vs)) vs [] x .un hv o (by simp; omega) rfl
  rw [List.nil_append] at h
  rcases h with ⟨x4', h1⟩ | ⟨x3, x4', h1⟩
  · simp [d_stands_of, setO1, setR, ex_for, h1]
  · simp [d_stands_of, setO1, setR, ex_for, h1]
@[simp] theorem gv_2 : gvOf Ct 2 = .int 60 := rfl
theorem st0_e (ss : List Snd) : eStand0 ss.length = eSS (st0 ss) := stand0_eq ss.length
def isRun (r : Rcv) (ss : List Snd) (v : PD) : Bool := match v with
  | .tuple vs => decide (vs.length ≤ 60) && decide ((walk r ss (st0 ss) vs).length = vs.length)
  | _ => false
theorem run_fits_run {r : Rcv} {ss : List Snd} (ok : OkPl r ss) {v : PD} (hv : ∀ vs, v = .tuple vs → ∀ x ∈ vs, slimTop x) : run Pt (gvOf Ct) wf (n + 6) 51 [.d (ePl r ss), .d v] = some (.ret (.bool (isRun r ss v)), [.d (ePl r ss), .d v]) := by
  rw [run_of P_fits_run rfl]
  cases v <;> try simp [d_fits_run, isRun, isTy]
  rename_i vs
  have hv := hv vs rfl
  have n3 := ok.n3
  by_cases h60 : vs.length ≤ 60
  · have h1 : ¬ (60 : Int) < vs.length := by omega
    have b := run_begin (wf := wf) (n := n + 4) (r := eRcv r) (ss := ss.map eSnd) (by rw [List.length_map]; omega)
    rw [List.length_map, st0_e] at b
    have s := run_stands_of (wf := wf) (n := n) ok (st0_ok ok) hv (by omega)
    simp only [ePl] at s ⊢
    simp [h1, h60, b, s]
    omega
  · have h1 : (60 : Int) < vs.length := by omega
    simp [h1, h60]
theorem run_is_run {r : Rcv} {ss : List Snd} (ok : OkPl r ss) {v : PD} (hv : ∀ vs, v = .tuple vs → ∀ x ∈ vs, slimTop x) : run Pt (gvOf Ct) wf (n + 7) 57 [.d (ePl r ss), .d v] = some (.ret (.bool (isRun r ss v)), [.d (ePl r ss), .d v]) := by
  rw [run_of P_is_run rfl]
  have h1 := run_look (wf := wf) (n := n + 1) (isPlan_iff.mpr ok)
  have h2 := run_fits_run (wf := wf) (n := n) ok hv
  simp [d_is_run, h1, h2]
theorem run_stand_behind {r : Rcv} {ss : List Snd} (ok : OkPl r ss) {vs : List PD} (hv : ∀ x ∈ vs, slimTop x) (hr : isRun r ss (.tuple vs) = true) {L : List SS} {x : SS} (hw : st0 ss :: walk r ss (st0 ss) vs = L ++ [x]) :
    run Pt (gvOf Ct) wf (n + 7) 58 [.d (ePl r ss), .d (.tuple vs)] = some (.ret (eSS x), [.d (ePl r ss), .d (.tuple vs)]) := by
  rw [run_of P_stand_behind rfl]
  have n3 := ok.n3
  have h60 : vs.length ≤ 60 := by
    unfold isRun at hr
    simp only [Bool.and_eq_true, decide_eq_true_eq] at hr
    exact hr.1
  have h1 := run_look (wf := wf) (n := n + 1) (isPlan_iff.mpr ok)
  have h2 := run_fits_run (wf := wf) (n := n) ok (v := .tuple vs) (fun us e => by cases e; exact hv)
  rw [hr] at h2
  have b := run_begin (wf := wf) (n := n + 5) (r := eRcv r) (ss := ss.map eSnd) (by rw [List.length_map]; omega)
  rw [List.length_map, st0_e] at b
  have s := run_stands_of (wf := wf) (n := n + 1) ok (st0_ok ok) hv (by omega)
  rw [hw] at s
  have l1 : atI ((L ++ [x]).map eSS) (-1) = some (eSS x) := by
    rw [List.map_append]
    exact last_at
  simp only [ePl] at s h1 h2 ⊢
  simp [-List.map_append, d_stand_behind, h1, h2, b, s, l1]
end Er

set_option Elab.async false
set_option linter.all false
set_option maxRecDepth 100000
set_option maxHeartbeats 0
/-! S29: where a law has come to; data of which a law asks. -/
namespace Er
open PySem L2
variable {wf n : Nat}
theorem walk_append {r : Rcv} {ss : List Snd} {ws : List PD} : ∀ (vs : List PD) (x y : SS) (L : List SS), (walk r ss x vs).length = vs.length → x :: walk r ss x vs = L ++ [y] → walk r ss x (vs ++ ws) = walk r ss x vs ++ walk r ss y ws
  | [], x, y, L, _, h => by
    have : L = [] ∧ x = y := by
      cases L with
      | nil => simpa [walk] using h
      | cons z L => simp [walk] at h
    rw [this.2]
    simp [walk]
  | v :: vs, x, y, L, hl, h => by
    rw [List.cons_append]
    cases hk : likeP v (chs ss x) with
    | none => simp [walk, hk] at hl
    | some c =>
      simp only [walk, hk] at hl h ⊢
      cases L with
      | nil => simp at h
      | cons z L =>
        simp only [List.cons_append, List.cons.injEq] at h
        rw [walk_append vs _ y L (by simpa using hl) h.2]
        simp
/-- where a law has come to: its choices are possible, the stand is the one behind them -/
structure At (r : Rcv) (ss : List Snd) (past : List (List Bool)) (x : SS) : Prop where
  ok : OkSS r ss x
  len : (walk r ss (st0 ss) (past.map eCh)).length = past.length
  last : ∃ L, st0 ss :: walk r ss (st0 ss) (past.map eCh) = L ++ [x]
  sm : ∀ c ∈ past, c.length ≤ 3
theorem at0 {r : Rcv} {ss : List Snd} (ok : OkPl r ss) : At r ss [] (st0 ss) := ⟨st0_ok ok, rfl, ⟨[], rfl⟩, fun _ h => by simp at h⟩
theorem At.walk1 {r : Rcv} {ss : List Snd} {past : List (List Bool)} {x : SS} (a : At r ss past x) (v : PD) : walk r ss (st0 ss) (past.map eCh ++ [v]) = walk r ss (st0 ss) (past.map eCh) ++ walk r ss x [v] := by
  obtain ⟨L, h⟩ := a.last
  exact walk_append _ _ _ L (by rw [a.len, List.length_map]) h
theorem At.step {r : Rcv} {ss : List Snd} (ok : OkPl r ss) {past : List (List Bool)} {x : SS} (a : At r ss past x) {c : List Bool} (hc : c ∈ chs ss x) : At r ss (past ++ [c]) (nSS r ss x c) := by
  have w := a.walk1 (eCh c)
  have e1 : walk r ss x [eCh c] = [nSS r ss x c] := by
    unfold walk
    rw [likeP_ch hc]
    rfl
  rw [e1] at w
  have n3 := ok.n3
  have hl : c.length = ss.length := ch_len hc
  refine ⟨nSS_ok ok a.ok c, ?_, ?_, fun d hd => ?_⟩
  · rw [List.map_append, List.map_singleton, w, List.length_append, a.len, List.length_append]
    rfl
  · rw [List.map_append, List.map_singleton, w]
    exact ⟨st0 ss :: walk r ss (st0 ss) (past.map eCh), rfl⟩
  · rcases List.mem_append.mp hd with h | h
    · exact a.sm d h
    · have : d = c := by simpa using h
      rw [this]
      omega
theorem At.slim {r : Rcv} {ss : List Snd} {past : List (List Bool)} {x : SS} (a : At r ss past x) : ∀ v ∈ past.map eCh, slimTop v := fun v hv => by
  obtain ⟨c, hc, rfl⟩ := List.mem_map.mp hv
  have := a.sm c hc
  show (c.map PyData.bool).length ≤ 1000
  rw [List.length_map]
  omega
theorem At.isRun {r : Rcv} {ss : List Snd} {past : List (List Bool)} {x : SS} (a : At r ss past x) (h : past.length ≤ 60) : isRun r ss (.tuple (past.map eCh)) = true := by
  have h1 : (past.map eCh).length ≤ 60 := by rw [List.length_map]; exact h
  have h2 : (walk r ss (st0 ss) (past.map eCh)).length = (past.map eCh).length := by rw [a.len, List.length_map]
  unfold Er.isRun
  dsimp only
  rw [decide_eq_true h1, decide_eq_true h2]
  rfl
theorem At.isRun1 {r : Rcv} {ss : List Snd} {past : List (List Bool)} {x : SS} (a : At r ss past x) (v : PD) : Er.isRun r ss (.tuple (past.map eCh ++ [v])) = ((likeP v (chs ss x)).isSome && decide (past.length < 60)) := by
  have h1 : (past.map eCh ++ [v]).length = past.length + 1 := by simp
  unfold Er.isRun
  dsimp only
  rw [a.walk1 v, h1, List.length_append, a.len]
  have d1 : decide (past.length + 1 ≤ 60) = decide (past.length < 60) := rfl
  rw [d1, Bool.and_comm]
  congr 1
  unfold walk
  cases likeP v (chs ss x) <;> simp [walk]
/-! data of which a law asks -/
theorem TW.tup {k : Nat} {l : List PD} (hl : l.length ≤ 5000000) (h : ∀ x ∈ l, TW k x) : TW (k + 1) (.tuple l) := .inr ⟨l, .inl rfl, hl, h⟩
theorem TW.lst {k : Nat} {l : List PD} (hl : l.length ≤ 5000000) (h : ∀ x ∈ l, TW k x) : TW (k + 1) (.list l) := .inr ⟨l, .inr rfl, hl, h⟩
theorem TW.up : ∀ {k : Nat} {v : PD}, TW k v → TW (k + 1) v
  | 0, v, h => .inl h
  | k + 1, v, h => by
    rcases h with h | ⟨l, hv, hl, h⟩
    · exact .inl h
    · exact .inr ⟨l, hv, hl, fun x hx => TW.up (h x hx)⟩
theorem TW.le {k j : Nat} {v : PD} (h : TW k v) (hk : k ≤ j) : TW j v := by
  induction j with
  | zero =>
    have : k = 0 := by omega
    subst this
    exact h
  | succ j ih =>
    by_cases z : k = j + 1
    · subst z; exact h
    · exact (ih (by omega)).up
theorem TW_int (i : Int) {k : Nat} : TW k (.int i) := .atom rfl
theorem TW_ch {c : List Bool} (h : c.length ≤ 1000) : TW 1 (eCh c) := .tup (by rw [List.length_map]; omega) fun x hx => by
  obtain ⟨b, _, rfl⟩ := List.mem_map.mp hx
  exact .atom rfl
theorem TW_chs {L : List (List Bool)} (h : L.length ≤ 1000) (h2 : ∀ c ∈ L, c.length ≤ 1000) : TW 2 (.list (L.map eCh)) := .lst (by rw [List.length_map]; omega) fun x hx => by
  obtain ⟨c, hc, rfl⟩ := List.mem_map.mp hx
  exact TW_ch (h2 c hc)
theorem TW_ix {l : List Nat} (h : l.length ≤ 1000) : TW 1 (.tuple (eIx l)) := .tup (by unfold eIx; rw [List.length_map]; omega) fun x hx => by
  obtain ⟨b, _, rfl⟩ := List.mem_map.mp hx
  exact .atom rfl
theorem TW_prt (p : Prt) : TW 1 (ePrt p) := .tup (by simp) fun x hx => by
  have : x = .str (nm p.ph) ∨ x = .int p.told ∨ x = .int p.passed ∨ x = .int p.got := by simpa using hx
  rcases this with e | e | e | e <;> rw [e]
  · exact .atom (nm_sh p.ph)
  · exact TW_int _
  · exact TW_int _
  · exact TW_int _
theorem TW_st {e : Ear} {ps : List Prt} (h : ps.length ≤ 3) : TW 3 (eSt e ps) := .tup (by simp) fun x hx => by
  have : x = eEar e ∨ x = .tuple (ps.map ePrt) := by simpa using hx
  rcases this with e1 | e1 <;> rw [e1]
  · refine TW.le (k := 1) (.tup (by simp) fun y hy => ?_) (by decide)
    have : y = .int e.row ∨ y = .int e.passed ∨ y = .int e.silent := by simpa using hy
    rcases this with e2 | e2 | e2 <;> rw [e2] <;> exact TW_int _
  · refine .tup (by rw [List.length_map]; omega) fun y hy => ?_
    obtain ⟨p, _, rfl⟩ := List.mem_map.mp hy
    exact TW_prt p
theorem TW_eO (o : Option Int) {k : Nat} : TW k (eO o) := by
  cases o
  · exact .atom rfl
  · exact TW_int _
theorem chs_len (ss : List Snd) (x : SS) (h : ss.length ≤ 3) : (chs ss x).length ≤ 8 ∧ 1 ≤ (chs ss x).length := by
  obtain ⟨c1, c2⟩ := chAll_len (fs := frees ss x.2 ss.length)
  rw [frees_len] at c2
  have c2 : (chs ss x).length ≤ 2 ^ ss.length := c2
  have : ss.length = 0 ∨ ss.length = 1 ∨ ss.length = 2 ∨ ss.length = 3 := by omega
  refine ⟨by rcases this with e | e | e | e <;> rw [e] at c2 <;> simp at c2 <;> omega, ?_⟩
  have key : ∀ (gs : List Bool) (L : List (List Bool)), 1 ≤ L.length → 1 ≤ (gs.foldl chStep L).length := fun gs => by
    induction gs with
    | nil => exact fun L h => h
    | cons g gs ih =>
      intro L h
      refine ih _ ?_
      cases L with
      | nil => simp at h
      | cons z L => cases g <;> simp [chStep]
  exact key _ [[]] (by simp)
theorem heard_air {r : Rcv} {ss : List Snd} (ok : OkPl r ss) {x : SS} (o : OkSS r ss x) : eO (heardP r x.1 x.2) = if airF 0 x.2 (rowC r x.1.row) = true then .int (rowC r x.1.row) else .none := by
  rw [air_eq ok o]
  unfold heardP
  by_cases z : (x.2.getD (rowC r x.1.row).toNat default).ph = .call
  · rw [if_pos z, decide_eq_true z]; rfl
  · rw [if_neg z, decide_eq_false z]; rfl
/-! parts of data -/
theorem ix_pl0 {r : Rcv} {ss : List Snd} : idxD (ePl r ss) (.int 0) = some (eRcv r) := rfl
theorem ix_pl1 {r : Rcv} {ss : List Snd} : idxD (ePl r ss) (.int 1) = some (.tuple (ss.map eSnd)) := rfl
theorem ix_rc0 {r : Rcv} : idxD (eRcv r) (.int 0) = some (.tuple (r.rows.map eRow)) := rfl
theorem ix_ss0 {x : SS} : idxD (eSS x) (.int 0) = some (eEar x.1) := rfl
theorem ix_ss1 {x : SS} : idxD (eSS x) (.int 1) = some (.tuple (x.2.map ePrt)) := rfl
theorem ix_ea0 {e : Ear} : idxD (eEar e) (.int 0) = some (.int e.row) := rfl
theorem run_air_st {r : Rcv} {ss : List Snd} (ok : OkPl r ss) {x : SS} (o : OkSS r ss x) : ∃ L, run Pt (gvOf Ct) wf (n + 1) 24 [.d (eSS x)] = some (.ret (.list L), [.d (eSS x)]) ∧ cmpD .isin (.int (rowC r x.1.row)) (.list L) = some (airF 0 x.2 (rowC r x.1.row)) := by
  have n3 := ok.n3
  have a0 := run_air (wf := wf) (n := n) (e := eEar x.1) (ps := x.2) (by have := o.len; omega)
  obtain ⟨a1, a2⟩ := air_any (rowC r x.1.row) x.2 0
  have a3 := isin_if (x := .int (rowC r x.1.row)) sh_int (sh_ints a2)
  rw [a1] at a3
  exact ⟨_, a0, a3⟩
end Er

set_option Elab.async false
set_option linter.all false
set_option maxRecDepth 100000
set_option maxHeartbeats 0
/-! S30: dicts by typed keys; stands as keys; how many stands there are. -/
namespace Er
open PySem L2
instance : DecidableEq Ear := fun a b =>
  if h : a.row = b.row ∧ a.passed = b.passed ∧ a.silent = b.silent then isTrue (by
    obtain ⟨a1, a2, a3⟩ := a
    obtain ⟨b1, b2, b3⟩ := b
    obtain ⟨h1, h2, h3⟩ := h
    dsimp only at h1 h2 h3
    rw [h1, h2, h3])
  else isFalse fun e => h (by rw [e]; exact ⟨rfl, rfl, rfl⟩)
instance : DecidableEq Prt := fun a b =>
  if h : a.ph = b.ph ∧ a.told = b.told ∧ a.passed = b.passed ∧ a.got = b.got then isTrue (by
    obtain ⟨a1, a2, a3, a4⟩ := a
    obtain ⟨b1, b2, b3, b4⟩ := b
    obtain ⟨h1, h2, h3, h4⟩ := h
    dsimp only at h1 h2 h3 h4
    rw [h1, h2, h3, h4])
  else isFalse fun e => h (by rw [e]; exact ⟨rfl, rfl, rfl, rfl⟩)
/-! dicts by typed keys -/
structure Enc (α : Type) where
  e : α → PD
  k : α → NestedKey
  t : Bool
  hk : ∀ a, keyD (e a) = some (k a)
  inj : ∀ a b, k a = k b → a = b
  ht : ∀ a, isTup (e a) = t
section
variable {α β : Type} [DecidableEq α]
def lk (D : List (α × β)) (a : α) : Option β := (D.find? fun p => decide (p.1 = a)).map (·.2)
def eDg (E : Enc α) (f : β → PD) (D : List (α × β)) : List (PD × PD) := D.map fun p => (E.e p.1, f p.2)
omit [DecidableEq α] in
theorem okKey_eD (E : Enc α) (f : β → PD) (D : List (α × β)) : okKey E.t (eDg E f D) = true := by
  unfold okKey eDg
  rw [List.all_map, List.all_eq_true]
  intro p _
  simp [E.hk, E.ht]
theorem keyEq_e (E : Enc α) (a b : α) : keyEq (E.k a) (E.e b) = decide (b = a) := by
  unfold keyEq
  rw [E.hk]
  by_cases h : b = a
  · simp [h]
  · simp [h]
    exact fun z => h (E.inj _ _ z)
theorem getK_eD (E : Enc α) (f : β → PD) (D : List (α × β)) (a : α) : getK (eDg E f D) (E.k a) = (lk D a).map f := by
  unfold getK lk eDg
  rw [List.find?_map, Option.map_map, Option.map_map]
  have : ((fun p : PD × PD => keyEq (E.k a) p.1) ∘ fun p : α × β => (E.e p.1, f p.2)) = fun p => decide (p.1 = a) := by
    funext p
    exact keyEq_e E a p.1
  rw [this]
  rfl
theorem dGet_eD (E : Enc α) (f : β → PD) (D : List (α × β)) (a : α) : dGet (eDg E f D) (E.e a) = some ((lk D a).map f) := by
  unfold dGet
  rw [E.hk, E.ht]
  dsimp only
  rw [if_pos (okKey_eD E f D), getK_eD]
theorem lk_none {D : List (α × β)} {a : α} : lk D a = none ↔ (D.any fun p => decide (p.1 = a)) = false := by
  unfold lk
  rw [Option.map_eq_none_iff, List.find?_eq_none, List.any_eq_false]
theorem dPut_eD (E : Enc α) (f : β → PD) (D : List (α × β)) (a : α) (b : β) (h : lk D a = none) (hl : D.length < lim) : dPut (eDg E f D) (E.e a) (f b) = some (eDg E f (D ++ [(a, b)])) := by
  unfold dPut
  rw [E.hk, E.ht]
  dsimp only
  rw [if_pos ⟨okKey_eD E f D, by unfold eDg; rw [List.length_map]; exact hl⟩]
  unfold putKD
  have : ((eDg E f D).any fun p => keyEq (E.k a) p.1) = false := by
    unfold eDg
    rw [List.any_map, ← lk_none.mp h]
    congr 1
    funext p
    exact keyEq_e E a p.1
  rw [this]
  simp [eDg]
theorem lk_mem {D : List (α × β)} {a : α} {b : β} (h : lk D a = some b) : (a, b) ∈ D := by
  unfold lk at h
  obtain ⟨p, h1, rfl⟩ := Option.map_eq_some_iff.mp h
  have h2 := List.find?_some h1
  have e : p.1 = a := of_decide_eq_true h2
  rw [← e]
  exact List.mem_of_find?_eq_some h1
theorem lk_of {D : List (α × β)} {a : α} {b : β} (nd : (D.map (·.1)).Nodup) (h : (a, b) ∈ D) : lk D a = some b := by
  induction D with
  | nil => cases h
  | cons p D ih =>
    rw [List.map_cons, List.nodup_cons] at nd
    unfold lk
    rw [List.find?_cons]
    rcases List.mem_cons.mp h with e | h
    · subst e
      simp
    · have hne : ¬ p.1 = a := fun z => nd.1 (List.mem_map.mpr ⟨_, h, z.symm⟩)
      rw [decide_eq_false hne]
      exact ih nd.2 h
theorem lk_notin {D : List (α × β)} {a : α} : lk D a = none ↔ a ∉ D.map (·.1) := by
  rw [lk_none, List.any_eq_false]
  constructor
  · intro h z
    obtain ⟨p, hp, e⟩ := List.mem_map.mp z
    exact h p hp (decide_eq_true e)
  · intro h p hp z
    exact h (List.mem_map.mpr ⟨p, hp, of_decide_eq_true z⟩)
theorem lk_snoc {D : List (α × β)} {a x : α} {b : β} : lk (D ++ [(x, b)]) a = (lk D a).or (if x = a then some b else none) := by
  unfold lk
  rw [List.find?_append]
  cases h : D.find? fun p => decide (p.1 = a) with
  | some p => simp
  | none =>
    by_cases e : x = a
    · simp [e]
    · simp [e]
end
/-! stands as keys -/
def kPrt (p : Prt) : NestedKey := .tup [.text (nm p.ph), .num p.told, .num p.passed, .num p.got]
def kSS (x : SS) : NestedKey := .tup [.tup [.num x.1.row, .num x.1.passed, .num x.1.silent], .tup (x.2.map kPrt)]
theorem keyN_prt (p : Prt) : keyN (ePrt p) = some (kPrt p) := by
  simp [ePrt, keyN, keyNs, kPrt]
theorem keyNs_prts : ∀ ps : List Prt, keyNs (ps.map ePrt) = some (ps.map kPrt)
  | [] => by simp [keyNs]
  | p :: ps => by
    rw [List.map_cons, keyNs, keyN_prt, keyNs_prts ps]
    rfl
theorem keyN_ss (x : SS) : keyN (eSS x) = some (kSS x) := by
  simp [eSS, eSt, keyN, keyNs, keyNs_prts, eEar, kSS]
theorem nm_inj : ∀ {a b : Ph}, nm a = nm b → a = b := by
  intro a b
  cases a <;> cases b <;> intro h <;> first | rfl | (revert h; decide)
theorem kPrt_inj {p q : Prt} (h : kPrt p = kPrt q) : p = q := by
  unfold kPrt at h
  injection h with h
  simp only [List.cons.injEq, NestedKey.text.injEq, NestedKey.num.injEq, and_true] at h
  obtain ⟨h1, h2, h3, h4⟩ := h
  obtain ⟨a, b, c, d⟩ := p
  obtain ⟨a', b', c', d'⟩ := q
  have := nm_inj h1
  simp at this h2 h3 h4
  subst this h2 h3 h4
  rfl
theorem kSS_inj {x y : SS} (h : kSS x = kSS y) : x = y := by
  unfold kSS at h
  injection h with h
  simp only [List.cons.injEq, NestedKey.tup.injEq, NestedKey.num.injEq, and_true] at h
  obtain ⟨⟨h1, h2, h3⟩, h4⟩ := h
  obtain ⟨⟨a, b, c⟩, ps⟩ := x
  obtain ⟨⟨a', b', c'⟩, qs⟩ := y
  simp at h1 h2 h3 h4
  subst h1 h2 h3
  have : ps = qs := map_inj (f := kPrt) (fun h => kPrt_inj h) h4
  rw [this]
theorem kSS_depth (x : SS) : (kSS x).depth ≤ 8 := by
  have h : ∀ ps : List Prt, NestedKey.depthAll (ps.map kPrt) ≤ 1 := by
    intro ps
    induction ps with
    | nil => simp [NestedKey.depthAll]
    | cons p ps ih =>
      rw [List.map_cons, NestedKey.depthAll]
      have : (kPrt p).depth ≤ 1 := by simp [kPrt, NestedKey.depth, NestedKey.depthAll]
      omega
  have := h x.2
  simp [kSS, NestedKey.depth, NestedKey.depthAll]
  omega
def encSS : Enc SS where
  e := eSS
  k := kSS
  t := true
  hk := fun x => by
    have := keyN_ss x
    show (keyN (eSS x)).bind _ = _
    rw [this]
    show (if (kSS x).depth ≤ 8 then some (kSS x) else none) = _
    rw [if_pos (kSS_depth x)]
  inj := fun _ _ h => kSS_inj h
  ht := fun _ => rfl
def encI : Enc Nat where
  e := fun i => .int (i : Int)
  k := fun i => .num (i : Int)
  t := false
  hk := fun _ => rfl
  inj := fun a b h => by
    injection h with h
    omega
  ht := fun _ => rfl
/-! how many stands there are -/
def codeP (p : Prt) : Int := match p.ph with
  | .idle => 0
  | .call => 1 + p.told * 10 + ((if p.passed = 0 then 0 else if p.passed = 1 then 1 else if p.passed = 2 then 3 else 6) + p.got)
  | .pause => 31 + (p.told - 1) * 4 + p.passed
theorem codeP_lt {s : Snd} (os : OkSnd s) {p : Prt} (op : OkPrt s p) : 0 ≤ codeP p ∧ codeP p < 39 := by
  obtain ⟨a1, a2, a3, a4, a5, a6, a7, a8, a9, a10⟩ := os
  unfold codeP
  split
  · omega
  · rename_i h
    have := op.call h
    split <;> (try split) <;> (try split) <;> omega
  · rename_i h
    have := op.pause h
    omega
theorem codeP_inj {s : Snd} (os : OkSnd s) {p q : Prt} (op : OkPrt s p) (oq : OkPrt s q) (h : codeP p = codeP q) : p = q := by
  obtain ⟨a1, a2, a3, a4, a5, a6, a7, a8, a9, a10⟩ := os
  obtain ⟨ph, t, u, g⟩ := p
  obtain ⟨ph', t', u', g'⟩ := q
  have i1 := op.idle
  have c1 := op.call
  have p1 := op.pause
  have i2 := oq.idle
  have c2 := oq.call
  have p2 := oq.pause
  unfold codeP at h
  dsimp only at h i1 c1 p1 i2 c2 p2
  cases ph <;> cases ph' <;> simp at h i1 c1 p1 i2 c2 p2
  · simp; omega
  · exfalso
    revert h
    split <;> (try split) <;> (try split) <;> omega
  · omega
  · exfalso
    revert h
    split <;> (try split) <;> (try split) <;> omega
  · have hu : u = 0 ∨ u = 1 ∨ u = 2 ∨ u = 3 := by omega
    have hu' : u' = 0 ∨ u' = 1 ∨ u' = 2 ∨ u' = 3 := by omega
    have : t = t' ∧ u = u' ∧ g = g' := by
      rcases hu with e | e | e | e <;> rcases hu' with e' | e' | e' | e' <;> subst e <;> subst e' <;> simp at h <;> omega
    simp [this]
  · exfalso
    revert h
    split <;> (try split) <;> (try split) <;> omega
  · omega
  · exfalso
    revert h
    split <;> (try split) <;> (try split) <;> omega
  · simp; omega
def codeE (e : Ear) : Int := (e.row * 4 + e.passed) * 4 + (e.silent + 1)
theorem earS_small {r : Rcv} (ok : OkRcv r) {e : Ear} (oe : OkEarS r e) : 0 ≤ e.row ∧ e.row < 4 ∧ 0 ≤ e.passed ∧ e.passed < 4 ∧ -1 ≤ e.silent ∧ e.silent ≤ 2 := by
  obtain ⟨h1, h2, h3, h4, h5, h6⟩ := oe
  have l2 := ok.l2
  have rt := (rowT_pos ok h1 h2).2
  have hh : hangT r.hang ≤ 2 := by
    unfold hangT
    split
    · decide
    · rename_i h e
      exact (ok.hg h e).2
  omega
def codeL : List Prt → Int
  | [] => 0
  | p :: ps => codeP p + 39 * codeL ps
def codeS (x : SS) : Int := codeE x.1 + 64 * codeL x.2
theorem codeL_ok : ∀ {ss : List Snd} {ps : List Prt}, (∀ s ∈ ss, OkSnd s) → ps.length = ss.length → (∀ k, k < ss.length → OkPrt (ss.getD k default) (ps.getD k default)) → 0 ≤ codeL ps ∧ codeL ps < 39 ^ ss.length
  | [], [], _, _, _ => by decide
  | [], _ :: _, _, h, _ => by simp at h
  | _ :: _, [], _, h, _ => by simp at h
  | s :: ss, p :: ps, hs, hl, hk => by
    have ih := codeL_ok (ss := ss) (ps := ps) (fun s h => hs s (by simp [h])) (by simpa using hl) (fun k h => by
      have := hk (k + 1) (by simp; omega)
      simpa using this)
    have h0 := codeP_lt (hs s (by simp)) (by simpa using hk 0 (by simp) : OkPrt s p)
    have e : (39 : Int) ^ (ss.length + 1) = 39 * 39 ^ ss.length := by rw [Int.pow_succ]; omega
    rw [List.length_cons, e]
    unfold codeL
    omega
theorem codeL_inj : ∀ {ss : List Snd} {ps qs : List Prt}, (∀ s ∈ ss, OkSnd s) → ps.length = ss.length → (∀ k, k < ss.length → OkPrt (ss.getD k default) (ps.getD k default)) → qs.length = ss.length → (∀ k, k < ss.length → OkPrt (ss.getD k default) (qs.getD k default)) → codeL ps = codeL qs → ps = qs
  | [], [], [], _, _, _, _, _, _ => rfl
  | [], _ :: _, _, _, h, _, _, _, _ => by simp at h
  | [], [], _ :: _, _, _, _, h, _, _ => by simp at h
  | _ :: _, [], _, _, h, _, _, _, _ => by simp at h
  | _ :: _, _ :: _, [], _, _, _, h, _, _ => by simp at h
  | s :: ss, p :: ps, q :: qs, hs, hl, hk, hl2, hk2, h => by
    have hp : OkPrt s p := by simpa using hk 0 (by simp)
    have hq : OkPrt s q := by simpa using hk2 0 (by simp)
    have a1 := codeP_lt (hs s (by simp)) hp
    have a2 := codeP_lt (hs s (by simp)) hq
    unfold codeL at h
    have e1 : codeP p = codeP q := by omega
    have e2 : codeL ps = codeL qs := by omega
    rw [codeP_inj (hs s (by simp)) hp hq e1]
    rw [codeL_inj (ss := ss) (ps := ps) (qs := qs) (fun s h => hs s (by simp [h])) (by simpa using hl) (fun k h => by
      have := hk (k + 1) (by simp; omega)
      simpa using this) (by simpa using hl2) (fun k h => by
      have := hk2 (k + 1) (by simp; omega)
      simpa using this) e2]
def most : Nat := 3796416
theorem codeS_lt {r : Rcv} {ss : List Snd} (ok : OkPl r ss) {x : SS} (o : OkSS r ss x) : 0 ≤ codeS x ∧ codeS x < most := by
  have h1 := earS_small ok.rc o.er
  have h2 := codeL_ok ok.sn o.len o.pt
  have h3 : (39 : Int) ^ ss.length ≤ 39 ^ 3 := by
    have := ok.n2
    have := ok.n3
    have : ss.length = 2 ∨ ss.length = 3 := by omega
    rcases this with e | e <;> rw [e] <;> decide
  have h4 : (39 : Int) ^ 3 = 59319 := by decide
  unfold codeS codeE most
  omega
theorem codeS_inj {r : Rcv} {ss : List Snd} (ok : OkPl r ss) {x y : SS} (o : OkSS r ss x) (o2 : OkSS r ss y) (h : codeS x = codeS y) : x = y := by
  have h1 := earS_small ok.rc o.er
  have h2 := earS_small ok.rc o2.er
  have h3 := codeL_ok ok.sn o.len o.pt
  have h4 := codeL_ok ok.sn o2.len o2.pt
  obtain ⟨⟨a, b, c⟩, ps⟩ := x
  obtain ⟨⟨a', b', c'⟩, qs⟩ := y
  unfold codeS codeE at h
  dsimp only at h h1 h2 h3 h4
  have e1 : codeL ps = codeL qs := by omega
  have e2 : a = a' ∧ b = b' ∧ c = c' := by omega
  obtain ⟨rfl, rfl, rfl⟩ := e2
  have e3 : ps = qs := codeL_inj ok.sn o.len o.pt o2.len o2.pt e1
  rw [e3]
/-- not more stands than that -/
theorem stands_most {r : Rcv} {ss : List Snd} (ok : OkPl r ss) {L : List SS} (h : ∀ x ∈ L, OkSS r ss x) (nd : L.Nodup) : L.length ≤ most := by
  have h1 : (L.map fun x => (codeS x).toNat).Nodup := by
    induction L with
    | nil => exact List.nodup_nil
    | cons x L ih =>
      obtain ⟨n1, n2⟩ := List.nodup_cons.mp nd
      rw [List.map_cons, List.nodup_cons]
      refine ⟨fun z => ?_, ih (fun y hy => h y (by simp [hy])) n2⟩
      obtain ⟨y, hy, e⟩ := List.mem_map.mp z
      have oy := h y (by simp [hy])
      have ox := h x (by simp)
      have c1 := codeS_lt ok ox
      have c2 := codeS_lt ok oy
      have : codeS y = codeS x := by omega
      rw [codeS_inj ok oy ox this] at hy
      exact n1 hy
  have h2 := nat_nodup_len (L.map fun x => (codeS x).toNat) (List.range most) h1 fun x hx => by
    obtain ⟨y, hy, rfl⟩ := List.mem_map.mp hx
    have := codeS_lt ok (h y hy)
    rw [List.mem_range]
    omega
  rw [List.length_map, List.length_range] at h2
  exact h2
end Er

set_option Elab.async false
set_option linter.all false
set_option maxRecDepth 100000
set_option maxHeartbeats 0
/-! S37: two ears side by side: what parts them, in plain words. -/
namespace Er
open PySem L2
abbrev EE : Type := Ear × Ear
def eEE (x : EE) : PD := .tuple [eEar x.1, eEar x.2]
abbrev Snt : Type := List Int
def eSn (s : Snt) : PD := .tuple (s.map .int)
abbrev Pth : Type := List Snt
def ePt (c : Pth) : PD := .tuple (c.map eSn)
def SENTS : List Snt := [[], [0], [0, 1], [0, 1, 2], [0, 2], [1], [1, 2], [2]]
def kEar (e : Ear) : NestedKey := .tup [.num e.row, .num e.passed, .num e.silent]
def kEE (x : EE) : NestedKey := .tup [kEar x.1, kEar x.2]
theorem keyN_ear (e : Ear) : keyN (eEar e) = some (kEar e) := by
  simp [eEar, keyN, keyNs, kEar]
theorem keyN_ee (x : EE) : keyN (eEE x) = some (kEE x) := by
  simp [eEE, keyN, keyNs, keyN_ear, kEE]
theorem kEar_inj {a b : Ear} (h : kEar a = kEar b) : a = b := by
  unfold kEar at h
  injection h with h
  simp only [List.cons.injEq, NestedKey.num.injEq, and_true] at h
  obtain ⟨h1, h2, h3⟩ := h
  obtain ⟨a1, a2, a3⟩ := a
  obtain ⟨b1, b2, b3⟩ := b
  dsimp only at h1 h2 h3
  rw [h1, h2, h3]
theorem kEE_inj {x y : EE} (h : kEE x = kEE y) : x = y := by
  unfold kEE at h
  injection h with h
  simp only [List.cons.injEq, and_true] at h
  obtain ⟨a, b⟩ := x
  obtain ⟨a', b'⟩ := y
  rw [show a = a' from kEar_inj h.1, show b = b' from kEar_inj h.2]
def encEE : Enc EE where
  e := eEE
  k := kEE
  t := true
  hk := fun x => by
    have := keyN_ee x
    show (keyN (eEE x)).bind _ = _
    rw [this]
    show (if (kEE x).depth ≤ 8 then some (kEE x) else none) = _
    rw [if_pos (by simp [kEE, kEar, NestedKey.depth, NestedKey.depthAll])]
  inj := fun _ _ h => kEE_inj h
  ht := fun _ => rfl
abbrev DQ : Type := List (EE × Pth)
def eQ (D : DQ) : List (PD × PD) := eDg encEE ePt D
def hearC (r : Rcv) (e : Ear) (s : Snt) : Option Int := if rowC r e.row ∈ s then some (rowC r e.row) else none
def nxE (a b : Rcv) (x : EE) (h : Bool) : EE := (earP a x.1 h, earP b x.2 h)
def addQ (D : DQ) (y : EE) (p : Pth) : DQ := if (lk D y).isSome = true then D else D ++ [(y, p)]
section
variable (a b : Rcv)
def inQ (x : EE) (past : Pth) : List Snt → DQ → Pth ⊕ DQ
  | [], D => .inr D
  | s :: l, D => if hearC a x.1 s = hearC b x.2 s then inQ x past l (addQ D (nxE a b x (hearC a x.1 s).isSome) (past ++ [s])) else .inl (past ++ [s])
def bfsQ : Nat → Nat → DQ → Option (Option Pth)
  | 0, _, _ => none
  | f + 1, i, D => match D[i]? with
    | none => some none
    | some p => match inQ a b p.1 p.2 SENTS D with
      | .inl r => some (some r)
      | .inr D' => bfsQ f (i + 1) D'
end
def ee0 : EE := (eaP0, eaP0)
def partQ (wf : Nat) (a b : Rcv) : Option Pth := (bfsQ a b wf 0 [(ee0, [])]).getD none
structure OkQ (a b : Rcv) (D : DQ) : Prop where
  ok : ∀ p ∈ D, OkEarS a p.1.1 ∧ OkEarS b p.1.2
  nd : (D.map (·.1)).Nodup
  ln : ∀ p ∈ D, p.2.length < D.length
  rn : ∀ p ∈ D, ∀ s ∈ p.2, s ∈ SENTS
section
variable {a b : Rcv}
def codeEE (x : EE) : Int := codeE x.1 + 64 * codeE x.2
theorem codeE_lt {r : Rcv} (ok : OkRcv r) {e : Ear} (oe : OkEarS r e) : 0 ≤ codeE e ∧ codeE e < 64 := by
  have := earS_small ok oe
  unfold codeE
  omega
theorem codeE_inj {r : Rcv} (ok : OkRcv r) {e f : Ear} (oe : OkEarS r e) (of : OkEarS r f) (h : codeE e = codeE f) : e = f := by
  have h1 := earS_small ok oe
  have h2 := earS_small ok of
  obtain ⟨a, b, c⟩ := e
  obtain ⟨a', b', c'⟩ := f
  unfold codeE at h
  dsimp only at h h1 h2
  have e2 : a = a' ∧ b = b' ∧ c = c' := by omega
  obtain ⟨rfl, rfl, rfl⟩ := e2
  rfl
theorem OkQ.most (oka : OkRcv a) (okb : OkRcv b) {D : DQ} (o : OkQ a b D) : D.length ≤ 4096 := by
  have key : ∀ L : List EE, (∀ x ∈ L, OkEarS a x.1 ∧ OkEarS b x.2) → L.Nodup → L.length ≤ 4096 := fun L h nd => by
    have h1 : (L.map fun x => (codeEE x).toNat).Nodup := by
      induction L with
      | nil => exact List.nodup_nil
      | cons x L ih =>
        obtain ⟨n1, n2⟩ := List.nodup_cons.mp nd
        rw [List.map_cons, List.nodup_cons]
        refine ⟨fun z => ?_, ih (fun y hy => h y (by simp [hy])) n2⟩
        obtain ⟨y, hy, e⟩ := List.mem_map.mp z
        have oy := h y (by simp [hy])
        have ox := h x (by simp)
        have c1 := codeE_lt oka oy.1
        have c2 := codeE_lt okb oy.2
        have c3 := codeE_lt oka ox.1
        have c4 := codeE_lt okb ox.2
        unfold codeEE at e
        have e1 : codeE y.1 = codeE x.1 := by omega
        have e2 : codeE y.2 = codeE x.2 := by omega
        have e3 := codeE_inj oka oy.1 ox.1 e1
        have e4 := codeE_inj okb oy.2 ox.2 e2
        have : y = x := Prod.ext e3 e4
        rw [this] at hy
        exact n1 hy
    have h2 := nat_nodup_len (L.map fun x => (codeEE x).toNat) (List.range 4096) h1 fun x hx => by
      obtain ⟨y, hy, rfl⟩ := List.mem_map.mp hx
      have o := h y hy
      have c1 := codeE_lt oka o.1
      have c2 := codeE_lt okb o.2
      unfold codeEE
      rw [List.mem_range]
      omega
    rw [List.length_map, List.length_range] at h2
    exact h2
  have := key (D.map (·.1)) (fun x hx => by
    obtain ⟨p, hp, rfl⟩ := List.mem_map.mp hx
    exact o.ok p hp) o.nd
  rwa [List.length_map] at this
theorem addQ_ok (oka : OkRcv a) (okb : OkRcv b) {D : DQ} (o : OkQ a b D) {x : EE} {past : Pth} (hx : lk D x = some past) {s : Snt} (hs : s ∈ SENTS) (w : Bool) : OkQ a b (addQ D (nxE a b x w) (past ++ [s])) ∧ lk (addQ D (nxE a b x w) (past ++ [s])) x = some past ∧ D.length ≤ (addQ D (nxE a b x w) (past ++ [s])).length := by
  have hm := lk_mem hx
  have ox := o.ok _ hm
  have lx := o.ln _ hm
  unfold addQ
  cases hl : lk D (nxE a b x w) with
  | some p => exact ⟨o, hx, Nat.le_refl _⟩
  | none =>
    simp only [Option.isSome_none, Bool.false_eq_true, if_false]
    refine ⟨⟨fun p hp => ?_, ?_, fun p hp => ?_, fun p hp d hd => ?_⟩, ?_, by simp⟩
    · rcases List.mem_append.mp hp with h | h
      · exact o.ok p h
      · have : p = (nxE a b x w, past ++ [s]) := by simpa using h
        rw [this]
        exact ⟨earS_ok oka ox.1 _, earS_ok okb ox.2 _⟩
    · rw [List.map_append, List.nodup_append]
      refine ⟨o.nd, by simp, fun c hc d hd => ?_⟩
      have e : d = nxE a b x w := by simpa using hd
      subst e
      intro z
      subst z
      exact lk_notin.mp hl hc
    · rw [List.length_append, List.length_singleton]
      rcases List.mem_append.mp hp with h | h
      · have := o.ln p h
        omega
      · have : p = (nxE a b x w, past ++ [s]) := by simpa using h
        rw [this]
        show (past ++ [s]).length < _
        rw [List.length_append, List.length_singleton]
        have : past.length < D.length := lx
        omega
    · rcases List.mem_append.mp hp with h | h
      · exact o.rn p h d hd
      · have : p = (nxE a b x w, past ++ [s]) := by simpa using h
        rw [this] at hd
        rcases List.mem_append.mp hd with h | h
        · exact o.rn _ hm d h
        · have : d = s := by simpa using h
          rw [this]
          exact hs
    · rw [lk_snoc, hx]
      rfl
/-- a result as it may be -/
def OkR (r : Pth) : Prop := r.length ≤ 4096 ∧ ∀ s ∈ r, s ∈ SENTS
theorem past_ok (oka : OkRcv a) (okb : OkRcv b) {D : DQ} (o : OkQ a b D) {x : EE} {past : Pth} (hx : lk D x = some past) {s : Snt} (hs : s ∈ SENTS) : OkR (past ++ [s]) := by
  have hm := lk_mem hx
  have lx := o.ln _ hm
  have m := o.most oka okb
  refine ⟨?_, fun d hd => ?_⟩
  · rw [List.length_append, List.length_singleton]
    have : past.length < D.length := lx
    omega
  · rcases List.mem_append.mp hd with h | h
    · exact o.rn _ hm d h
    · have : d = s := by simpa using h
      rw [this]
      exact hs
theorem inQ_ok (oka : OkRcv a) (okb : OkRcv b) {x : EE} {past : Pth} : ∀ (l : List Snt) {D : DQ}, (∀ s ∈ l, s ∈ SENTS) → OkQ a b D → lk D x = some past →
    (∀ r, inQ a b x past l D = .inl r → OkR r) ∧ (∀ D', inQ a b x past l D = .inr D' → OkQ a b D' ∧ D.length ≤ D'.length)
  | [], D, _, o, hx => ⟨fun r h => (by cases h), fun D' h => by cases h; exact ⟨o, Nat.le_refl _⟩⟩
  | s :: l, D, hl, o, hx => by
    have hs := hl s (by simp)
    obtain ⟨o1, h1, l1⟩ := addQ_ok oka okb o hx hs (hearC a x.1 s).isSome
    have ih := inQ_ok oka okb l (fun s h => hl s (by simp [h])) o1 h1
    unfold inQ
    split
    · exact ⟨ih.1, fun D' h => ⟨(ih.2 D' h).1, Nat.le_trans l1 (ih.2 D' h).2⟩⟩
    · refine ⟨fun r h => ?_, fun D' h => by cases h⟩
      cases h
      exact past_ok oka okb o hx hs
theorem at_lkQ {D : DQ} (o : OkQ a b D) {i : Nat} {p : EE × Pth} (h : D[i]? = some p) : lk D p.1 = some p.2 := lk_of o.nd (List.mem_of_getElem? h)
theorem bfsQ_some (oka : OkRcv a) (okb : OkRcv b) : ∀ (f i : Nat) (D : DQ), OkQ a b D → i ≤ D.length → 4096 < f + i → ∃ r, bfsQ a b f i D = some r ∧ ∀ p, r = some p → OkR p
  | 0, i, D, o, hi, hf => by
    have := o.most oka okb
    omega
  | f + 1, i, D, o, hi, hf => by
    unfold bfsQ
    cases h : D[i]? with
    | none => exact ⟨none, rfl, fun p e => by cases e⟩
    | some p =>
      obtain ⟨k1, k2⟩ := inQ_ok oka okb SENTS (fun _ h => h) o (at_lkQ o h)
      have hi := (List.getElem?_eq_some_iff.mp h).1
      dsimp only
      cases e : inQ a b p.1 p.2 SENTS D with
      | inl r => exact ⟨some r, rfl, fun p e' => by cases e'; exact k1 r e⟩
      | inr D' =>
        obtain ⟨o1, l1⟩ := k2 D' e
        exact bfsQ_some oka okb f (i + 1) D' o1 (by omega) (by omega)
theorem ear0_ok {r : Rcv} (ok : OkRcv r) : OkEarS r eaP0 := by
  have h := ear_next ok (l := 0) (Int.le_refl _)
  have e : (if (0 : Int) < r.rows.length then (0 : Int) else 0) = 0 := by split <;> rfl
  rw [e] at h
  exact h
theorem firstQ_ok (oka : OkRcv a) (okb : OkRcv b) : OkQ a b [(ee0, [])] := ⟨fun p hp => by
  have : p = (ee0, []) := by simpa using hp
  rw [this]
  exact ⟨ear0_ok oka, ear0_ok okb⟩, by simp, fun p hp => by
  have : p = (ee0, []) := by simpa using hp
  rw [this]
  simp, fun p hp c hc => by
  have : p = (ee0, []) := by simpa using hp
  rw [this] at hc
  cases hc⟩
theorem partQ_some {wf : Nat} (oka : OkRcv a) (okb : OkRcv b) (hw : 4096 < wf) : bfsQ a b wf 0 [(ee0, [])] = some (partQ wf a b) ∧ ∀ p, partQ wf a b = some p → OkR p := by
  obtain ⟨r, h, o⟩ := bfsQ_some oka okb wf 0 _ (firstQ_ok oka okb) (by simp) (by omega)
  unfold partQ
  rw [h]
  exact ⟨rfl, o⟩
/-! the other way round -/
def swp (x : EE) : EE := (x.2, x.1)
def swD (D : DQ) : DQ := D.map fun p => (swp p.1, p.2)
theorem swp_inj {x y : EE} : swp x = swp y ↔ x = y := by
  constructor
  · intro h
    obtain ⟨a, b⟩ := x
    obtain ⟨c, d⟩ := y
    unfold swp at h
    simp at h
    rw [h.1, h.2]
  · intro h
    rw [h]
theorem lk_sw {D : DQ} {x : EE} : lk (swD D) (swp x) = lk D x := by
  unfold lk swD
  rw [List.find?_map, Option.map_map]
  have : ((fun p : EE × Pth => decide (p.1 = swp x)) ∘ fun p : EE × Pth => (swp p.1, p.2)) = fun p => decide (p.1 = x) := by
    funext p
    show decide (swp p.1 = swp x) = _
    simp only [swp_inj]
  rw [this]
  rfl
theorem addQ_sw {D : DQ} {y : EE} {p : Pth} : addQ (swD D) (swp y) p = swD (addQ D y p) := by
  unfold addQ
  rw [lk_sw]
  split
  · rfl
  · simp [swD]
theorem inQ_sw {x : EE} {past : Pth} : ∀ (l : List Snt) (D : DQ), inQ b a (swp x) past l (swD D) = (match inQ a b x past l D with
    | .inl r => .inl r
    | .inr D' => .inr (swD D'))
  | [], D => rfl
  | s :: l, D => by
    unfold inQ
    have e1 : (swp x).1 = x.2 := rfl
    have e2 : (swp x).2 = x.1 := rfl
    rw [e1, e2]
    by_cases h : hearC a x.1 s = hearC b x.2 s
    · rw [if_pos h, if_pos h.symm, ← h]
      have e3 : nxE b a (swp x) (hearC a x.1 s).isSome = swp (nxE a b x (hearC a x.1 s).isSome) := rfl
      rw [e3, addQ_sw]
      exact inQ_sw l _
    · rw [if_neg h, if_neg (fun z => h z.symm)]
theorem bfsQ_sw : ∀ (f i : Nat) (D : DQ), bfsQ b a f i (swD D) = bfsQ a b f i D
  | 0, _, _ => rfl
  | f + 1, i, D => by
    unfold bfsQ
    have e : (swD D)[i]? = D[i]?.map fun p => (swp p.1, p.2) := by unfold swD; rw [List.getElem?_map]
    rw [e]
    cases D[i]? with
    | none => rfl
    | some p =>
      dsimp only [Option.map_some]
      rw [inQ_sw]
      cases inQ a b p.1 p.2 SENTS D with
      | inl r => rfl
      | inr D' => exact bfsQ_sw f (i + 1) D'
theorem partQ_sw {wf : Nat} : partQ wf b a = partQ wf a b := by
  unfold partQ
  have : ([(ee0, [])] : DQ) = swD [(ee0, [])] := rfl
  conv => lhs; rw [this]
  rw [bfsQ_sw]
theorem bfsQ_more : ∀ (f g i : Nat) (D : DQ) (r : Option Pth), bfsQ a b f i D = some r → f ≤ g → bfsQ a b g i D = some r
  | 0, _, _, _, _, h, _ => by cases h
  | f + 1, 0, _, _, _, _, h => by omega
  | f + 1, g + 1, i, D, r, h, hg => by
    unfold bfsQ at h ⊢
    cases e : D[i]? with
    | none =>
      rw [e] at h
      exact h
    | some p =>
      rw [e] at h
      dsimp only at h ⊢
      cases e2 : inQ a b p.1 p.2 SENTS D with
      | inl r => rw [e2] at h; exact h
      | inr D' =>
        rw [e2] at h
        exact bfsQ_more f g (i + 1) D' r h (by omega)
theorem partQ_at {f wf : Nat} {r : Option Pth} (h : bfsQ a b f 0 [(ee0, [])] = some r) (hw : f ≤ wf) : partQ wf a b = r := by
  unfold partQ
  rw [bfsQ_more f wf 0 _ r h hw]
  rfl
end
theorem part1 : bfsQ ⟨[(0, 1), (1, 2)], some 1, some 0⟩ ⟨[(0, 1), (1, 2), (0, 1), (1, 2)], some 1, some 2⟩ 64 0 [(ee0, [])] = some none := by decide +kernel
theorem part2 : bfsQ ⟨[(2, 1)], none, none⟩ ⟨[(2, 1)], some 0, none⟩ 64 0 [(ee0, [])] = some none := by decide +kernel
end Er

set_option Elab.async false
set_option linter.all false
set_option maxRecDepth 100000
set_option maxHeartbeats 0
/-! S38: what parts two ears, by the program and by the law. -/
namespace Er
open PySem L2
variable {wf n : Nat}
theorem sh_sn : ∀ s ∈ SENTS, shaped (eSn s) = true := by decide +kernel
theorem isin_sn {c : Int} {s : Snt} (hs : s ∈ SENTS) : cmpD .isin (.int c) (eSn s) = some (decide (c ∈ s)) := by
  have h : shaped (.tuple (s.map .int)) = true := sh_sn s hs
  show (if shaped (.int c) = true ∧ shaped (.tuple (s.map .int)) = true then some (anyEq (.int c) (s.map .int)) else none) = _
  rw [if_pos ⟨sh_int, h⟩]
  congr 1
  unfold anyEq
  rw [List.any_map, Bool.eq_iff_iff, List.any_eq_true, decide_eq_true_eq]
  constructor
  · rintro ⟨z, hz, e⟩
    have e : decide (z = c) = true := e
    rw [decide_eq_true_eq] at e
    rwa [e] at hz
  · exact fun h => ⟨c, h, (decide_eq_true rfl : decide (c = c) = true)⟩
theorem ne_eO (x y : Option Int) : cmpD .ne (eO x) (eO y) = some (!decide (x = y)) := by
  have sn : shaped .none = true := by decide +kernel
  cases x <;> cases y
  · decide +kernel
  · rename_i i
    show (if shaped .none = true ∧ shaped (.int i) = true then some (!PyData.eqv .none (.int i)) else none) = _
    rw [if_pos ⟨sn, sh_int⟩]
    rfl
  · rename_i i
    show (if shaped (.int i) = true ∧ shaped .none = true then some (!PyData.eqv (.int i) .none) else none) = _
    rw [if_pos ⟨sh_int, sn⟩]
    rfl
  · rw [eO_s, eO_s, cmp_neI]
    simp
theorem isNone_eO {x : Option Int} : isNone (eO x) = !x.isSome := by cases x <;> rfl
theorem eO_hear {r : Rcv} {e : Ear} {s : Snt} : eO (hearC r e s) = if rowC r e.row ∈ s then .int (rowC r e.row) else .none := by
  unfold hearC
  split <;> rfl
section
variable {r : Rcv} {e : Ear} {s : Snt}
theorem run_caught (ok : OkRcv r) (oe : OkEar r e) (hs : s ∈ SENTS) : run Pt (gvOf Ct) wf (n + 2) 95 [.d (eRcv r), .d (eEar e), .d (eSn s)] = some (.ret (eO (hearC r e s)), [.d (eRcv r), .d (eEar e), .d (eSn s)]) := by
  have h1 := run_channel_of (wf := wf) (n := n) ok oe
  have h2 := isin_sn (c := rowC r e.row) hs
  rw [run_of P_caught rfl, eO_hear]
  generalize rowC r e.row = c at *
  generalize eRcv r = r' at *
  generalize eEar e = e' at *
  simp [d_caught, setR, h1, h2, ifB_any]
theorem run_lcaught (ok : OkRcv r) (oe : OkEar r e) (hs : s ∈ SENTS) : run Pt (gvOf Ct) wf (n + 1) 99 [.d (eRcv r), .d (eEar e), .d (eSn s)] = some (.ret (eO (hearC r e s)), [.d (eRcv r), .d (eEar e), .d (eSn s)]) := by
  have e1 : atI (r.rows.map eRow) e.row = some (.tuple [.int (rowC r e.row), .int (rowT r e.row)]) := row_at oe.1 oe.2 ok.l1
  have h2 := isin_sn (c := rowC r e.row) hs
  rw [run_of P__law_caught rfl, eO_hear]
  generalize rowC r e.row = c at *
  simp [d__law_caught, eRcv, eEar, setR, e1, h2, ifB_any]
theorem run_look_rcv (ok : OkRcv r) : run Pt (gvOf Ct) wf (n + 4) 94 [.d (eRcv r)] = some (.ret .none, [.d (eRcv r)]) := by
  have h := run_is_receiver (gv := gvOf Ct) (wf := wf) (n := n) (eRcv r)
  rw [recv_ok ok] at h
  rw [run_of P_look_at_receiver rfl]
  simp [d_look_at_receiver, h]
end
theorem eQ_len {D : DQ} : (eQ D).length = D.length := by simp [eQ, eDg]
theorem get_eQ {D : DQ} (x : EE) : dGet (eQ D) (eEE x) = some ((lk D x).map ePt) := dGet_eD encEE ePt D x
theorem put_eQ {D : DQ} {x : EE} {c : Pth} (h : lk D x = none) (hl : D.length < lim) : dPut (eQ D) (eEE x) (ePt c) = some (eQ (D ++ [(x, c)])) := dPut_eD encEE ePt D x c h hl
theorem cmp_notQ {D : DQ} {x : EE} : cmpD .notin (eEE x) (.dict (eQ D)) = some (!(lk D x).isSome) := by
  show (dGet (eQ D) (eEE x)).map _ = _
  rw [get_eQ]
  simp
theorem idx_eQ {D : DQ} {x : EE} {c : Pth} (h : lk D x = some c) : idxD (.dict (eQ D)) (eEE x) = some (ePt c) := by
  show (dGet (eQ D) (eEE x)).bind id = _
  rw [get_eQ, h]
  rfl
theorem add_pt {c : Pth} {s : Snt} (h : c.length < 4000000) : binD .add (ePt c) (.tuple [eSn s]) = some (ePt (c ++ [s])) := by
  have := lim_big
  unfold ePt
  rw [List.map_append]
  show (if _ then _ else _) = _
  rw [if_pos (by rw [List.length_map]; simp; omega)]
  rfl
theorem ix_ee0 {x : EE} : idxD (eEE x) (.int 0) = some (eEar x.1) := rfl
theorem ix_ee1 {x : EE} : idxD (eEE x) (.int 1) = some (eEar x.2) := rfl
theorem mk_ee {a b : Rcv} {x : EE} {h : Bool} : PyData.tuple [eEar (earP a x.1 h), eEar (earP b x.2 h)] = eEE (nxE a b x h) := rfl
theorem isTup_ee (x : EE) : isTup (eEE x) = true := rfl
section
variable {a b : Rcv}
/-! loops, whatever the slots are -/
theorem loopQ {x : EE} {past : Pth} {t : Tg} {body : Rho → R Flow} {P : DQ → Rho → Prop} {E : Rho → Prop} (oka : OkRcv a) (okb : OkRcv b)
    (hb : ∀ D s ρ, s ∈ SENTS → OkQ a b D → lk D x = some past → P D ρ → ∃ ρ1, asgR t (eSn s) ρ = some ρ1 ∧
      (hearC a x.1 s = hearC b x.2 s → ∃ ρ2, body ρ1 = .ok .next ρ2 ∧ P (addQ D (nxE a b x (hearC a x.1 s).isSome) (past ++ [s])) ρ2) ∧
      (¬ hearC a x.1 s = hearC b x.2 s → ∃ ρ2, body ρ1 = .ok (.ret (ePt (past ++ [s]))) ρ2 ∧ E ρ2)) :
    ∀ (l : List Snt) (D : DQ) (ρ : Rho), (∀ s ∈ l, s ∈ SENTS) → OkQ a b D → lk D x = some past → P D ρ →
      (∀ r, inQ a b x past l D = .inl r → ∃ ρ', loopF t body (l.map eSn) ρ = .ok (.ret (ePt r)) ρ' ∧ E ρ') ∧ (∀ D', inQ a b x past l D = .inr D' → ∃ ρ', loopF t body (l.map eSn) ρ = .ok .next ρ' ∧ P D' ρ')
  | [], D, ρ, _, o, hx, p => ⟨fun r h => (by cases h), fun D' h => (by cases h; exact ⟨ρ, rfl, p⟩)⟩
  | s :: l, D, ρ, hl, o, hx, p => by
    have hs := hl s (by simp)
    obtain ⟨ρ1, h1, h2, h3⟩ := hb D s ρ hs o hx p
    unfold inQ
    rw [List.map_cons, loopF, h1]
    dsimp only
    by_cases z : hearC a x.1 s = hearC b x.2 s
    · obtain ⟨ρ2, e2, p2⟩ := h2 z
      obtain ⟨o1, k1, _⟩ := addQ_ok oka okb o hx hs (hearC a x.1 s).isSome
      have ih := loopQ oka okb hb l _ ρ2 (fun s h => hl s (by simp [h])) o1 k1 p2
      rw [if_pos z, e2, R.bind_ok]
      exact ih
    · obtain ⟨ρ2, e2, p2⟩ := h3 z
      rw [if_neg z, e2, R.bind_ok]
      exact ⟨fun r h => (by cases h; exact ⟨ρ2, rfl, p2⟩), fun D' h => (by cases h)⟩
theorem whileQ {cnd : Rho → R OV} {body : Rho → R Flow} {P : Nat → DQ → Rho → Prop} {E : Rho → Prop} (oka : OkRcv a) (okb : OkRcv b)
    (hc : ∀ i D ρ, P i D ρ → cnd ρ = .ok (.d (.bool (decide (i < D.length)))) ρ)
    (hb : ∀ i D p ρ, OkQ a b D → D[i]? = some p → P i D ρ → (∀ r, inQ a b p.1 p.2 SENTS D = .inl r → ∃ ρ', body ρ = .ok (.ret (ePt r)) ρ' ∧ E ρ') ∧ (∀ D', inQ a b p.1 p.2 SENTS D = .inr D' → ∃ ρ', body ρ = .ok .next ρ' ∧ P (i + 1) D' ρ')) :
    ∀ (f i : Nat) (D : DQ) (r : Option Pth) (ρ : Rho), OkQ a b D → bfsQ a b f i D = some r → P i D ρ →
      (∀ p, r = some p → ∃ ρ', loopW cnd body f ρ = .ok (.ret (ePt p)) ρ' ∧ E ρ') ∧ (r = none → ∃ i D' ρ', loopW cnd body f ρ = .ok .next ρ' ∧ P i D' ρ')
  | 0, i, D, r, ρ, o, h, p => by cases h
  | f + 1, i, D, r, ρ, o, h, p => by
    unfold bfsQ at h
    unfold loopW
    rw [hc i D ρ p]
    cases e : D[i]? with
    | none =>
      rw [e] at h
      cases h
      have hi : ¬ i < D.length := by
        have := List.getElem?_eq_none_iff.mp e
        omega
      rw [decide_eq_false hi]
      exact ⟨fun p h => (by cases h), fun _ => ⟨i, D, ρ, rfl, p⟩⟩
    | some q =>
      rw [e] at h
      dsimp only at h
      have hi := (List.getElem?_eq_some_iff.mp e).1
      rw [decide_eq_true hi]
      simp only [R.bind_ok, needB_b]
      obtain ⟨k1, k2⟩ := hb i D q ρ o e p
      cases e2 : inQ a b q.1 q.2 SENTS D with
      | inl r' =>
        rw [e2] at h
        cases h
        obtain ⟨ρ', g1, g2⟩ := k1 r' e2
        rw [g1]
        exact ⟨fun p h => (by cases h; exact ⟨ρ', rfl, g2⟩), fun h => (by cases h)⟩
      | inr D' =>
        rw [e2] at h
        obtain ⟨ρ', g1, g2⟩ := k2 D' e2
        have o1 := ((inQ_ok oka okb SENTS (fun _ h => h) o (at_lkQ o e)).2 D' e2).1
        rw [g1]
        exact whileQ oka okb hc hb f (i + 1) D' r ρ' o1 h g2
theorem ee_at {D : DQ} {i : Nat} {p : EE × Pth} (h : D[i]? = some p) : atI (D.map fun p => eEE p.1) (i : Int) = some (eEE p.1) := by
  have hi := (List.getElem?_eq_some_iff.mp h).1
  unfold atI ixN
  rw [List.length_map, if_pos (by omega), if_pos (by omega), Option.bind_some, List.getElem?_map]
  have : (i : Int).toNat = i := by omega
  rw [this, h]
  rfl
theorem addQ_put (oka : OkRcv a) (okb : OkRcv b) {D : DQ} (o : OkQ a b D) {x : EE} {past : Pth} (hx : lk D x = some past) (s : Snt) (y : EE) (h : lk D y = none) :
    dPut (eQ D) (eEE y) (ePt (past ++ [s])) = some (eQ (D ++ [(y, past ++ [s])])) ∧ D.length < lim := by
  have m := o.most oka okb
  have hl := lim_big
  exact ⟨put_eQ h (by omega), by omega⟩
theorem past_add (oka : OkRcv a) (okb : OkRcv b) {D : DQ} (o : OkQ a b D) {x : EE} {past : Pth} (hx : lk D x = some past) (s : Snt) : binD .add (ePt past) (.tuple [eSn s]) = some (ePt (past ++ [s])) := by
  have m := o.most oka okb
  have l : past.length < D.length := o.ln _ (lk_mem hx)
  exact add_pt (by omega)
/-! the program -/
def pst (a0 a1 x2 : SV) (D : DQ) (x5 x6 x7 x8 x9 x10 : SV) : Rho := [a0, a1, x2, .o (.dct (eQ D)), .o (.lst (D.map fun p => eEE p.1)), x5, x6, x7, x8, x9, x10]
theorem bd_part (oka : OkRcv a) (okb : OkRcv b) {x2 x5 x8 x9 x10 : SV} {D : DQ} (o : OkQ a b D) {x : EE} {past : Pth} (hx : lk D x = some past) {s : Snt} (hs : s ∈ SENTS) (t8 : stor (some x8) = true) (t9 : stor (some x9) = true) (t10 : stor (some x10) = true) :
    (hearC a x.1 s = hearC b x.2 s → ∃ y8 y9 y10, execs (run Pt (gvOf Ct) wf (n + 2)) (mtOf Pt) (gvOf Ct) wf bd_parting_by_0 (pst (.d (eRcv a)) (.d (eRcv b)) x2 D x5 (.d (eEE x)) (.d (eSn s)) x8 x9 x10) =
      .ok .next (pst (.d (eRcv a)) (.d (eRcv b)) x2 (addQ D (nxE a b x (hearC a x.1 s).isSome) (past ++ [s])) x5 (.d (eEE x)) (.d (eSn s)) y8 y9 y10) ∧ stor (some y8) = true ∧ stor (some y9) = true ∧ stor (some y10) = true) ∧
    (¬ hearC a x.1 s = hearC b x.2 s → ∃ y9 y10, execs (run Pt (gvOf Ct) wf (n + 2)) (mtOf Pt) (gvOf Ct) wf bd_parting_by_0 (pst (.d (eRcv a)) (.d (eRcv b)) x2 D x5 (.d (eEE x)) (.d (eSn s)) x8 x9 x10) =
      .ok (.ret (ePt (past ++ [s]))) (pst (.d (eRcv a)) (.d (eRcv b)) x2 D x5 (.d (eEE x)) (.d (eSn s)) x8 y9 y10)) := by
  have ox := o.ok _ (lk_mem hx)
  have c1 := run_caught (wf := wf) (n := n) oka ox.1.ear hs
  have c2 := run_caught (wf := wf) (n := n) okb ox.2.ear hs
  have e1 := run_ear_behind (wf := wf) (n := n) oka ox.1 (hearC a x.1 s).isSome
  have e2 := run_ear_behind (wf := wf) (n := n) okb ox.2 (hearC a x.1 s).isSome
  have nn := ne_eO (hearC a x.1 s) (hearC b x.2 s)
  have pa := past_add oka okb o hx s
  have ix := idx_eQ hx
  have k1 := ix_ee0 (x := x)
  have k2 := ix_ee1 (x := x)
  have mk := mk_ee (a := a) (b := b) (x := x) (h := (hearC a x.1 s).isSome)
  dsimp only at c1 c2 e1 e2
  constructor
  · intro z
    rw [decide_eq_true z] at nn
    refine ⟨.d (eEE (nxE a b x (hearC a x.1 s).isSome)), .d (eO (hearC a x.1 s)), .d (eO (hearC b x.2 s)), ?_, rfl, rfl, rfl⟩
    unfold addQ pst
    have cn := cmp_notQ (D := D) (x := nxE a b x (hearC a x.1 s).isSome)
    cases h : lk D (nxE a b x (hearC a x.1 s).isSome) with
    | some p =>
      rw [h] at cn
      simp [bd_parting_by_0, setR, c1, c2, k1, k2, nn, isNone_eO, e1, e2, mk, cn, t8, t9, t10]
    | none =>
      rw [h] at cn
      obtain ⟨pt, hl⟩ := addQ_put oka okb o hx s _ h
      simp [bd_parting_by_0, setR, c1, c2, k1, k2, nn, isNone_eO, e1, e2, mk, cn, t8, t9, t10, ix, pa, pt, hl]
  · intro z
    rw [decide_eq_false z] at nn
    refine ⟨.d (eO (hearC a x.1 s)), .d (eO (hearC b x.2 s)), ?_⟩
    unfold pst
    simp [bd_parting_by_0, setR, c1, c2, k1, k2, nn, ix, pa, t9, t10]
def pI (a b : Rcv) (x2 : SV) (x : EE) (i : Nat) (D : DQ) (ρ : Rho) : Prop := ∃ x7 x8 x9 x10, ρ = pst (.d (eRcv a)) (.d (eRcv b)) x2 D (.d (.int ((i + 1 : Nat) : Int))) (.d (eEE x)) x7 x8 x9 x10 ∧ stor (some x7) = true ∧ stor (some x8) = true ∧ stor (some x9) = true ∧ stor (some x10) = true
def pO (a b : Rcv) (x2 : SV) (i : Nat) (D : DQ) (ρ : Rho) : Prop := ∃ x6 x7 x8 x9 x10, ρ = pst (.d (eRcv a)) (.d (eRcv b)) x2 D (.d (.int (i : Int))) x6 x7 x8 x9 x10 ∧ stor (some x6) = true ∧ stor (some x7) = true ∧ stor (some x8) = true ∧ stor (some x9) = true ∧ stor (some x10) = true
def two0 (a b : Rcv) (ρ : Rho) : Prop := ∃ t, ρ = .d (eRcv a) :: .d (eRcv b) :: t
theorem two0_pst {a b : Rcv} {x2 : SV} {D : DQ} {x5 x6 x7 x8 x9 x10 : SV} : two0 a b (pst (.d (eRcv a)) (.d (eRcv b)) x2 D x5 x6 x7 x8 x9 x10) := ⟨_, rfl⟩
theorem gv3 : gvOf Ct 3 = .tuple (SENTS.map eSn) := rfl
theorem bd_part1 (oka : OkRcv a) (okb : OkRcv b) {x2 : SV} (i : Nat) (D : DQ) (p : EE × Pth) (ρ : Rho) (o : OkQ a b D) (hp : D[i]? = some p) (h : pO a b x2 i D ρ) :
    (∀ r, inQ a b p.1 p.2 SENTS D = .inl r → ∃ ρ', execs (run Pt (gvOf Ct) wf (n + 2)) (mtOf Pt) (gvOf Ct) wf bd_parting_by_1 ρ = .ok (.ret (ePt r)) ρ' ∧ two0 a b ρ') ∧
    (∀ D', inQ a b p.1 p.2 SENTS D = .inr D' → ∃ ρ', execs (run Pt (gvOf Ct) wf (n + 2)) (mtOf Pt) (gvOf Ct) wf bd_parting_by_1 ρ = .ok .next ρ' ∧ pO a b x2 (i + 1) D' ρ') := by
  obtain ⟨x6, x7, x8, x9, x10, rfl, t6, t7, t8, t9, t10⟩ := h
  have hx := at_lkQ o hp
  have key := loopQ (x := p.1) (past := p.2) (t := .n 7) (body := execs (run Pt (gvOf Ct) wf (n + 2)) (mtOf Pt) (gvOf Ct) wf bd_parting_by_0) (P := pI a b x2 p.1 i) (E := two0 a b) oka okb
    (fun D s ρ hs o hx ⟨x7, x8, x9, x10, er, t7, t8, t9, t10⟩ => by
      subst er
      obtain ⟨g1, g2⟩ := bd_part (wf := wf) (n := n) (x2 := x2) (x5 := .d (.int ((i + 1 : Nat) : Int))) oka okb o hx hs t8 t9 t10
      refine ⟨pst (.d (eRcv a)) (.d (eRcv b)) x2 D (.d (.int ((i + 1 : Nat) : Int))) (.d (eEE p.1)) (.d (eSn s)) x8 x9 x10, by simp [pst, t7], fun z => ?_, fun z => ?_⟩
      · obtain ⟨y8, y9, y10, e, u8, u9, u10⟩ := g1 z
        exact ⟨_, e, _, y8, y9, y10, rfl, rfl, u8, u9, u10⟩
      · obtain ⟨y9, y10, e⟩ := g2 z
        exact ⟨_, e, two0_pst⟩)
    SENTS D (pst (.d (eRcv a)) (.d (eRcv b)) x2 D (.d (.int ((i + 1 : Nat) : Int))) (.d (eEE p.1)) x7 x8 x9 x10) (fun _ h => h) o hx ⟨x7, x8, x9, x10, rfl, t7, t8, t9, t10⟩
  have g := gv3
  have st : ∀ (r : R Flow), loopF (.n 7) (execs (run Pt (gvOf Ct) wf (n + 2)) (mtOf Pt) (gvOf Ct) wf bd_parting_by_0) (SENTS.map eSn) (pst (.d (eRcv a)) (.d (eRcv b)) x2 D (.d (.int ((i + 1 : Nat) : Int))) (.d (eEE p.1)) x7 x8 x9 x10) = r →
      execs (run Pt (gvOf Ct) wf (n + 2)) (mtOf Pt) (gvOf Ct) wf bd_parting_by_1 (pst (.d (eRcv a)) (.d (eRcv b)) x2 D (.d (.int (i : Int))) x6 x7 x8 x9 x10) = r.bind fun f ρ => flowK f (fun ρ => .ok .next ρ) ρ := fun r h => by
    rw [← h]
    unfold pst
    simp only [Int.natCast_add, Int.cast_ofNat_Int]
    simp [bd_parting_by_1, setR, t6, ee_at hp, ex_for, g]
    rfl
  refine ⟨fun r h => ?_, fun D' h => ?_⟩
  · obtain ⟨ρ', e, z⟩ := key.1 r h
    exact ⟨ρ', by rw [st _ e]; rfl, z⟩
  · obtain ⟨ρ', e, x7, x8, x9, x10, er, t⟩ := key.2 D' h
    exact ⟨ρ', by rw [st _ e]; rfl, .d (eEE p.1), x7, x8, x9, x10, er, rfl, t⟩
def oPt (o : Option Pth) : PD := (o.map ePt).getD .none
theorem eQ_one (x : EE) : dPut [] (eEE x) (.tuple []) = some (eQ [(x, [])]) := put_eQ (D := []) (c := []) rfl (by decide)
theorem ee0_e : PyData.tuple [.tuple [.int 0, .int 0, .int (-1)], .tuple [.int 0, .int 0, .int (-1)]] = eEE ee0 := rfl
theorem run_parting_by (oka : OkRcv a) (okb : OkRcv b) (hw : 4096 < wf) : run Pt (gvOf Ct) wf (n + 3) 96 [.d (eRcv a), .d (eRcv b)] = some (.ret (oPt (partQ wf a b)), [.d (eRcv a), .d (eRcv b)]) := by
  obtain ⟨h1, _⟩ := partQ_some oka okb hw
  obtain ⟨k1, k2⟩ := whileQ (cnd := ev (run Pt (gvOf Ct) wf (n + 2)) (mtOf Pt) (gvOf Ct) (.cmp .lt (.v 5) (.bi .len (.cons (.s 4) .nil)))) (body := execs (run Pt (gvOf Ct) wf (n + 2)) (mtOf Pt) (gvOf Ct) wf bd_parting_by_1) (P := pO a b (.d (eEE ee0))) (E := two0 a b) oka okb
    (fun i D ρ ⟨x6, x7, x8, x9, x10, er, _⟩ => by subst er; simp [pst]) (fun i D p ρ o hp h => bd_part1 (wf := wf) (n := n) oka okb i D p ρ o hp h) wf 0 _ _ (pst (.d (eRcv a)) (.d (eRcv b)) (.d (eEE ee0)) [(ee0, [])] (.d (.int (0 : Nat))) .un .un .un .un .un) (firstQ_ok oka okb) h1 ⟨.un, .un, .un, .un, .un, rfl, rfl, rfl, rfl, rfl, rfl⟩
  rw [run_of P_parting_by rfl]
  have d1 := eQ_one ee0
  have d2 := isTup_ee ee0
  have d3 := ee0_e
  have st : ∀ (r : R Flow), loopW (ev (run Pt (gvOf Ct) wf (n + 2)) (mtOf Pt) (gvOf Ct) (.cmp .lt (.v 5) (.bi .len (.cons (.s 4) .nil)))) (execs (run Pt (gvOf Ct) wf (n + 2)) (mtOf Pt) (gvOf Ct) wf bd_parting_by_1) wf (pst (.d (eRcv a)) (.d (eRcv b)) (.d (eEE ee0)) [(ee0, [])] (.d (.int (0 : Nat))) .un .un .un .un .un) = r →
      execs (run Pt (gvOf Ct) wf (n + 2)) (mtOf Pt) (gvOf Ct) wf d_parting_by.body [.d (eRcv a), .d (eRcv b), .un, .un, .un, .un, .un, .un, .un, .un, .un] = r.bind fun f ρ => flowK f (fun ρ => .ok (.ret .none) ρ) ρ := fun r h => by
    rw [← h]
    unfold pst
    simp [d_parting_by, setR, d1, d2, d3, ex_while]
    rfl
  have sl : [SV.d (eRcv a), .d (eRcv b)] ++ List.replicate (d_parting_by.names.length - [SV.d (eRcv a), .d (eRcv b)].length) .un = [.d (eRcv a), .d (eRcv b), .un, .un, .un, .un, .un, .un, .un, .un, .un] := rfl
  rw [sl]
  cases e : partQ wf a b with
  | some p =>
    obtain ⟨ρ', g, t, er⟩ := k1 p e
    rw [st _ g]
    subst er
    simp [oPt]
  | none =>
    obtain ⟨i, D', ρ', g, x6, x7, x8, x9, x10, er, _⟩ := k2 e
    rw [st _ g]
    subst er
    simp [oPt, pst]
theorem run_alike (oka : OkRcv a) (okb : OkRcv b) (hw : 4096 < wf) : run Pt (gvOf Ct) wf (n + 5) 97 [.d (eRcv a), .d (eRcv b)] = some (.ret (.bool (partQ wf a b).isNone), [.d (eRcv a), .d (eRcv b)]) := by
  have h1 := run_look_rcv (wf := wf) (n := n) oka
  have h2 := run_look_rcv (wf := wf) (n := n) okb
  have h3 := run_parting_by (wf := wf) (n := n + 1) oka okb hw
  rw [run_of P_alike rfl]
  have h4 : isNone (oPt (partQ wf a b)) = (partQ wf a b).isNone := by cases partQ wf a b <;> rfl
  simp [d_alike, h1, h2, h3, h4]
theorem run_parting (oka : OkRcv a) (okb : OkRcv b) (hw : 4096 < wf) : run Pt (gvOf Ct) wf (n + 5) 98 [.d (eRcv a), .d (eRcv b)] = some (.ret (oPt (partQ wf a b)), [.d (eRcv a), .d (eRcv b)]) := by
  have h1 := run_look_rcv (wf := wf) (n := n) oka
  have h2 := run_look_rcv (wf := wf) (n := n) okb
  have h3 := run_parting_by (wf := wf) (n := n + 1) oka okb hw
  rw [run_of P_parting rfl]
  simp [d_parting, h1, h2, h3]
end
end Er

set_option Elab.async false
set_option linter.all false
set_option maxRecDepth 100000
set_option maxHeartbeats 0
/-! S39: what parts two ears, by the law; near receivers. -/
namespace Er
open PySem L2
variable {wf n : Nat}
theorem cm_sent {L : List PD} {c : Int} {x2 : SV} {cl : Call} (hl : L.length ≤ 1000) (h : ∀ x ∈ L, ∃ l, x = .tuple l ∧ l.length ≤ 900) : ev cl (mtOf Pt) (gvOf Ct) cm__law_all_sent_0 [.d (.list L), .d (.int c), x2] = .ok (.d (.list (L.map fun x => match x with
    | .tuple l => .tuple (l ++ [.int c])
    | _ => .none))) [.d (.list L), .d (.int c), x2] := by
  have hlim := lim_ge
  refine comp_all (own := [2]) (xs := L) (fun x => match x with
    | .tuple l => .tuple (l ++ [.int c])
    | _ => .none) (by simp) (by omega) fun x hx => ?_
  obtain ⟨l, rfl, h9⟩ := h x hx
  have e := bin_addT (x := l) (y := [.int c]) (by simp; omega)
  exact ⟨[.d (.list L), .d (.int c), .d (.tuple l)], by simp, by simp, by simp [e]⟩
def sent3 : List Snt := [[], [0], [1], [0, 1], [2], [0, 2], [1, 2], [0, 1, 2]]
def codeN (s : Snt) : Nat := SENTS.idxOf s
theorem sort_sent : (sent3.map eSn).mergeSort (PySem.W.dataLe false id) = SENTS.map eSn := by
  have le : ∀ a ∈ sent3, ∀ b ∈ sent3, decide (codeN a ≤ codeN b) = PySem.W.dataLe false id (eSn a) (eSn b) := by decide +kernel
  have e2 := PySem.W.sort_maps (r := fun a b => decide (codeN a ≤ codeN b)) (s := PySem.W.dataLe false id) eSn le
  have tot : PySem.W.TotalLe (fun a b : Snt => decide (codeN a ≤ codeN b)) := ⟨fun a b c h1 h2 => by simp only [decide_eq_true_eq] at *; omega, fun a b => by simp only [decide_eq_true_eq]; omega⟩
  have inj : ∀ a ∈ sent3, ∀ b ∈ SENTS, codeN a = codeN b → a = b := by decide +kernel
  have e3 : sent3.mergeSort (fun a b => decide (codeN a ≤ codeN b)) = SENTS := by
    refine List.Perm.eq_of_pairwise (le := fun a b => decide (codeN a ≤ codeN b) = true) (fun a b ha hb h1 h2 => ?_) (PySem.W.sort_pairwise tot _) (by decide +kernel) ((List.mergeSort_perm _ _).trans (by decide +kernel))
    simp only [decide_eq_true_eq] at h1 h2
    exact inj a ((List.mergeSort_perm _ _).mem_iff.mp ha) b hb (by omega)
  rw [← e2, e3]
theorem bi_sent : biD .sorted [.list (sent3.map eSn)] = some (.list (SENTS.map eSn)) := by
  rw [bi_sortedG, sort_sent] <;> decide +kernel
theorem run_all_sent : run Pt (gvOf Ct) wf (n + 1) 100 [] = some (.ret (.list (SENTS.map eSn)), []) := by
  have hlim := lim_ge
  have s3 : small62 3 = true := by decide
  have b1 : ∀ (x1 x2 : SV) (c : Int) (L M : List PD), stor (some x1) = true → L.length ≤ 100 → (∀ x ∈ L, ∃ l, x = .tuple l ∧ l.length ≤ 900) → L ++ (L.map fun x => match x with
    | .tuple l => .tuple (l ++ [.int c])
    | _ => .none) = M → (asgR (.n 1) (.int c) [.d (.list L), x1, x2]).map (fun ρ => execs (run Pt (gvOf Ct) wf n) (mtOf Pt) (gvOf Ct) wf bd__law_all_sent_0 ρ) = some (.ok .next [.d (.list M), .d (.int c), x2]) := by
    intro x1 x2 c L M t1 hl h e
    have c0 := cm_sent (cl := run Pt (gvOf Ct) wf n) (c := c) (x2 := x2) (L := L) (by omega) h
    have a := bin_addL (x := L) (y := L.map fun x => match x with
      | .tuple l => .tuple (l ++ [.int c])
      | _ => .none) (by simp; omega)
    rw [e] at a
    simp [bd__law_all_sent_0, setR, t1, c0, a]
  have f0 := b1 .un .un 0 [.tuple []] [.tuple [], .tuple [.int 0]] rfl (by decide) (fun x hx => by simp at hx; exact ⟨[], hx, by decide⟩) rfl
  have f1 := b1 (.d (.int 0)) .un 1 [.tuple [], .tuple [.int 0]] [.tuple [], .tuple [.int 0], .tuple [.int 1], .tuple [.int 0, .int 1]] rfl (by decide) (fun x hx => by simp at hx; rcases hx with h | h <;> exact ⟨_, h, by decide⟩) rfl
  have f2 := b1 (.d (.int 1)) .un 2 [.tuple [], .tuple [.int 0], .tuple [.int 1], .tuple [.int 0, .int 1]] (sent3.map eSn) rfl (by decide) (fun x hx => by simp at hx; rcases hx with h | h | h | h <;> exact ⟨_, h, by decide⟩) rfl
  have r3 : rangeL 0 3 = [.int 0, .int 1, .int 2] := rfl
  have q := bi_sent
  obtain ⟨ρ0, a0, g0⟩ := Option.map_eq_some_iff.mp f0
  obtain ⟨ρ1, a1, g1⟩ := Option.map_eq_some_iff.mp f1
  obtain ⟨ρ2, a2, g2⟩ := Option.map_eq_some_iff.mp f2
  have lp : loopF (.n 1) (execs (run Pt (gvOf Ct) wf n) (mtOf Pt) (gvOf Ct) wf bd__law_all_sent_0) [.int 0, .int 1, .int 2] [.d (.list [.tuple []]), .un, .un] = .ok .next [.d (.list (sent3.map eSn)), .d (.int 2), .un] := by
    rw [loopF, a0]
    dsimp only
    rw [g0, R.bind_ok]
    dsimp only
    rw [loopF, a1]
    dsimp only
    rw [g1, R.bind_ok]
    dsimp only
    rw [loopF, a2]
    dsimp only
    rw [g2, R.bind_ok]
    rfl
  rw [run_of P__law_all_sent rfl]
  generalize sent3.map eSn = Z at *
  simp [d__law_all_sent, setR, ex_for, s3, r3, lp, q]
section
variable {a b : Rcv}
def lst0 (a0 a1 x2 : SV) (D : DQ) (x5 x6 x7 x8 x9 x10 x11 : SV) : Rho := [a0, a1, x2, .o (.dct (eQ D)), .o (.lst (D.map fun p => eEE p.1)), x5, x6, x7, x8, x9, x10, x11]
theorem bd_lpart (oka : OkRcv a) (okb : OkRcv b) {x2 x5 x10 x11 : SV} {D : DQ} (o : OkQ a b D) {x : EE} {past : Pth} (hx : lk D x = some past) {s : Snt} (hs : s ∈ SENTS) (t10 : stor (some x10) = true) (t11 : stor (some x11) = true) :
    (hearC a x.1 s = hearC b x.2 s → ∃ y10 y11, execs (run Pt (gvOf Ct) wf (n + 1)) (mtOf Pt) (gvOf Ct) wf bd__law_parting_0 (lst0 (.d (eRcv a)) (.d (eRcv b)) x2 D x5 (.d (eSn s)) (.d (eEar x.1)) (.d (eEar x.2)) (.d (ePt past)) x10 x11) =
      .ok .next (lst0 (.d (eRcv a)) (.d (eRcv b)) x2 (addQ D (nxE a b x (hearC a x.1 s).isSome) (past ++ [s])) x5 (.d (eSn s)) (.d (eEar x.1)) (.d (eEar x.2)) (.d (ePt past)) y10 y11) ∧ stor (some y10) = true ∧ stor (some y11) = true) ∧
    (¬ hearC a x.1 s = hearC b x.2 s → ∃ y10, execs (run Pt (gvOf Ct) wf (n + 1)) (mtOf Pt) (gvOf Ct) wf bd__law_parting_0 (lst0 (.d (eRcv a)) (.d (eRcv b)) x2 D x5 (.d (eSn s)) (.d (eEar x.1)) (.d (eEar x.2)) (.d (ePt past)) x10 x11) =
      .ok (.ret (ePt (past ++ [s]))) (lst0 (.d (eRcv a)) (.d (eRcv b)) x2 D x5 (.d (eSn s)) (.d (eEar x.1)) (.d (eEar x.2)) (.d (ePt past)) y10 x11)) := by
  have ox := o.ok _ (lk_mem hx)
  have c1 := run_lcaught (wf := wf) (n := n) oka ox.1.ear hs
  have c2 := run_lcaught (wf := wf) (n := n) okb ox.2.ear hs
  have e1 := run_law_ear (wf := wf) (n := n) oka ox.1.ear (hearC a x.1 s).isSome
  have e2 := run_law_ear (wf := wf) (n := n) okb ox.2.ear (hearC b x.2 s).isSome
  have nn := ne_eO (hearC a x.1 s) (hearC b x.2 s)
  have pa := past_add oka okb o hx s
  have mk := mk_ee (a := a) (b := b) (x := x) (h := (hearC a x.1 s).isSome)
  dsimp only at c1 c2 e1 e2
  constructor
  · intro z
    rw [decide_eq_true z] at nn
    rw [← z] at c2 e2 nn
    refine ⟨.d (.list [eO (hearC a x.1 s), eO (hearC a x.1 s)]), .d (eEE (nxE a b x (hearC a x.1 s).isSome)), ?_, rfl, rfl⟩
    unfold addQ lst0
    have cn := cmp_notQ (D := D) (x := nxE a b x (hearC a x.1 s).isSome)
    cases h : lk D (nxE a b x (hearC a x.1 s).isSome) with
    | some p =>
      rw [h] at cn
      simp [bd__law_parting_0, setR, c1, c2, nn, isNone_eO, e1, e2, mk, cn, t10, t11]
    | none =>
      rw [h] at cn
      obtain ⟨pt, hl⟩ := addQ_put oka okb o hx s _ h
      simp [bd__law_parting_0, setR, c1, c2, nn, isNone_eO, e1, e2, mk, cn, t10, t11, pa, pt, hl]
  · intro z
    rw [decide_eq_false z] at nn
    refine ⟨.d (.list [eO (hearC a x.1 s), eO (hearC b x.2 s)]), ?_⟩
    unfold lst0
    simp [bd__law_parting_0, setR, c1, c2, nn, pa, t10]
def lI (a b : Rcv) (x2 : SV) (x : EE) (past : Pth) (i : Nat) (D : DQ) (ρ : Rho) : Prop := ∃ x6 x10 x11, ρ = lst0 (.d (eRcv a)) (.d (eRcv b)) x2 D (.d (.int ((i + 1 : Nat) : Int))) x6 (.d (eEar x.1)) (.d (eEar x.2)) (.d (ePt past)) x10 x11 ∧ stor (some x6) = true ∧ stor (some x10) = true ∧ stor (some x11) = true
def lO (a b : Rcv) (x2 : SV) (i : Nat) (D : DQ) (ρ : Rho) : Prop := ∃ x6 x7 x8 x9 x10 x11, ρ = lst0 (.d (eRcv a)) (.d (eRcv b)) x2 D (.d (.int (i : Int))) x6 x7 x8 x9 x10 x11 ∧ stor (some x6) = true ∧ stor (some x7) = true ∧ stor (some x8) = true ∧ stor (some x9) = true ∧ stor (some x10) = true ∧ stor (some x11) = true
theorem ee_tup (x : EE) : eEE x = .tuple [eEar x.1, eEar x.2] := rfl
theorem bd_lpart1 (oka : OkRcv a) (okb : OkRcv b) {x2 : SV} (i : Nat) (D : DQ) (p : EE × Pth) (ρ : Rho) (o : OkQ a b D) (hp : D[i]? = some p) (h : lO a b x2 i D ρ) :
    (∀ r, inQ a b p.1 p.2 SENTS D = .inl r → ∃ ρ', execs (run Pt (gvOf Ct) wf (n + 1)) (mtOf Pt) (gvOf Ct) wf bd__law_parting_1 ρ = .ok (.ret (ePt r)) ρ' ∧ two0 a b ρ') ∧
    (∀ D', inQ a b p.1 p.2 SENTS D = .inr D' → ∃ ρ', execs (run Pt (gvOf Ct) wf (n + 1)) (mtOf Pt) (gvOf Ct) wf bd__law_parting_1 ρ = .ok .next ρ' ∧ lO a b x2 (i + 1) D' ρ') := by
  obtain ⟨x6, x7, x8, x9, x10, x11, rfl, t6, t7, t8, t9, t10, t11⟩ := h
  have hx := at_lkQ o hp
  have key := loopQ (x := p.1) (past := p.2) (t := .n 6) (body := execs (run Pt (gvOf Ct) wf (n + 1)) (mtOf Pt) (gvOf Ct) wf bd__law_parting_0) (P := lI a b x2 p.1 p.2 i) (E := two0 a b) oka okb
    (fun D s ρ hs o hx ⟨x6, x10, x11, er, t6, t10, t11⟩ => by
      subst er
      obtain ⟨g1, g2⟩ := bd_lpart (wf := wf) (n := n) (x2 := x2) (x5 := .d (.int ((i + 1 : Nat) : Int))) oka okb o hx hs t10 t11
      refine ⟨lst0 (.d (eRcv a)) (.d (eRcv b)) x2 D (.d (.int ((i + 1 : Nat) : Int))) (.d (eSn s)) (.d (eEar p.1.1)) (.d (eEar p.1.2)) (.d (ePt p.2)) x10 x11, by simp [lst0, t6], fun z => ?_, fun z => ?_⟩
      · obtain ⟨y10, y11, e, u10, u11⟩ := g1 z
        exact ⟨_, e, _, y10, y11, rfl, rfl, u10, u11⟩
      · obtain ⟨y10, e⟩ := g2 z
        exact ⟨_, e, _, rfl⟩)
    SENTS D (lst0 (.d (eRcv a)) (.d (eRcv b)) x2 D (.d (.int ((i + 1 : Nat) : Int))) x6 (.d (eEar p.1.1)) (.d (eEar p.1.2)) (.d (ePt p.2)) x10 x11) (fun _ h => h) o hx ⟨x6, x10, x11, rfl, t6, t10, t11⟩
  have g := run_all_sent (wf := wf) (n := n)
  have m1 : mtOf Pt 100 = [] := mt__law_all_sent
  have ix := idx_eQ hx
  have et := ee_at hp
  have st : ∀ (r : R Flow), loopF (.n 6) (execs (run Pt (gvOf Ct) wf (n + 1)) (mtOf Pt) (gvOf Ct) wf bd__law_parting_0) (SENTS.map eSn) (lst0 (.d (eRcv a)) (.d (eRcv b)) x2 D (.d (.int ((i + 1 : Nat) : Int))) x6 (.d (eEar p.1.1)) (.d (eEar p.1.2)) (.d (ePt p.2)) x10 x11) = r →
      execs (run Pt (gvOf Ct) wf (n + 1)) (mtOf Pt) (gvOf Ct) wf bd__law_parting_1 (lst0 (.d (eRcv a)) (.d (eRcv b)) x2 D (.d (.int (i : Int))) x6 x7 x8 x9 x10 x11) = r.bind fun f ρ => flowK f (fun ρ => .ok .next ρ) ρ := fun r h => by
    rw [← h]
    unfold lst0
    simp only [Int.natCast_add, Int.cast_ofNat_Int]
    have as2 : ∀ ρ, asgR (.t [.n 7, .n 8]) (eEE p.1) ρ = asgRs [.n 7, .n 8] [eEar p.1.1, eEar p.1.2] ρ := fun _ => rfl
    simp [bd__law_parting_1, setR, t7, t8, t9, et, as2, ex_for, g, ix]
    rfl
  refine ⟨fun r h => ?_, fun D' h => ?_⟩
  · obtain ⟨ρ', e, z⟩ := key.1 r h
    exact ⟨ρ', by rw [st _ e]; rfl, z⟩
  · obtain ⟨ρ', e, x6, x10, x11, er, t6, t10, t11⟩ := key.2 D' h
    exact ⟨ρ', by rw [st _ e]; rfl, x6, _, _, _, x10, x11, er, t6, rfl, rfl, rfl, t10, t11⟩
theorem run_lparting (oka : OkRcv a) (okb : OkRcv b) (hw : 4096 < wf) : run Pt (gvOf Ct) wf (n + 2) 101 [.d (eRcv a), .d (eRcv b)] = some (.ret (oPt (partQ wf a b)), [.d (eRcv a), .d (eRcv b)]) := by
  obtain ⟨h1, _⟩ := partQ_some oka okb hw
  obtain ⟨k1, k2⟩ := whileQ (cnd := ev (run Pt (gvOf Ct) wf (n + 1)) (mtOf Pt) (gvOf Ct) (.cmp .lt (.v 5) (.bi .len (.cons (.s 4) .nil)))) (body := execs (run Pt (gvOf Ct) wf (n + 1)) (mtOf Pt) (gvOf Ct) wf bd__law_parting_1) (P := lO a b (.d (eEE ee0))) (E := two0 a b) oka okb
    (fun i D ρ ⟨x6, x7, x8, x9, x10, x11, er, _⟩ => by subst er; simp [lst0]) (fun i D p ρ o hp h => bd_lpart1 (wf := wf) (n := n) oka okb i D p ρ o hp h) wf 0 _ _ (lst0 (.d (eRcv a)) (.d (eRcv b)) (.d (eEE ee0)) [(ee0, [])] (.d (.int (0 : Nat))) .un .un .un .un .un .un) (firstQ_ok oka okb) h1 ⟨.un, .un, .un, .un, .un, .un, rfl, rfl, rfl, rfl, rfl, rfl, rfl⟩
  rw [run_of P__law_parting rfl]
  have d1 := eQ_one ee0
  have d2 := isTup_ee ee0
  have d3 := ee0_e
  have st : ∀ (r : R Flow), loopW (ev (run Pt (gvOf Ct) wf (n + 1)) (mtOf Pt) (gvOf Ct) (.cmp .lt (.v 5) (.bi .len (.cons (.s 4) .nil)))) (execs (run Pt (gvOf Ct) wf (n + 1)) (mtOf Pt) (gvOf Ct) wf bd__law_parting_1) wf (lst0 (.d (eRcv a)) (.d (eRcv b)) (.d (eEE ee0)) [(ee0, [])] (.d (.int (0 : Nat))) .un .un .un .un .un .un) = r →
      execs (run Pt (gvOf Ct) wf (n + 1)) (mtOf Pt) (gvOf Ct) wf d__law_parting.body [.d (eRcv a), .d (eRcv b), .un, .un, .un, .un, .un, .un, .un, .un, .un, .un] = r.bind fun f ρ => flowK f (fun ρ => .ok (.ret .none) ρ) ρ := fun r h => by
    rw [← h]
    unfold lst0
    simp [d__law_parting, setR, d1, d2, d3, ex_while]
    rfl
  have sl : [SV.d (eRcv a), .d (eRcv b)] ++ List.replicate (d__law_parting.names.length - [SV.d (eRcv a), .d (eRcv b)].length) .un = [.d (eRcv a), .d (eRcv b), .un, .un, .un, .un, .un, .un, .un, .un, .un, .un] := rfl
  rw [sl]
  cases e : partQ wf a b with
  | some p =>
    obtain ⟨ρ', g, t, er⟩ := k1 p e
    rw [st _ g]
    subst er
    simp [oPt]
  | none =>
    obtain ⟨i, D', ρ', g, x6, x7, x8, x9, x10, x11, er, _⟩ := k2 e
    rw [st _ g]
    subst er
    simp [oPt, lst0]
end
end Er

set_option Elab.async false
set_option linter.all false
set_option maxRecDepth 100000
set_option maxHeartbeats 0
/-! K09: near receivers; the law k09, as its meaning. -/
namespace Er
open PySem L2
variable {wf n : Nat}
theorem rep2 (l : List PD) : rep 2 l = l ++ l := by
  show (List.replicate 2 l).flatten = _
  simp [List.replicate]
theorem bin_mul2 {l : List PD} (h : l.length ≤ 1000) (h0 : l ≠ []) : binD .mul (.tuple l) (.int 2) = some (.tuple (l ++ l)) := by
  show (if 0 ≤ (2 : Int) ∧ (2 : Int) ≤ 1000 ∧ l.length ≤ 1000 ∧ l ≠ [] then some (PyData.tuple (rep 2 l)) else none) = _
  rw [if_pos ⟨by decide, by decide, h, h0⟩, rep2]
theorem rows_pos {rows : List (Int × Int)} {h back : Option Int} (ok : OkRcv ⟨rows, h, back⟩) : rows.map eRow ≠ [] := by
  have := ok.l1
  intro z
  rw [List.map_eq_nil_iff] at z
  rw [z] at this
  simp at this
theorem set_mem {α : Type} {l : List α} {k : Nat} {x y : α} (h : y ∈ l.set k x) : y ∈ l ∨ y = x := List.mem_or_eq_of_mem_set h
theorem run_near {o : OB} (ho : Spr o) {r : Rcv} (ok : OkRcv r) : ∃ o' r', run Pt (gvOf Ct) wf (n + 2) 102 [.b o, .d (eRcv r)] = some (.ret (eRcv r'), [.b o', .d (eRcv r)]) ∧ Spr o' ∧ OkRcv r' := by
  have l1 := ok.l1
  have l2 := ok.l2
  obtain ⟨o1, d1, p1, s1, d1a, d1b⟩ := run_pick (wf := wf) (n := n) ho (m := r.rows.length) (by omega) (by omega)
  obtain ⟨o2, d2, p2, s2, d2a, d2b⟩ := run_pick (wf := wf) (n := n) s1 (m := 7) (by decide) (by decide)
  have hk : d1.toNat < r.rows.length := by omega
  obtain ⟨rows, hang, back⟩ := r
  dsimp only at *
  have row : ∀ x ∈ rows, 0 ≤ x.1 ∧ x.1 ≤ 2 ∧ 1 ≤ x.2 ∧ x.2 ≤ 4 := ok.row
  have nob : hang = none → back = none := ok.nob
  have hg : ∀ h, hang = some h → 0 ≤ h ∧ h ≤ 2 := ok.hg
  have bk : ∀ b, back = some b → 0 ≤ b ∧ b ≤ rows.length - 1 := ok.bk
  have rp := rows_pos ok
  have e1 : atI (rows.map eRow) d1 = some (.tuple [.int (rows[d1.toNat]).1, .int (rows[d1.toNat]).2]) := by
    rw [atI_of d1a, List.getElem?_map, List.getElem?_eq_getElem hk]
    rfl
  have rk := row _ (List.getElem_mem hk)
  have ct : cutD (rows.map eRow) none (some d1) = (rows.take d1.toNat).map eRow := by rw [cut_to d1a, List.map_take]
  have cf : cutD (rows.map eRow) (some (d1 + 1)) none = (rows.drop (d1.toNat + 1)).map eRow := by
    rw [cut_from (by omega), List.map_drop]
    congr 1
    omega
  have same : ∀ o', ∃ o'' r', some ((Out.ret (.tuple [.tuple (rows.map eRow), eO hang, eO back]), [SV.b o', SV.d (eRcv ⟨rows, hang, back⟩)]) : Out × List SV) = some (.ret (eRcv r'), [.b o'', .d (eRcv ⟨rows, hang, back⟩)]) ∧ (Spr o' → Spr o'') ∧ OkRcv r' := fun o' => ⟨o', ⟨rows, hang, back⟩, rfl, id, ok⟩
  rw [run_of P__law_near rfl]
  have c7 : d2 = 0 ∨ d2 = 1 ∨ d2 = 2 ∨ d2 = 3 ∨ d2 = 4 ∨ d2 = 5 ∨ d2 = 6 := by omega
  have setok : ∀ y : Int × Int, 0 ≤ y.1 ∧ y.1 ≤ 2 ∧ 1 ≤ y.2 ∧ y.2 ≤ 4 → OkRcv ⟨rows.set d1.toNat y, hang, back⟩ := fun y hy => by
    refine ⟨by show 1 ≤ (rows.set _ _).length; rw [List.length_set]; exact l1, by show (rows.set _ _).length ≤ 4; rw [List.length_set]; exact l2, fun x hx => ?_, nob, hg, fun b hb => ?_⟩
    · rcases set_mem hx with h | h
      · exact row x h
      · rw [h]; exact hy
    · have := bk b hb
      show 0 ≤ b ∧ b ≤ ((rows.set _ _).length : Int) - 1
      rw [List.length_set]
      exact this
  have joins : ∀ y : Int × Int, binD .add (.tuple ((rows.take d1.toNat).map eRow)) (.tuple [eRow y]) = some (.tuple ((rows.take d1.toNat).map eRow ++ [eRow y])) ∧ binD .add (.tuple ((rows.take d1.toNat).map eRow ++ [eRow y])) (.tuple ((rows.drop (d1.toNat + 1)).map eRow)) = some (.tuple ((rows.set d1.toNat y).map eRow)) := fun y => by
    refine ⟨bin_addT (by simp; omega), ?_⟩
    rw [bin_addT (by simp; omega)]
    have : [eRow y] = [y].map eRow := rfl
    rw [this, ← List.map_append, ← List.map_append]
    congr 3
    rw [List.set_eq_take_append_cons_drop, if_pos hk]
    simp
  rcases c7 with e | e | e | e | e | e | e
  · subst e
    cases hang with
    | none =>
      refine ⟨o2, ⟨rows, none, none⟩, ?_, s2, ⟨l1, l2, row, fun _ => rfl, hg, fun b hb => by cases hb⟩⟩
      simp [d__law_near, eRcv, setR, p1, p2]
    | some h =>
      obtain ⟨o3, d3, p3, s3, d3a, d3b⟩ := run_pick (wf := wf) (n := n) s2 (m := rows.length) (by omega) (by omega)
      refine ⟨o3, ⟨rows, some h, some d3⟩, ?_, s3, ⟨l1, l2, row, (fun z => by cases z), hg, fun b hb => by cases hb; exact ⟨d3a, by show d3 ≤ (rows.length : Int) - 1; omega⟩⟩⟩
      simp [d__law_near, eRcv, setR, p1, p2, p3]
  · subst e
    obtain ⟨o3, d3, p3, s3, d3a, d3b⟩ := run_pick (wf := wf) (n := n) s2 (m := 3) (by decide) (by decide)
    refine ⟨o3, ⟨rows, some d3, back⟩, ?_, s3, ⟨l1, l2, row, (fun z => by cases z), fun h hh => by cases hh; omega, bk⟩⟩
    simp [d__law_near, eRcv, setR, p1, p2, p3]
  · subst e
    by_cases z : rows.length < 3
    · have z' : (rows.length : Int) < 3 := by omega
      have m2 := bin_mul2 (l := rows.map eRow) (by simp; omega) rp
      rw [← List.map_append] at m2
      refine ⟨o2, ⟨rows ++ rows, hang, back.map (· + rows.length)⟩, ?_, s2, ⟨by show 1 ≤ (rows ++ rows).length; simp; omega, by show (rows ++ rows).length ≤ 4; simp; omega, fun x hx => (by
        rcases List.mem_append.mp hx with h | h <;> exact row x h), fun q => (by show back.map _ = none; rw [nob q]; rfl), hg, fun b hb => ?_⟩⟩
      · cases back with
        | none => simp [d__law_near, eRcv, setR, p1, p2, z', m2, -List.map_append]
        | some b => simp [d__law_near, eRcv, setR, p1, p2, z', m2, -List.map_append]
      · obtain ⟨c, hc, rfl⟩ := Option.map_eq_some_iff.mp hb
        have := bk c hc
        show 0 ≤ c + (rows.length : Int) ∧ c + (rows.length : Int) ≤ ((rows ++ rows).length : Int) - 1
        rw [List.length_append]
        omega
    · have z' : ¬ (rows.length : Int) < 3 := by omega
      refine ⟨o2, ⟨rows, hang, back⟩, ?_, s2, ok⟩
      simp [d__law_near, eRcv, setR, p1, p2, z', e1]
  · subst e
    by_cases z : (rows[d1.toNat]).2 = 2
    · have A : binD .mul (.tuple [.tuple [.int (rows[d1.toNat]).1, .int 1]]) (.int 2) = some (.tuple [.tuple [.int (rows[d1.toNat]).1, .int 1], .tuple [.int (rows[d1.toNat]).1, .int 1]]) := by
        rw [bin_mul2 (by simp) (by simp)]
        rfl
      have B : binD .add (.tuple ((rows.take d1.toNat).map eRow)) (.tuple [.tuple [.int (rows[d1.toNat]).1, .int 1], .tuple [.int (rows[d1.toNat]).1, .int 1]]) = some (.tuple ((rows.take d1.toNat ++ [((rows[d1.toNat]).1, 1), ((rows[d1.toNat]).1, 1)]).map eRow)) := by
        rw [bin_addT (by simp; omega), List.map_append]
        rfl
      have C : binD .add (.tuple ((rows.take d1.toNat ++ [((rows[d1.toNat]).1, 1), ((rows[d1.toNat]).1, 1)]).map eRow)) (.tuple ((rows.drop (d1.toNat + 1)).map eRow)) = some (.tuple ((rows.take d1.toNat ++ [((rows[d1.toNat]).1, 1), ((rows[d1.toNat]).1, 1)] ++ rows.drop (d1.toNat + 1)).map eRow)) := by
        rw [bin_addT (by simp; omega), List.map_append (l₂ := rows.drop _)]
      have hlen : (rows.take d1.toNat ++ [((rows[d1.toNat]).1, (1 : Int)), ((rows[d1.toNat]).1, 1)] ++ rows.drop (d1.toNat + 1)).length = rows.length + 1 := by
        simp
        omega
      have hmem : ∀ x ∈ rows.take d1.toNat ++ [((rows[d1.toNat]).1, (1 : Int)), ((rows[d1.toNat]).1, 1)] ++ rows.drop (d1.toNat + 1), 0 ≤ x.1 ∧ x.1 ≤ 2 ∧ 1 ≤ x.2 ∧ x.2 ≤ 4 := fun x hx => by
        rcases List.mem_append.mp hx with hx | hx
        · rcases List.mem_append.mp hx with hx | hx
          · exact row x (List.mem_of_mem_take hx)
          · have : x = ((rows[d1.toNat]).1, 1) := by simpa using hx
            rw [this]
            exact ⟨rk.1, rk.2.1, Int.le_refl _, (by decide : (1 : Int) ≤ 4)⟩
        · exact row x (List.mem_of_mem_drop hx)
      generalize rows.take d1.toNat ++ [((rows[d1.toNat]).1, (1 : Int)), ((rows[d1.toNat]).1, 1)] ++ rows.drop (d1.toNat + 1) = R at C hlen hmem
      have D : cutD (R.map eRow) none (some 4) = (R.take 4).map eRow := by rw [cut_to (by decide), List.map_take]; rfl
      refine ⟨o2, ⟨R.take 4, hang, back.map (fun b => if 3 < b then 3 else b)⟩, ?_, s2, ⟨by show 1 ≤ (R.take 4).length; rw [List.length_take]; omega, by show (R.take 4).length ≤ 4; rw [List.length_take]; omega, fun x hx => hmem x (List.mem_of_mem_take hx), fun q => (by show back.map _ = none; rw [nob q]; rfl), hg, fun b hb => ?_⟩⟩
      · cases back with
        | none => simp [d__law_near, eRcv, setR, p1, p2, e1, z, A, ct, cf, B, C, D, -List.map_append, -List.map_take, -List.map_drop]
        | some b => simp [d__law_near, eRcv, setR, p1, p2, e1, z, A, ct, cf, B, C, D, -List.map_append, -List.map_take, -List.map_drop]
      · obtain ⟨c, hc, rfl⟩ := Option.map_eq_some_iff.mp hb
        have := bk c hc
        show 0 ≤ (if 3 < c then 3 else c) ∧ (if 3 < c then 3 else c) ≤ ((R.take 4).length : Int) - 1
        rw [List.length_take]
        split <;> omega
    · refine ⟨o2, ⟨rows, hang, back⟩, ?_, s2, ok⟩
      simp [d__law_near, eRcv, setR, p1, p2, e1, z]
  · subst e
    obtain ⟨o3, d3, p3, s3, d3a, d3b⟩ := run_pick (wf := wf) (n := n) s2 (m := 4) (by decide) (by decide)
    obtain ⟨j1, j2⟩ := joins ((rows[d1.toNat]).1, 1 + d3)
    refine ⟨o3, ⟨rows.set d1.toNat ((rows[d1.toNat]).1, 1 + d3), hang, back⟩, ?_, s3, setok _ ⟨rk.1, rk.2.1, by show 1 ≤ 1 + d3; omega, by show 1 + d3 ≤ 4; omega⟩⟩
    have er : eRow ((rows[d1.toNat]).1, 1 + d3) = .tuple [.int (rows[d1.toNat]).1, .int (1 + d3)] := rfl
    rw [er] at j1 j2
    simp [d__law_near, eRcv, setR, p1, p2, p3, e1, ct, cf, j1, j2, -List.map_append, -List.map_set, -List.map_take, -List.map_drop]
  · subst e
    obtain ⟨o3, d3, p3, s3, d3a, d3b⟩ := run_pick (wf := wf) (n := n) s2 (m := 3) (by decide) (by decide)
    obtain ⟨j1, j2⟩ := joins (d3, (rows[d1.toNat]).2)
    refine ⟨o3, ⟨rows.set d1.toNat (d3, (rows[d1.toNat]).2), hang, back⟩, ?_, s3, setok _ ⟨d3a, by show d3 ≤ 2; omega, rk.2.2.1, rk.2.2.2⟩⟩
    have er : eRow (d3, (rows[d1.toNat]).2) = .tuple [.int d3, .int (rows[d1.toNat]).2] := rfl
    rw [er] at j1 j2
    simp [d__law_near, eRcv, setR, p1, p2, p3, e1, ct, cf, j1, j2, -List.map_append, -List.map_set, -List.map_take, -List.map_drop]
  · subst e
    refine ⟨o2, ⟨rows, hang, back⟩, ?_, s2, ok⟩
    simp [d__law_near, eRcv, setR, p1, p2]
def b9 (x : Option Pth) : Bool := x.isNone
theorem TW_pt {p : Pth} (o : OkR p) : TW 2 (ePt p) := by
  refine .inr ⟨p.map eSn, .inl rfl, by rw [List.length_map]; have := o.1; omega, fun x hx => ?_⟩
  obtain ⟨s, hs, rfl⟩ := List.mem_map.mp hx
  have h8 : ∀ s ∈ SENTS, s.length ≤ 5000000 := by decide
  refine .inr ⟨s.map .int, .inl rfl, by rw [List.length_map]; exact h8 s (o.2 s hs), fun y hy => ?_⟩
  obtain ⟨i, _, rfl⟩ := List.mem_map.mp hy
  exact rfl
theorem TW_oPt {x : Option Pth} (h : ∀ p, x = some p → OkR p) : TW 2 (oPt x) := by
  cases x with
  | none => exact .inl rfl
  | some p => exact TW_pt (h p rfl)
theorem TW_two {x : Option Pth} (h : ∀ p, x = some p → OkR p) : TW 3 (.list [.bool x.isNone, oPt x]) := by
  refine .inr ⟨_, .inr rfl, by simp, fun y hy => ?_⟩
  have : y = .bool x.isNone ∨ y = oPt x := by simpa using hy
  rcases this with e | e <;> rw [e]
  · exact .inl rfl
  · exact TW_oPt h
theorem isNone_oPt {x : Option Pth} : isNone (oPt x) = x.isNone := by cases x <;> rfl
/-- two receivers compared -/
theorem k09_two (hw : 4096 < wf) {a b : Rcv} (oka : OkRcv a) (okb : OkRcv b) {x0 x1 x2 x3 x5 x7 : SV} (t7 : stor (some x7) = true) : ∃ y7, execs (run Pt (gvOf Ct) wf (n + 20)) (mtOf Pt) (gvOf Ct) wf bd_law_k09_0 [x0, x1, x2, x3, .d (eRcv a), x5, .d (eRcv b), x7] = .ok .next [x0, x1, x2, x3, .d (eRcv a), x5, .d (eRcv b), y7] ∧ stor (some y7) = true := by
  have h1 := run_lparting (wf := wf) (n := n + 18) oka okb hw
  have h2 := run_alike (wf := wf) (n := n + 15) oka okb hw
  have h3 := run_parting (wf := wf) (n := n + 15) oka okb hw
  have h4 := run_parting (wf := wf) (n := n + 15) okb oka hw
  rw [partQ_sw] at h4
  have op := (partQ_some oka okb hw).2
  generalize partQ wf a b = x at *
  have t1 := run_twins_same (wf := wf) 3 _ (n + 15) (TW_two op)
  have t2 := run_twins_same (wf := wf) 2 _ (n + 16) (TW_oPt op)
  have nn := isNone_oPt (x := x)
  refine ⟨.d (oPt x), ?_, rfl⟩
  simp [bd_law_k09_0, setR, t7, h1, h2, h3, h4, t1, t2, nn]
theorem k09_turn (hw : 4096 < wf) {a : Rcv} (oka : OkRcv a) {L : List Rcv} (okL : ∀ b ∈ L, OkRcv b) {x0 x1 x2 x3 x5 x6 x7 : SV} (t6 : stor (some x6) = true) (t7 : stor (some x7) = true) :
    ∃ y6 y7, loopF (.n 6) (execs (run Pt (gvOf Ct) wf (n + 20)) (mtOf Pt) (gvOf Ct) wf bd_law_k09_0) (L.map eRcv) [x0, x1, x2, x3, .d (eRcv a), x5, x6, x7] = .ok .next [x0, x1, x2, x3, .d (eRcv a), x5, y6, y7] ∧ stor (some y6) = true ∧ stor (some y7) = true := by
  obtain ⟨ρ', hl, y6, y7, er, u6, u7⟩ := loopF_ind (t := .n 6) (body := execs (run Pt (gvOf Ct) wf (n + 20)) (mtOf Pt) (gvOf Ct) wf bd_law_k09_0) (xs := L.map eRcv)
    (fun i ρ => ∃ y6 y7, ρ = [x0, x1, x2, x3, .d (eRcv a), x5, y6, y7] ∧ stor (some y6) = true ∧ stor (some y7) = true)
    (fun i x ρ hx ⟨y6, y7, er, t6, t7⟩ => by
      subst er
      obtain ⟨b, hb, rfl⟩ := List.mem_map.mp (List.mem_of_getElem? hx)
      obtain ⟨z7, e, u7⟩ := k09_two (wf := wf) (n := n) (x0 := x0) (x1 := x1) (x2 := x2) (x3 := x3) (x5 := x5) hw oka (okL b hb) t7
      exact ⟨_, _, by simp [t6], e, _, _, rfl, rfl, u7⟩) _ ⟨x6, x7, rfl, t6, t7⟩
  subst er
  exact ⟨y6, y7, hl, u6, u7⟩
theorem k09_at (hw : 4096 < wf) {ns : List Int} {at_ : Nat} {x2 x3 x4 x5 x6 x7 : SV} (t3 : stor (some x3) = true) (t4 : stor (some x4) = true) (t5 : stor (some x5) = true) (t6 : stor (some x6) = true) (t7 : stor (some x7) = true) :
    ∃ y3 y4 y5 y6 y7 : SV, execs (run Pt (gvOf Ct) wf (n + 20)) (mtOf Pt) (gvOf Ct) wf bd_law_k09_1 [.d (.list (ns.map .int)), .d (.int at_), x2, x3, x4, x5, x6, x7] = .ok .next [.d (.list (ns.map .int)), .d (.int at_), x2, y3, y4, y5, y6, y7] ∧ stor (some y3) = true ∧ stor (some y4) = true ∧ stor (some y5) = true ∧ stor (some y6) = true ∧ stor (some y7) = true := by
  obtain ⟨a, b, e1, ha, hb⟩ := run_spring (wf := wf) (n := n + 19) (ns := ns) (at_ := at_)
  obtain ⟨o1, r1, e2, s1, ok1, _⟩ := run_lrcvG (wf := wf) (n := n + 18) (o := .lst [.int a, .int b]) ⟨a, b, rfl, ha, hb⟩ (c := 3) (mo := 3) (by decide) (by decide) (by decide) (by decide)
  obtain ⟨o2, r2, e3, s2, ok2⟩ := run_near (wf := wf) (n := n + 18) s1 ok1
  obtain ⟨o3, r3, e4, s3, ok3⟩ := run_near (wf := wf) (n := n + 18) s2 ok2
  obtain ⟨o4, r4, e5, s4, ok4, _⟩ := run_lrcvG (wf := wf) (n := n + 18) s3 (c := 2) (mo := 4) (by decide) (by decide) (by decide) (by decide)
  obtain ⟨y6, y7, lp, u6, u7⟩ := k09_turn (wf := wf) (n := n) (x0 := .d (.list (ns.map .int))) (x1 := .d (.int at_)) (x2 := x2) (x3 := .o o4) (x5 := .d (eRcv r2)) (L := [r2, r3, r4, r1]) hw ok1 (fun b hb => by
    simp at hb
    rcases hb with h | h | h | h <;> rw [h] <;> assumption) t6 t7
  refine ⟨.o o4, .d (eRcv r1), .d (eRcv r2), y6, y7, ?_, rfl, rfl, rfl, u6, u7⟩
  simp only [List.map_cons, List.map_nil] at lp
  simp [bd_law_k09_1, setR, t3, t4, t5, e1, e2, e3, e4, e5, ex_for, lp]
theorem min_at {n : Nat} : ∀ k : Nat, (if ((k : Nat) : Int) < (n : Int) then ((k : Nat) : Int) else (n : Int)) = ((min n k : Nat) : Int) := fun k => by
  split <;> omega
theorem sp1 : OkRcv ⟨[(0, 1), (1, 2)], some 1, some 0⟩ := ⟨by decide, by decide, by decide, by decide, fun h e => by cases e; decide, fun b e => by cases e; decide⟩
theorem sp2 : OkRcv ⟨[(0, 1), (1, 2), (0, 1), (1, 2)], some 1, some 2⟩ := ⟨by decide, by decide, by decide, by decide, fun h e => by cases e; decide, fun b e => by cases e; decide⟩
theorem sp3 : OkRcv ⟨[(2, 1)], none, none⟩ := ⟨by decide, by decide, by decide, by decide, (fun h e => by cases e), fun b e => by cases e⟩
theorem sp4 : OkRcv ⟨[(2, 1)], some 0, none⟩ := ⟨by decide, by decide, by decide, by decide, fun h e => by cases e; decide, fun b e => by cases e⟩
theorem law_k09 (ns : List Int) (hns : ns.length ≤ 63) : ∃ as, run Pt (gvOf Ct) 1000000 60 103 [.d (.list (ns.map .int))] = some (.ret (.bool true), as) := by
  have hm : ((min ns.length 10 + 1 : Nat) : Int) = (if (10 : Int) < ns.length then 10 else (ns.length : Int)) + 1 := by split <;> omega
  have sm : small62 ((if (10 : Int) < ns.length then 10 else (ns.length : Int)) + 1) = true := small_ok (by split <;> omega) (by split <;> omega)
  have hw : 4096 < 1000000 := by decide
  have q1 := run_parting (wf := 1000000) (n := 54) sp1 sp2 hw
  rw [partQ_at part1 (by decide)] at q1
  have q2 := run_parting (wf := 1000000) (n := 54) sp3 sp4 hw
  rw [partQ_at part2 (by decide)] at q2
  have q3 := run_twins_same (wf := 1000000) 0 .none 57 rfl
  simp only [eRcv, List.map_cons, List.map_nil, eRow, eO_n, eO_s, oPt, Option.map_none, Option.getD_none] at q1 q2
  have m2 := bin_mul2 (l := [.tuple [.int 0, .int 1], .tuple [.int 1, .int 2]]) (by simp) (by simp)
  simp only [List.cons_append, List.nil_append] at m2
  obtain ⟨ρ', hl, x1, x2, x3, x4, x5, x6, x7, er, t2, _⟩ := loopF_ind (t := .n 1) (body := execs (run Pt (gvOf Ct) 1000000 59) (mtOf Pt) (gvOf Ct) 1000000 bd_law_k09_1) (xs := rangeL 0 ((min ns.length 10 + 1 : Nat) : Int))
    (fun i ρ => ∃ (x1 x2 x3 x4 x5 x6 x7 : SV), ρ = [.d (.list (ns.map .int)), x1, x2, x3, x4, x5, x6, x7] ∧ stor (some x2) = true ∧ stor (some x1) = true ∧ stor (some x3) = true ∧ stor (some x4) = true ∧ stor (some x5) = true ∧ stor (some x6) = true ∧ stor (some x7) = true)
    (fun i x ρ hx ⟨x1, x2, x3, x4, x5, x6, x7, er, t2, t1, t3, t4, t5, t6, t7⟩ => by
      subst er
      obtain ⟨rfl, _⟩ := rangeL_get hx
      obtain ⟨y3, y4, y5, y6, y7, b, u⟩ := k09_at (wf := 1000000) (n := 39) hw (ns := ns) (at_ := i) (x2 := x2) t3 t4 t5 t6 t7
      exact ⟨[.d (.list (ns.map .int)), .d (.int i), x2, x3, x4, x5, x6, x7], _, by simp [t1], b, .d (.int i), x2, y3, y4, y5, y6, y7, rfl, t2, rfl, u⟩) [.d (.list (ns.map .int)), .un, .un, .un, .un, .un, .un, .un]
    ⟨.un, .un, .un, .un, .un, .un, .un, rfl, rfl, rfl, rfl, rfl, rfl, rfl, rfl⟩
  subst er
  rw [hm] at hl
  refine ⟨[.d (.list (ns.map .int))], ?_⟩
  rw [run_of P_law_k09 rfl]
  simp [d_law_k09, ex_for, sm, hl, setR, t2, m2, q1, q2, q3]
end Er

set_option Elab.async false
set_option linter.all false
set_option maxRecDepth 100000
set_option maxHeartbeats 0
namespace Er
open PySem L2
def L_k09 : List (Nat × Nat) := [(0, 4), (1, 5), (2, 6), (94, 7), (37, 9), (39, 10), (40, 11), (95, 14), (96, 15), (97, 16), (98, 17), (14, 19), (15, 20), (16, 21), (17, 22), (18, 23), (19, 24), (20, 25), (21, 26), (22, 27), (23, 28), (24, 29), (25, 30), (26, 31), (27, 32), (99, 33), (100, 34), (101, 35), (102, 36), (103, 37)]
def Cn_k09 : List Nat := [3]
def top_k09 (i : Nat) : Stmt := PySem.Challenge.pw_earround_k09_whole_receivers_compared.main.body.getD i (.Pass ⟨0, 0, 0, 0⟩)
def chk_k09 (fi : Nat × Nat) : Bool := match Pt fi.1 with
  | some d => chkDf (gc Pt L_k09 (gnOf Ct Cn_k09)) d (top_k09 fi.2)
  | none => false
theorem bad_k09 : (L_k09.filter fun fi => !chk_k09 fi).map (·.1) = [] := by decide +kernel
end Er

set_option Elab.async false
set_option linter.all false
set_option maxRecDepth 100000
set_option maxHeartbeats 0
namespace Er
open PySem L2
abbrev R_k09 : PySem.W.OpenRow := PySem.W.OpenLaw.row PySem.Challenge.rw_earround_k09_whole_receivers_compared
abbrev hk_k09 : PySem.W.Hook := hookE 5 (faL Pt L_k09) (fnL Pt L_k09 top_k09) (exC Ct Cn_k09)
def ob_k09 (s : PySem.W.SharedT) : AlE := obsE 5 (faL Pt L_k09) (fnL Pt L_k09 top_k09) (exC Ct Cn_k09) (HandSHeadRun.getT s)
theorem ob_k09_eq (s : PySem.W.SharedT) : ob_k09 s = hk_k09.obs s.abs := obsE_eq (HandSHeadRun.getT_eq s)
def loose_k09 : List Str := (["EarError", "InvalidReceiver", "SENT"] : List Str) ++ (L_k09.filterMap fun fi => if fi.1 == 103 then none else (Pt fi.1).map fun d => Str.ofString d.name)
theorem run_k09 (w : World) : HandSHeadRun.RunEq R_k09 (PySem.W.view R_k09.prog [37]) hk_k09 ob_k09 4000 loose_k09 w := by
  intro os
  kernel_rfl
end Er

set_option Elab.async false
set_option linter.all false
set_option maxRecDepth 100000
set_option maxHeartbeats 0
namespace Er
open PySem L2
theorem chkL_k09 : ∀ fi ∈ L_k09, ∃ d, Pt fi.1 = some d ∧ chkDf (gc Pt L_k09 (gnOf Ct Cn_k09)) d (top_k09 fi.2) = true := by
  have h : (L_k09.all chk_k09) = true := by decide +kernel
  intro fi hfi
  have z := List.all_eq_true.mp h fi hfi
  unfold chk_k09 at z
  split at z
  · rename_i d e
    exact ⟨d, e, z⟩
  · cases z
end Er
open PySem PySem.W PySem.Calls PyProof.Rows
theorem PySem.Challenge.cw_earround_k09_whole_receivers_compared_holds : PySem.Challenge.rw_earround_k09_whole_receivers_compared.Holds := by
  w_on; o_law
  refine HandSHeadRun.head_any (r := OpenLaw.row PySem.Challenge.rw_earround_k09_whole_receivers_compared) (q := view (OpenLaw.row PySem.Challenge.rw_earround_k09_whole_receivers_compared).prog [37]) (H := Er.hk_k09) (ob := Er.ob_k09) (M := 4000) (loose := Er.loose_k09) (d := HandSHeadRun.topDef (OpenLaw.row PySem.Challenge.rw_earround_k09_whole_receivers_compared).prog 37) (kwd := []) Er.ob_k09_eq
    (by kernel_rfl) (fun s => by kernel_rfl) Er.run_k09 (by kernel_rfl) (by kernel_rfl) (by kernel_rfl) (by rfl) (by first | assumption | decide +kernel) (by decide +kernel) ⟨rfl, rfl, rfl, rfl, rfl, by decide +kernel⟩ ?hw ?hc
  case hw => w_witness2
  case hc =>
    exact Er.walk_er (l := PySem.Challenge.rw_earround_k09_whole_receivers_compared) (N := 60) (f0 := 103) (i0 := 37) (d0 := Er.d_law_k09) (x := "script") (cv := fun _ => .none) (wf := 1000000) rfl (by kernel_rfl) ⟨rfl, by decide, by decide⟩ rfl (by decide) rfl (by kernel_rfl) (by kernel_rfl) Er.chkL_k09 Er.law_k09

