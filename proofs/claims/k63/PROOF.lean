import PyProof.Rows.All
import Wide.All
import OpenK.AllK
import Wide.FinOn
import HandS.ForMost
import HandS.ForExc
import HandS.Wide
import HandS.Deep
import HandS.ExcValue
import HandS.RaiseMore
import HandS.IsInst
import HandS.HeadWalk
import HandS.More
import HandS.Small
import HandS.Zip
import HandS.ExcIs
import HandS.Defaults
import HandS.Replace
import KE.KStateDown
import HandS.HeadEnd
import HandS.HeadHook1
import HandS.HeadHook2
import HandS.HeadHook3
import HandS.Head0
import HandS.Head1
import HandS.Head2
import HandS.EndBits
import PySem.Challenge.RW_stuckwires_k63_texts_of_no_fault
import HandS.Words
set_option Elab.async false
set_option linter.all false
set_option maxRecDepth 100000
/-! PD0: plain data, what the operations give on it, the little language and its run. No heap. -/
namespace PD
open PySem L2

inductive Ex where
  | stuck | works | row | fault | text | order | many
  deriving DecidableEq

inductive D where
  | non | bl (b : Bool) | int (i : Int) | str (s : Str)
  | tup (ds : List D) | ctup (ds : List D) | lst (ds : List D)
  | scr (ns : List Int)
  | cdk (ks : List Str) (vs : List D)
  | dk (ks : List Str) (vs : List D)
  | dt (ks : List (List Key)) (vs : List D)
  | exn (e : Ex) | cell (n : Nat) | obj (ns : List Str) (vs : List D)
  deriving Inhabited

/-- a name's slot: without a value; a value (frozen); a thing of one's own that may be changed; one that a loop walks meanwhile -/
inductive Slot where
  | un | sh (d : D) | own (d : D) | lent (d : D)

inductive Out (α : Type) where
  | ok (ρ : List Slot) (st : List D) (a : α)
  | exc (e : Ex) (ρ : List Slot) (st : List D)
  | stuck
@[reducible] def Sm (α : Type) := List Slot → List D → Out α
def Out.bind {α β : Type} : Out α → (List Slot → List D → α → Out β) → Out β
  | .ok ρ st a, f => f ρ st a
  | .exc e ρ st, _ => .exc e ρ st
  | .stuck, _ => .stuck
@[simp] theorem bind_ok {α β : Type} (ρ : List Slot) (st : List D) (a : α) (f : List Slot → List D → α → Out β) : (Out.ok ρ st a).bind f = f ρ st a := rfl
@[simp] theorem bind_exc {α β : Type} (e : Ex) (ρ : List Slot) (st : List D) (f : List Slot → List D → α → Out β) : (Out.exc e ρ st : Out α).bind f = .exc e ρ st := rfl
@[simp] theorem bind_stuck {α β : Type} (f : List Slot → List D → α → Out β) : (Out.stuck : Out α).bind f = .stuck := rfl

/-- the same, the slots behind put back by g -/
def Out.bindX {α β : Type} (g : List Slot → List Slot) : Out α → (List Slot → List D → α → Out β) → Out β
  | .ok ρ st a, f => f (g ρ) st a
  | .exc e ρ st, _ => .exc e (g ρ) st
  | .stuck, _ => .stuck
@[simp] theorem bindX_ok {α β : Type} (g : List Slot → List Slot) (ρ : List Slot) (st : List D) (a : α) (f : List Slot → List D → α → Out β) : (Out.ok ρ st a).bindX g f = f (g ρ) st a := rfl
@[simp] theorem bindX_exc {α β : Type} (g : List Slot → List Slot) (e : Ex) (ρ : List Slot) (st : List D) (f : List Slot → List D → α → Out β) : (Out.exc e ρ st : Out α).bindX g f = .exc e (g ρ) st := rfl
@[simp] theorem bindX_stuck {α β : Type} (g : List Slot → List Slot) (f : List Slot → List D → α → Out β) : (Out.stuck : Out α).bindX g f = .stuck := rfl

/-- what a def gives back -/
inductive FR where
  | ok (st : List D) (fl : Bool) (d : D)
  | exc (e : Ex) (st : List D)
  | stuck
/-- a def, by its arguments and the store -/
abbrev Fn := List D → List D → FR

/-! ### data as PyData -/
mutual
def toP : D → PyData
  | .non => .none
  | .bl b => .bool b
  | .int i => .int i
  | .str s => .str s
  | .tup ds => .tuple (toPs ds)
  | .ctup ds => .tuple (toPs ds)
  | .lst ds => .list (toPs ds)
  | _ => .none
def toPs : List D → List PyData
  | [] => []
  | d :: ds => toP d :: toPs ds
end
mutual
/-- plain data of at most so many levels -/
def pl : Nat → D → Bool
  | _, .non => true
  | _, .bl _ => true
  | _, .int _ => true
  | _, .str s => PyData.strOk s
  | n + 1, .tup ds => pls n ds
  | n + 1, .ctup ds => pls n ds
  | n + 1, .lst ds => pls n ds
  | _, _ => false
def pls : Nat → List D → Bool
  | _, [] => true
  | n, d :: ds => pl n d && pls n ds
end
/-- what == asks at once -/
def sc : D → D → Bool
  | .non, .non => true
  | .non, .int _ => true
  | .int _, .non => true
  | .non, .bl _ => true
  | .bl _, .non => true
  | .non, .str _ => true
  | .str _, .non => true
  | .int _, .int _ => true
  | .bl _, .bl _ => true
  | .str _, .str _ => true
  | .int _, .str _ => true
  | .str _, .int _ => true
  | .bl _, .str _ => true
  | .str _, .bl _ => true
  | _, _ => false
def dEq (x y : D) : Option Bool := if sc x y || (pl 40 x && pl 40 y) then some (PyData.eqv (toP x) (toP y)) else none

def kOf : D → Option Key
  | .int i => some (.inl i)
  | .str s => some (.inr s)
  | _ => none
def kOfs : List D → Option (List Key)
  | [] => some []
  | d :: ds => match kOf d, kOfs ds with
    | some k, some ks => some (k :: ks)
    | _, _ => none
def get1 {κ : Type} [DecidableEq κ] (ks : List κ) (vs : List D) (k : κ) : Option D := ((ks.zip vs).find? fun p => decide (p.1 = k)).map (·.2)
def put1 {κ : Type} [DecidableEq κ] : List κ → List D → κ → D → List κ × List D
  | k' :: ks, v' :: vs, k, v => if k' = k then (k' :: ks, v :: vs) else ((k' :: (put1 ks vs k v).1), (v' :: (put1 ks vs k v).2))
  | _, _, k, v => ([k], [v])

/-- in its place, or at the end (of unlike keys) -/
def putA {κ : Type} [DecidableEq κ] (ks : List κ) (vs : List D) (k : κ) (v : D) : List κ × List D :=
  if (ks.any fun k' => decide (k' = k)) = true then (ks, List.zipWith (fun k' v' => if k' = k then v else v') ks vs) else (ks ++ [k], vs ++ [v])

/-! ### the operations -/
inductive Op where
  | add | sub | mul | mod | fdiv | pow | shl | shr | band | neg
  | eq | ne | lt | le | gt | ge | isin | notin | isN | notN
  | len | toInt | toStr | toList | toTup | sum | min1 | max1 | min2 | max2 | any | all
  | item | slLo | slHi | slLoHi
  | split | join | count | index | get2 | rep1
  | isStr | isList | isTup | isInt | isBool | isExc (es : List Ex) | isValErr
  deriving DecidableEq

def intsD : List D → Option (List Int)
  | [] => some []
  | .int i :: ds => match intsD ds with
    | some r => some (i :: r)
    | none => none
  | _ :: _ => none
def blsD : List D → Option (List Bool)
  | [] => some []
  | .bl i :: ds => match blsD ds with
    | some r => some (i :: r)
    | none => none
  | _ :: _ => none
def strsD : List D → Option (List Str)
  | [] => some []
  | .str i :: ds => match strsD ds with
    | some r => some (i :: r)
    | none => none
  | _ :: _ => none

def dAdd : D → D → Option (Bool × D)
  | .int i, .int j => some (false, .int (i + j))
  | .str x, .str y => if x.length + y.length ≤ 16777216 then some (false, .str (x ++ y)) else none
  | .lst xs, .lst ys => if xs.length + ys.length ≤ 16777216 then some (true, .lst (xs ++ ys)) else none
  | .tup xs, .tup ys => if xs.isEmpty = false ∧ xs.length + ys.length ≤ 16777216 then some (false, .tup (xs ++ ys)) else none
  | _, _ => none
def dSub : D → D → Option (Bool × D)
  | .int i, .int j => some (false, .int (i - j))
  | _, _ => none
def dMul : D → D → Option (Bool × D)
  | .int i, .int j => if i.natAbs.log2 + j.natAbs.log2 < 1000000 then some (false, .int (i * j)) else none
  | .lst xs, .int k => if -1000000 < k ∧ k < 1000000 ∧ xs.length = 1 then some (true, .lst (List.replicate k.toNat xs).flatten) else none
  | .str x, .int k => if -1000000 < k ∧ k < 1000000 ∧ x.length = 1 then some (false, .str ⟨(List.replicate k.toNat x.cps.toList).flatten.toArray⟩) else none
  | _, _ => none
def dMod : D → D → Option (Bool × D)
  | .int i, .int j => if j = 0 then none else some (false, .int (i.fmod j))
  | _, _ => none
def dFdiv : D → D → Option (Bool × D)
  | .int i, .int j => if 0 < j ∧ j.natAbs.log2 < 9000 then some (false, .int (i / j)) else none
  | _, _ => none
def dPow : D → D → Option (Bool × D)
  | .int i, .int j => if 0 ≤ j ∧ j ≤ 1000000 ∧ i.natAbs < 2 ^ 64 then some (false, .int (i ^ j.toNat)) else none
  | _, _ => none
def dShl : D → D → Option (Bool × D)
  | .int i, .int j => if 0 ≤ j ∧ j ≤ 1000000 ∧ i.natAbs < 2 ^ 64 then some (false, .int (i * 2 ^ j.toNat)) else none
  | _, _ => none
def dShr : D → D → Option (Bool × D)
  | .int i, .int j => if 0 ≤ j then some (false, .int (i / 2 ^ j.toNat)) else none
  | _, _ => none
def dBand : D → D → Option (Bool × D)
  | .int i, .int j => some (false, .int (Builtin.bitAnd i j))
  | _, _ => none
def dCmp (f : Int → Int → Bool) : D → D → Option (Bool × D)
  | .int i, .int j => some (false, .bl (f i j))
  | _, _ => none
def flatD : D → Bool
  | .non => true
  | .bl _ => true
  | .int _ => true
  | .str _ => true
  | _ => false
def dIn (x : D) : D → Option Bool
  | .lst ys => if pl 40 x && pls 40 ys then some (ys.any fun y => PyData.eqv (toP y) (toP x)) else none
  | .tup ys => if flatD x && ys.all flatD then some (ys.any fun y => PyData.eqv (toP y) (toP x)) else none
  | .ctup ys => if flatD x && ys.all flatD then some (ys.any fun y => PyData.eqv (toP y) (toP x)) else none
  | .str z => match x with
    | .str c => if c.length = 1 then some (decide (c.cps.toList.headD 0 ∈ z.cps.toList)) else none
    | _ => none
  | .cdk ks vs => match x with
    | .str c => some (get1 ks vs c).isSome
    | _ => none
  | .dk ks vs => match x with
    | .str c => some (get1 ks vs c).isSome
    | _ => none
  | .dt ks vs => match x with
    | .tup ds => match kOfs ds with
      | some k => some (get1 ks vs k).isSome
      | none => none
    | _ => none
  | _ => none
def dLen : D → Option Nat
  | .lst ds => some ds.length
  | .tup ds => some ds.length
  | .ctup ds => some ds.length
  | .scr ns => some ns.length
  | .str s => if s.length ≤ 16777216 then some s.length else none
  | _ => none
def dItem : D → D → Option D
  | .lst ds, .int i => atI ds i
  | .tup ds, .int i => atI ds i
  | .ctup ds, .int i => atI ds i
  | .scr ns, .int i => (atI ns i).map .int
  | .str s, .int i => if s.length ≤ 16777216 then (atI s.cps.toList i).map fun c => .str ⟨#[c]⟩ else none
  | .cdk ks vs, .str c => get1 ks vs c
  | .dk ks vs, .str c => get1 ks vs c
  | .dt ks vs, .tup ds => match kOfs ds with
    | some k => get1 ks vs k
    | none => none
  | _, _ => none
def cut {α : Type} (xs : List α) (lo hi : Option Int) : List α := (xs.drop (HT.sIx xs.length 0 lo)).take (HT.sIx xs.length xs.length hi - HT.sIx xs.length 0 lo)
def dSl (lo hi : Option Int) : D → Option (Bool × D)
  | .lst ds => some (true, .lst (cut ds lo hi))
  | .scr ns => some (true, .lst ((cut ns lo hi).map .int))
  | .tup ds => if (cut ds lo hi).length < ds.length then some (false, .tup (cut ds lo hi)) else none
  | .str s => if s.length ≤ 16777216 then some (false, .str ⟨(cut s.cps.toList lo hi).toArray⟩) else none
  | _ => none
def get2 (d k x : D) : Option D := match d, k with
  | .cdk ks vs, .str c => some ((get1 ks vs c).getD x)
  | .dk ks vs, .str c => some ((get1 ks vs c).getD x)
  | .dt ks vs, .tup ds => match kOfs ds with
    | some k => some ((get1 ks vs k).getD x)
    | none => none
  | _, _ => none
def sv (o : Option D) : Option (Bool × D) := o.map fun d => (false, d)
def sb (o : Option Bool) : Option (Bool × D) := o.map fun b => (false, .bl b)
/-- the first n of y in x put otherwise -/
def repN (x y z : Str) (n : Nat) : Str :=
  if ((Builtin.Str.occurrences x y 0 x.length n).isEmpty || (y.length == 0 && z.length == 0)) = true then x else Builtin.Str.glued z (Builtin.Str.partsBetween x (Builtin.Str.occurrences x y 0 x.length n) y.length)
def dRep1 : D → Option (Bool × D)
  | .str x => if x.length ≤ 1000000 then some (false, .str (repN x " " "  " 1)) else none
  | _ => none
/-- which classes stand under which: all under StuckError -/
def exUnder (c e : Ex) : Bool := decide (c = e) || decide (e = .stuck)

def isK (k : Nat) : D → Option Bool
  | .non => some false
  | .bl _ => some (k == 3 || k == 4)
  | .int _ => some (k == 3)
  | .str _ => some (k == 0)
  | .lst _ => some (k == 1)
  | .tup _ => some (k == 2)
  | _ => none

def dNeg : D → Option (Bool × D)
  | .int i => some (false, .int (-i))
  | _ => none
def dIsN : D → Bool
  | .non => true
  | _ => false
def dToInt : D → Option (Bool × D)
  | .int i => some (false, .int i)
  | .bl b => some (false, .int (if b then 1 else 0))
  | .str s => if s.length ≤ 640 then (PySem.intText? s).map fun i => (false, .int i) else none
  | _ => none
def dToStr : D → Option (Bool × D)
  | .int i => if i.natAbs.log2 < 1920 then some (false, .str (toString i)) else none
  | .str s => some (false, .str s)
  | _ => none
def dToList : D → Option (Bool × D)
  | .lst ds => some (true, .lst ds)
  | .tup ds => some (true, .lst ds)
  | .ctup ds => some (true, .lst ds)
  | _ => none
def dToTup : D → Option (Bool × D)
  | .lst ds => some (false, .tup ds)
  | .tup ds => some (false, .tup ds)
  | _ => none
def dSum : D → Option (Bool × D)
  | .lst ds => (intsD ds).map fun l => (false, .int l.sum)
  | _ => none
def minL : List Int → Option Int
  | [] => none
  | i :: l => some (l.foldl min i)
def maxL : List Int → Option Int
  | [] => none
  | i :: l => some (l.foldl max i)
def dMin1 : D → Option (Bool × D)
  | .lst ds => ((intsD ds).bind minL).map fun i => (false, .int i)
  | _ => none
def dMax1 : D → Option (Bool × D)
  | .lst ds => ((intsD ds).bind maxL).map fun i => (false, .int i)
  | _ => none
def dMin2 : D → D → Option (Bool × D)
  | .int i, .int j => some (false, .int (if j < i then j else i))
  | _, _ => none
def dMax2 : D → D → Option (Bool × D)
  | .int i, .int j => some (false, .int (if j > i then j else i))
  | _, _ => none
def dAny : D → Option (Bool × D)
  | .lst ds => (blsD ds).map fun l => (false, .bl (l.any id))
  | _ => none
def dAll : D → Option (Bool × D)
  | .lst ds => (blsD ds).map fun l => (false, .bl (l.all id))
  | _ => none
def asInt : D → Option Int
  | .int i => some i
  | _ => none
def dSlLo (x i : D) : Option (Bool × D) := (asInt i).bind fun i => dSl (some i) none x
def dSlHi (x i : D) : Option (Bool × D) := (asInt i).bind fun i => dSl none (some i) x
def dSlLoHi (x i j : D) : Option (Bool × D) := (asInt i).bind fun i => (asInt j).bind fun j => dSl (some i) (some j) x
def dSplit : D → D → Option (Bool × D)
  | .str a, .str b => if b.length = 0 ∨ 16777216 < a.length + 2 then none else some (true, .lst ((Txt.split a b).map .str))
  | _, _ => none
def dJoin : D → D → Option (Bool × D)
  | .str a, .lst ds => (strsD ds).bind fun ys => if (ys.map (·.length)).sum + ys.length * a.length ≤ 16777216 then some (false, .str (Txt.join a ys)) else none
  | _, _ => none
def dCount : D → D → Option (Bool × D)
  | .lst ds, .bl b => (blsD ds).map fun l => (false, .int (l.count b))
  | _, _ => none
def dIndex : D → D → Option (Bool × D)
  | .lst ds, .bl b => (blsD ds).bind fun l => if b ∈ l then some (false, .int (l.idxOf b)) else none
  | _, _ => none
def dIsExc (es : List Ex) : D → Option (Bool × D)
  | .exn c => some (false, .bl (es.any fun e => exUnder c e))
  | _ => none
def dIsVal : D → Option (Bool × D)
  | .exn _ => some (false, .bl true)
  | _ => none

def opSem : Op → List D → Option (Bool × D)
  | .add, [x, y] => dAdd x y
  | .sub, [x, y] => dSub x y
  | .mul, [x, y] => dMul x y
  | .mod, [x, y] => dMod x y
  | .fdiv, [x, y] => dFdiv x y
  | .pow, [x, y] => dPow x y
  | .shl, [x, y] => dShl x y
  | .shr, [x, y] => dShr x y
  | .band, [x, y] => dBand x y
  | .neg, [x] => dNeg x
  | .eq, [x, y] => sb (dEq x y)
  | .ne, [x, y] => sb ((dEq x y).map not)
  | .lt, [x, y] => dCmp (fun i j => decide (i < j)) x y
  | .le, [x, y] => dCmp (fun i j => decide (i ≤ j)) x y
  | .gt, [x, y] => dCmp (fun i j => decide (j < i)) x y
  | .ge, [x, y] => dCmp (fun i j => decide (j ≤ i)) x y
  | .isin, [x, y] => sb (dIn x y)
  | .notin, [x, y] => sb ((dIn x y).map not)
  | .isN, [x] => some (false, .bl (dIsN x))
  | .notN, [x] => some (false, .bl (!dIsN x))
  | .len, [x] => (dLen x).map fun n => (false, .int n)
  | .toInt, [x] => dToInt x
  | .toStr, [x] => dToStr x
  | .toList, [x] => dToList x
  | .toTup, [x] => dToTup x
  | .sum, [x] => dSum x
  | .min1, [x] => dMin1 x
  | .max1, [x] => dMax1 x
  | .min2, [x, y] => dMin2 x y
  | .max2, [x, y] => dMax2 x y
  | .any, [x] => dAny x
  | .all, [x] => dAll x
  | .item, [x, i] => sv (dItem x i)
  | .slLo, [x, i] => dSlLo x i
  | .slHi, [x, i] => dSlHi x i
  | .slLoHi, [x, i, j] => dSlLoHi x i j
  | .split, [a, b] => dSplit a b
  | .rep1, [a] => dRep1 a
  | .join, [a, b] => dJoin a b
  | .count, [a, b] => dCount a b
  | .index, [a, b] => dIndex a b
  | .isStr, [x] => sb (isK 0 x)
  | .isList, [x] => sb (isK 1 x)
  | .isTup, [x] => sb (isK 2 x)
  | .isInt, [x] => sb (isK 3 x)
  | .isBool, [x] => sb (isK 4 x)
  | .isExc es, [x] => dIsExc es x
  | .isValErr, [x] => dIsVal x
  | _, _ => none

/-- what may receive a method's call -/
def recv : Op → List D → Bool
  | .split, [.str _] => true
  | .join, [.str _] => true
  | .get2, [.dk _ _] => true
  | .get2, [.dt _ _] => true
  | .count, [.lst _] => true
  | .index, [.lst _] => true
  | .slLoHi, [_, .int _] => true
  | _, _ => false

/-! ### the little language -/
inductive Tg where
  | name (i : Nat) | tup (ts : List Tg)
inductive E where
  | var (i : Nat) | int (i : Int) | str (s : Str) | bl (b : Bool) | non | cst (d : D)
  | op (o : Op) (es : List E) | meth (o : Op) (r es : List E) | dget (r k : List E) (x : E)
  | and_ (a b : E) | or_ (a b : E) | not_ (a : E) | ite (c a b : E)
  | chain (o1 o2 : Op) (ab c : List E)
  | tup (es : List E) | lst (es : List E) | dict0 | dict (ks : List Str) (vs : List E)
  | call (f : Fn) (refs : List Bool) (es : List E)
  | comp (own : List Nat) (k : Nat) (src : List E) (tg : Tg) (cond : Option E) (elt : E)
  | attr (o : List E) (f : Str)
  | make (f : Fn) | mcall (f : Fn) (m : Str) (o : E) (refs : List Bool) (es : List E)
/-- the sources (k): 0 list or tuple, 1 range(n), 2 range(a, b), 3 enumerate, 4 zip, 5 text, 6 dict -/
inductive S where
  | expr (e : E) | set (i : Nat) (e : E) | asg (tg : Tg) (e : E)
  | append (i : Nat) (e : E) | extend (i : Nat) (e : E) | insert (i : Nat) (a b : E) | popAt (i : Nat) (a : E) | clear (i : Nat)
  | setItem (i : Nat) (k e : E) | setAttr (i : Nat) (f : Str) (e : E)
  | ifs (c : E) (a b : List S)
  | for_ (k : Nat) (src : List E) (tg : Tg) (body : List S)
  | while_ (n : Nat) (c : E) (body : List S)
  | ret (e : E) | retN | raise (x : Ex)
  | try_ (body : List S) (x : Ex) (e : Nat) (suite : List S)
  | brk | cont | pass

/-! ### the run -/
def frzOk : D → Bool
  | .lst _ => true
  | .dk _ _ => true
  | .dt _ _ => true
  | _ => false
/-- freeze a slot that is read as a value -/
def getV (i : Nat) : Sm D := fun ρ st => match ρ[i]? with
  | some (.sh d) => .ok ρ st d
  | some (.own d) => .ok (ρ.set i (.sh d)) st d
  | _ => .stuck
def deref (st : List D) : D → Option D
  | .cell n => st[n]?
  | d => some d
def rez (ρ : List Slot) (st : List D) : Nat ⊕ D → Option D
  | .inl i => match ρ[i]? with
    | some (.sh d) => deref st d
    | some (.own d) => some d
    | some (.lent d) => some d
    | _ => none
  | .inr d => deref st d
def rezs (ρ : List Slot) (st : List D) : List (Nat ⊕ D) → Option (List D)
  | [] => some []
  | o :: os => match rez ρ st o, rezs ρ st os with
    | some d, some ds => some (d :: ds)
    | _, _ => none
def isUn : Option Slot → Bool
  | some (.sh _) => false
  | some (.own _) => false
  | some (.lent _) => false
  | _ => true
/-- a name handed by reference -/
def boxV (i : Nat) : Sm D := fun ρ st => match ρ[i]? with
  | some (.sh (.cell n)) => .ok ρ st (.cell n)
  | some (.own d) => .ok (ρ.set i (.sh (.cell st.length))) (st ++ [d]) (.cell st.length)
  | _ => .stuck
def asTup : D → Option (List D)
  | .tup ds => some ds
  | .ctup ds => some ds
  | _ => none
mutual
def setT : Tg → D → List Slot → Option (List Slot)
  | .name i, d, ρ => if i < ρ.length then some (ρ.set i (.sh d)) else none
  | .tup ts, d, ρ => match asTup d with
    | some ds => setTs ts ds ρ
    | none => none
def setTs : List Tg → List D → List Slot → Option (List Slot)
  | [], [], ρ => some ρ
  | t :: ts, d :: ds, ρ => match setT t d ρ with
    | some ρ' => setTs ts ds ρ'
    | none => none
  | _, _, _ => none
end
/-- the items of a source -/
def items : Nat → List D → Option (List D)
  | 0, [.lst ds] => some ds
  | 0, [.tup ds] => some ds
  | 0, [.ctup ds] => some ds
  | 1, [.int n] => if n ≤ 16777216 ∧ -(2 ^ 62) ≤ n then some ((List.range n.toNat).map fun i => .int (i : Nat)) else none
  | 2, [.int a, .int b] => if b - a ≤ 16777216 ∧ -(2 ^ 62) ≤ a ∧ a < 2 ^ 62 ∧ -(2 ^ 62) ≤ b ∧ b < 2 ^ 62 then some ((List.range (b - a).toNat).map fun i => .int (a + (i : Nat))) else none
  | 3, [.lst ds] => some ((List.range ds.length).zip ds |>.map fun p => .tup [.int (p.1 : Nat), p.2])
  | 4, [.lst ds, .lst es] => some ((ds.zip es).map fun p => .tup [p.1, p.2])
  | 5, [.str s] => if s.length ≤ 16777216 then some (s.cps.toList.map fun c => .str ⟨#[c]⟩) else none
  | 6, [.dt ks _] => some (ks.map fun k => .tup (k.map fun | .inl i => .int i | .inr s => .str s))
  | _, _ => none
/-- own slots forgotten, and put back -/
def wipeS (ρ : List Slot) : List Nat → List Slot
  | [] => ρ
  | v :: vs => (wipeS ρ vs).set v .un
def backS (ρ0 ρ : List Slot) : List Nat → List Slot
  | [] => ρ
  | v :: vs => (backS ρ0 ρ vs).set v (ρ0.getD v .un)
def ownFree (ρ : List Slot) (own : List Nat) : Bool := own.all fun i => match ρ[i]? with
  | some (.sh _) => true
  | some .un => true
  | _ => false
/-- what a loop walks, of one's own -/
def lends (ρ : List Slot) : List (Nat ⊕ D) → List Nat
  | [] => []
  | .inl i :: os => match ρ[i]? with
    | some (.own _) => i :: lends ρ os
    | _ => lends ρ os
  | .inr _ :: os => lends ρ os
def lend : List Nat → List Slot → List Slot
  | [], ρ => ρ
  | i :: is, ρ => match ρ[i]? with
    | some (.own d) => lend is (ρ.set i (.lent d))
    | _ => lend is ρ
def unlend : List Nat → List Slot → List Slot
  | [], ρ => ρ
  | i :: is, ρ => match ρ[i]? with
    | some (.lent d) => unlend is (ρ.set i (.own d))
    | _ => unlend is ρ
/-- the comprehension's loop -/
def compLoop (own : List Nat) (tg : Tg) (test : Sm Bool) (elt : Sm D) : List D → List D → Sm (List D)
  | [], acc, ρ, st => .ok ρ st acc
  | d :: ds, acc, ρ, st => match setT tg d ρ with
    | none => .stuck
    | some ρ1 => (test ρ1 st).bind fun ρ2 st2 b => if b then (elt ρ2 st2).bind fun ρ3 st3 y => compLoop own tg test elt ds (acc ++ [y]) (wipeS ρ3 own) st3 else compLoop own tg test elt ds acc (wipeS ρ2 own) st2
inductive Fl where
  | next | ret (fl : Bool) (d : D) | brk | cont
def forLoop (tg : Tg) (body : Sm Fl) : List D → Sm Fl
  | [], ρ, st => .ok ρ st .next
  | d :: ds, ρ, st => match setT tg d ρ with
    | none => .stuck
    | some ρ1 => (body ρ1 st).bind fun ρ2 st2 f => match f with
      | .next => forLoop tg body ds ρ2 st2
      | .cont => forLoop tg body ds ρ2 st2
      | .brk => .ok ρ2 st2 .next
      | .ret fl d => .ok ρ2 st2 (.ret fl d)
def whileLoop (c : Sm Bool) (body : Sm Fl) : Nat → Sm Fl
  | 0, _, _ => .stuck
  | n + 1, ρ, st => (c ρ st).bind fun ρ1 st1 b => if b then (body ρ1 st1).bind fun ρ2 st2 f => match f with
      | .next => whileLoop c body n ρ2 st2
      | .cont => whileLoop c body n ρ2 st2
      | .brk => .ok ρ2 st2 .next
      | .ret fl d => .ok ρ2 st2 (.ret fl d)
    else .ok ρ1 st1 .next
def asB (r : Out (Bool × D)) : Out Bool := r.bind fun ρ st p => match p.2 with
  | .bl b => .ok ρ st b
  | _ => .stuck
def frz (r : Out (Bool × D)) : Out D := r.bind fun ρ st p => .ok ρ st p.2
def ofOp (ρ : List Slot) (st : List D) : Option (Bool × D) → Out (Bool × D)
  | some p => .ok ρ st p
  | none => .stuck
def ofFR (ρ : List Slot) : FR → Out (Bool × D)
  | .ok st fl d => .ok ρ st (fl, d)
  | .exc e st => .exc e ρ st
  | .stuck => .stuck
mutual
def run : E → Sm (Bool × D)
  | .var i, ρ, st => (getV i ρ st).bind fun ρ st d => .ok ρ st (false, d)
  | .int i, ρ, st => .ok ρ st (false, .int i)
  | .str s, ρ, st => .ok ρ st (false, .str s)
  | .bl b, ρ, st => .ok ρ st (false, .bl b)
  | .non, ρ, st => .ok ρ st (false, .non)
  | .cst d, ρ, st => .ok ρ st (false, d)
  | .op o es, ρ, st => (runO es ρ st).bind fun ρ st os => match rezs ρ st os with
    | some ds => ofOp ρ st (opSem o ds)
    | none => .stuck
  | .meth o r es, ρ, st => (runO r ρ st).bind fun ρ st os => match rezs ρ st os with
    | some ds => if recv o ds then (runO es ρ st).bind fun ρ st os2 => match rezs ρ st (os ++ os2) with
        | some ds => ofOp ρ st (opSem o ds)
        | none => .stuck
      else .stuck
    | none => .stuck
  | .dget r k x, ρ, st => (runO r ρ st).bind fun ρ st os => match rezs ρ st os with
    | some ds => if recv .get2 ds then (runO k ρ st).bind fun ρ st os2 => (run x ρ st).bind fun ρ st p => match rezs ρ st (os ++ os2) with
        | some [d, k] => ofOp ρ st (sv (get2 d k p.2))
        | _ => .stuck
      else .stuck
    | none => .stuck
  | .and_ a b, ρ, st => (asB (run a ρ st)).bind fun ρ st c => if c then run b ρ st else .ok ρ st (false, .bl false)
  | .or_ a b, ρ, st => (asB (run a ρ st)).bind fun ρ st c => if c then .ok ρ st (false, .bl true) else run b ρ st
  | .not_ a, ρ, st => (asB (run a ρ st)).bind fun ρ st c => .ok ρ st (false, .bl (!c))
  | .ite c a b, ρ, st => (asB (run c ρ st)).bind fun ρ st c => if c then run a ρ st else run b ρ st
  | .chain o1 o2 ab c, ρ, st => (runO ab ρ st).bind fun ρ st os => match rezs ρ st os with
    | some ds => match opSem o1 ds with
      | some (_, .bl true) => (runO c ρ st).bind fun ρ st os2 => match rezs ρ st (os.drop 1 ++ os2) with
        | some ds => ofOp ρ st (opSem o2 ds)
        | none => .stuck
      | some (_, .bl false) => .ok ρ st (false, .bl false)
      | _ => .stuck
    | none => .stuck
  | .tup es, ρ, st => (runV es ρ st).bind fun ρ st ds => .ok ρ st (false, .tup ds)
  | .lst es, ρ, st => (runV es ρ st).bind fun ρ st ds => .ok ρ st (true, .lst ds)
  | .dict0, ρ, st => .ok ρ st (true, .dt [] [])
  | .dict ks vs, ρ, st => (runV vs ρ st).bind fun ρ st ds => if ks.length = ds.length ∧ ks.Nodup then .ok ρ st (true, .dk ks ds) else .stuck
  | .call f refs es, ρ, st => (runA refs es ρ st).bind fun ρ st ds => ofFR ρ (f ds st)
  | .comp own k src tg cond elt, ρ, st => (runO src ρ st).bind fun ρ st os => match rezs ρ [] os with
    | some ds => match items k ds with
      | some its => if ownFree ρ own then (compLoop own tg (match cond with
          | none => fun ρ st => .ok ρ st true
          | some c => fun ρ st => asB (run c ρ st)) (fun ρ st => frz (run elt ρ st)) its [] (wipeS (lend (lends ρ os) ρ) own) st).bindX (fun ρ' => unlend (lends ρ os) (backS ρ ρ' own)) fun ρ' st' acc => .ok ρ' st' (true, .lst acc) else .stuck
      | none => .stuck
    | none => .stuck
  | .attr o f, ρ, st => (runO o ρ st).bind fun ρ st os => match rezs ρ st os with
    | some [.obj ns vs] => match get1 ns vs f with
      | some d => .ok ρ st (false, d)
      | none => .stuck
    | _ => .stuck
  | .make f, ρ, st => match f [.cell st.length] (st ++ [.obj [] []]) with
    | .ok st' _ .non => .ok ρ st' (false, .cell st.length)
    | _ => .stuck
  | .mcall f m o refs es, ρ, st => (run o ρ st).bind fun ρ st p => match p.2 with
    | .cell n => match st[n]? with
      | some (.obj ns _) => if ns.contains m then .stuck else (runA refs es ρ st).bind fun ρ st ds => ofFR ρ (f (.cell n :: ds) st)
      | _ => .stuck
    | _ => .stuck
/-- operands: a name is a place -/
def runO : List E → Sm (List (Nat ⊕ D))
  | [], ρ, st => .ok ρ st []
  | .var i :: es, ρ, st => if isUn ρ[i]? then .stuck else (runO es ρ st).bind fun ρ st os => .ok ρ st (.inl i :: os)
  | e :: es, ρ, st => (run e ρ st).bind fun ρ st p => (runO es ρ st).bind fun ρ st os => .ok ρ st (.inr p.2 :: os)
/-- values -/
def runV : List E → Sm (List D)
  | [], ρ, st => .ok ρ st []
  | e :: es, ρ, st => (run e ρ st).bind fun ρ st p => (runV es ρ st).bind fun ρ st ds => .ok ρ st (p.2 :: ds)
/-- arguments: some by reference -/
def runA : List Bool → List E → Sm (List D)
  | _, [], ρ, st => .ok ρ st []
  | true :: rs, .var i :: es, ρ, st => (boxV i ρ st).bind fun ρ st d => (runA rs es ρ st).bind fun ρ st ds => .ok ρ st (d :: ds)
  | r :: rs, e :: es, ρ, st => (run e ρ st).bind fun ρ st p => (runA rs es ρ st).bind fun ρ st ds => .ok ρ st (p.2 :: ds)
  | [], e :: es, ρ, st => (run e ρ st).bind fun ρ st p => (runA [] es ρ st).bind fun ρ st ds => .ok ρ st (p.2 :: ds)
end
theorem runO_cons (e : E) (es : List E) (ρ : List Slot) (st : List D) : runO (e :: es) ρ st = (match e with
    | .var i => if isUn ρ[i]? then .stuck else (runO es ρ st).bind fun ρ st os => .ok ρ st (.inl i :: os)
    | e => (run e ρ st).bind fun ρ st p => (runO es ρ st).bind fun ρ st os => .ok ρ st (.inr p.2 :: os)) := by
  cases e <;> rfl
/-- one operand -/
def runO1 : E → Sm (Nat ⊕ D)
  | .var i, ρ, st => if isUn ρ[i]? then .stuck else .ok ρ st (.inl i)
  | e, ρ, st => (run e ρ st).bind fun ρ st p => .ok ρ st (.inr p.2)
theorem runO_one (e : E) (es : List E) (ρ : List Slot) (st : List D) : runO (e :: es) ρ st = (runO1 e ρ st).bind fun ρ st o => (runO es ρ st).bind fun ρ st os => .ok ρ st (o :: os) := by
  rw [runO_cons]
  cases e with
  | var i =>
    show (if isUn ρ[i]? = true then _ else _) = Out.bind (if isUn ρ[i]? = true then _ else _) _
    split <;> rfl
  | _ =>
    first
      | rfl
      | (show Out.bind _ _ = Out.bind (Out.bind _ _) _
         generalize run _ ρ st = r
         cases r <;> rfl)
/-- what stands at a name is changed -/
def modV (i : Nat) (f : D → Option D) : Sm Unit := fun ρ st => match ρ[i]? with
  | some (.own d) => match f d with
    | some d' => .ok (ρ.set i (.own d')) st ()
    | none => .stuck
  | some (.sh (.cell n)) => match st[n]? with
    | some d => match f d with
      | some d' => .ok ρ (st.set n d') ()
      | none => .stuck
    | none => .stuck
  | _ => .stuck
def mApp (y : D) : D → Option D
  | .lst ds => if ds.length < 16777216 then some (.lst (ds ++ [y])) else none
  | _ => none
def mExt (y : D) : D → Option D
  | .lst ds => match y with
    | .lst es => if ds.length + es.length ≤ 16777216 then some (.lst (ds ++ es)) else none
    | _ => none
  | _ => none
def mIns (k y : D) : D → Option D
  | .lst ds => match k with
    | .int k => if 0 ≤ k ∧ k ≤ ds.length ∧ ds.length < 1000000 then some (.lst (ds.take k.toNat ++ y :: ds.drop k.toNat)) else none
    | _ => none
  | _ => none
def mPop (k : D) : D → Option D
  | .lst ds => match k with
    | .int k => if 0 ≤ k ∧ k < ds.length ∧ ds.length < 1000000 then some (.lst (ds.eraseIdx k.toNat)) else none
    | _ => none
  | _ => none
def mClear : D → Option D
  | .lst _ => some (.lst [])
  | _ => none
def mPut (k y : D) : D → Option D
  | .lst ds => match k with
    | .int k => (ixN ds.length k).map fun j => .lst (ds.set j y)
    | _ => none
  | .dt ks vs => match k with
    | .tup es => match kOfs es with
      | some k => if ks.length < 16777216 then some (.dt (putA ks vs k y).1 (putA ks vs k y).2) else none
      | none => none
    | _ => none
  | _ => none
def mFld (f : Str) (y : D) : D → Option D
  | .obj ns vs => if ns.length < 100 then some (.obj (put1 ns vs f y).1 (put1 ns vs f y).2) else none
  | _ => none
/-- a list stands at a name -/
def lstAt (ρ : List Slot) (st : List D) (i : Nat) : Bool := match rez ρ st (.inl i) with
  | some (.lst _) => true
  | _ => false
def noFl (r : Out Unit) : Out Fl := r.bind fun ρ st _ => .ok ρ st .next
def runRet : E → Sm Fl
  | .var i, ρ, st => match ρ[i]? with
    | some (.sh d) => .ok ρ st (.ret false d)
    | some (.own d) => .ok (ρ.set i .un) st (.ret true d)
    | _ => .stuck
  | e, ρ, st => (run e ρ st).bind fun ρ st p => .ok ρ st (.ret p.1 p.2)
mutual
def runS : S → Sm Fl
  | .expr e, ρ, st => (run e ρ st).bind fun ρ st _ => .ok ρ st .next
  | .set i e, ρ, st => (run e ρ st).bind fun ρ st p => if i < ρ.length then .ok (ρ.set i (if p.1 then .own p.2 else .sh p.2)) st .next else .stuck
  | .asg tg e, ρ, st => (run e ρ st).bind fun ρ st p => match setT tg p.2 ρ with
    | some ρ' => .ok ρ' st .next
    | none => .stuck
  | .append i e, ρ, st => if lstAt ρ st i = false then .stuck else (run e ρ st).bind fun ρ st p => noFl (modV i (mApp p.2) ρ st)
  | .extend i e, ρ, st => if lstAt ρ st i = false then .stuck else (run e ρ st).bind fun ρ st p => noFl (modV i (mExt p.2) ρ st)
  | .insert i a b, ρ, st => if lstAt ρ st i = false then .stuck else (run a ρ st).bind fun ρ st p => (run b ρ st).bind fun ρ st q => noFl (modV i (mIns p.2 q.2) ρ st)
  | .popAt i a, ρ, st => if lstAt ρ st i = false then .stuck else (run a ρ st).bind fun ρ st p => noFl (modV i (mPop p.2) ρ st)
  | .clear i, ρ, st => if lstAt ρ st i = false then .stuck else noFl (modV i mClear ρ st)
  | .setItem i k e, ρ, st => (run e ρ st).bind fun ρ st p => if isUn ρ[i]? then .stuck else (run k ρ st).bind fun ρ st q => noFl (modV i (mPut q.2 p.2) ρ st)
  | .setAttr i f e, ρ, st => (run e ρ st).bind fun ρ st p => noFl (modV i (mFld f p.2) ρ st)
  | .ifs c a b, ρ, st => (asB (run c ρ st)).bind fun ρ st c => if c then runB a ρ st else runB b ρ st
  | .for_ k src tg body, ρ, st => (runO src ρ st).bind fun ρ st os => match rezs ρ [] os with
    | some ds => match items k ds with
      | some its => (forLoop tg (fun ρ st => runB body ρ st) its (lend (lends ρ os) ρ) st).bindX (unlend (lends ρ os)) fun ρ' st' f => .ok ρ' st' f
      | none => .stuck
    | none => .stuck
  | .while_ n c body, ρ, st => whileLoop (fun ρ st => asB (run c ρ st)) (fun ρ st => runB body ρ st) n ρ st
  | .ret e, ρ, st => runRet e ρ st
  | .retN, ρ, st => .ok ρ st (.ret false .non)
  | .raise x, ρ, st => .exc x ρ st
  | .try_ body x e suite, ρ, st => match runB body ρ st with
    | .exc y ρ' st' => if exUnder y x then (if e < ρ'.length then (match runB suite (ρ'.set e (.sh (.exn y))) st' with
        | .ok ρ st f => .ok (ρ.set e .un) st f
        | _ => .stuck) else .stuck) else .exc y ρ' st'
    | .ok ρ st f => .ok ρ st f
    | .stuck => .stuck
  | .brk, ρ, st => .ok ρ st .brk
  | .cont, ρ, st => .ok ρ st .cont
  | .pass, ρ, st => .ok ρ st .next
def runB : List S → Sm Fl
  | [], ρ, st => .ok ρ st .next
  | s :: ss, ρ, st => (runS s ρ st).bind fun ρ st f => match f with
    | .next => runB ss ρ st
    | .ret fl d => .ok ρ st (.ret fl d)
    | .brk => .ok ρ st .brk
    | .cont => .ok ρ st .cont
end
/-- a def: so many slots, its body -/
def fnOf (n : Nat) (body : List S) : Fn := fun args st => match runB body (args.map .sh ++ List.replicate (n - args.length) .un) st with
  | .ok _ st (.ret fl d) => .ok st fl d
  | .ok _ st .next => .ok st false .non
  | .exc e _ st => .exc e st
  | _ => .stuck
end PD

set_option Elab.async false
set_option linter.all false
set_option maxRecDepth 100000
/-! PD1: how data stand in the heap, states, steps. -/
namespace PD
open PySem PySem.Spec PyProof.Rows L2

/-- addresses of the classes -/
structure Nm where
  ex : Ex → Addr
  desk : Addr

/-- an exception object of the class cls at a, kept -/
def exO (cls a : Addr) : HO := .ext fun h => ∃ (oe : Obj) (vs : Array Value), h.get? a = some oe ∧ Zc (.ref cls) none oe ∧ oe.data = .fields vs

/-- the frozen part, the addresses of the cells -/
structure Wd where
  F : Hp
  φ : List Addr

mutual
inductive Rep (N : Nm) (K : PySem.W.Frag) (φ : List Addr) (F : Hp) : D → V → Prop
  | non : Rep N K φ F .non .non
  | bl (b : Bool) : Rep N K φ F (.bl b) (.bl b)
  | int (i : Int) : Rep N K φ F (.int i) (.int i)
  | str (s : Str) : Rep N K φ F (.str s) (.str s)
  | tup {a : Addr} {xs : List V} {ds : List D} : F a = some (.tup xs) → xs.length ≤ sizeLine → Reps N K φ F ds xs → Rep N K φ F (.tup ds) (.ref a)
  | ctup {a : Addr} {xs : List V} {ds : List D} : SqT K F a xs → xs.length ≤ sizeLine → Reps N K φ F ds xs → Rep N K φ F (.ctup ds) (.ref a)
  | lst {a : Addr} {xs : List V} {ds : List D} : F a = some (.lst xs) → xs.length ≤ sizeLine → Reps N K φ F ds xs → Rep N K φ F (.lst ds) (.ref a)
  | scr {a : Addr} {ns : List Int} : SqL K F a (ns.map V.int) → Rep N K φ F (.scr ns) (.ref a)
  | dt {a : Addr} {kvs : List (List Key × V)} {vs : List D} : F a = some (.dT kvs) → kvs.length ≤ sizeLine → Reps N K φ F vs (kvs.map (·.2)) → Rep N K φ F (.dt (kvs.map (·.1)) vs) (.ref a)
  | dk {a : Addr} {ks : List Str} {kvs : List (Key × V)} {vs : List D} : F a = some (.dK kvs) → kvs.map (·.1) = ks.map Sum.inr → kvs.length ≤ sizeLine → Reps N K φ F vs (kvs.map (·.2)) → Rep N K φ F (.dk ks vs) (.ref a)
  | exn {e : Ex} {a : Addr} : F a = some (exO (N.ex e) a) → Rep N K φ F (.exn e) (.ref a)
  | cell {n : Nat} {a : Addr} : φ[n]? = some a → Rep N K φ F (.cell n) (.ref a)
inductive Reps (N : Nm) (K : PySem.W.Frag) (φ : List Addr) (F : Hp) : List D → List V → Prop
  | nil : Reps N K φ F [] []
  | cons {d : D} {ds : List D} {v : V} {vs : List V} : Rep N K φ F d v → Reps N K φ F ds vs → Reps N K φ F (d :: ds) (v :: vs)
end

/-- H' has what H has -/
abbrev Le (H H' : Hp) : Prop := ∀ a o, H a = some o → H' a = some o
/-- more cells -/
abbrev Ph (φ φ' : List Addr) : Prop := ∃ m, φ' = φ ++ m

theorem SqT.le {K : PySem.W.Frag} {H H' : Hp} {a : Addr} {xs : List V} (e : Le H H') (h : SqT K H a xs) : SqT K H' a xs := by
  rcases h with (h | ⟨o, h⟩) | h
  · exact .inl (.inl (e _ _ h))
  · exact .inl (.inr ⟨o, e _ _ h⟩)
  · exact .inr h
theorem SqL.le {K : PySem.W.Frag} {H H' : Hp} {a : Addr} {xs : List V} (e : Le H H') (h : SqL K H a xs) : SqL K H' a xs := by
  rcases h with (h | ⟨o, h⟩) | h
  · exact .inl (.inl (e _ _ h))
  · exact .inl (.inr ⟨o, e _ _ h⟩)
  · exact .inr h
section
variable {N : Nm} {K : PySem.W.Frag} {φ φ' : List Addr} {F F' : Hp}
mutual
theorem Rep.le (e : Le F F') (p : Ph φ φ') : ∀ (d : D) (v : V), Rep N K φ F d v → Rep N K φ' F' d v
  | .non, _, h => by cases h; exact .non
  | .bl b, _, h => by cases h; exact .bl b
  | .int b, _, h => by cases h; exact .int b
  | .str b, _, h => by cases h; exact .str b
  | .tup ds, _, h => by cases h with | tup h1 h2 h3 => exact .tup (e _ _ h1) h2 (Reps.le e p ds _ h3)
  | .ctup ds, _, h => by cases h with | ctup h1 h2 h3 => exact .ctup (SqT.le e h1) h2 (Reps.le e p ds _ h3)
  | .lst ds, _, h => by cases h with | lst h1 h2 h3 => exact .lst (e _ _ h1) h2 (Reps.le e p ds _ h3)
  | .scr ns, _, h => by cases h with | scr h1 => exact .scr (SqL.le e h1)
  | .dt ks vs, _, h => by cases h with | dt h1 h2 h3 => exact .dt (e _ _ h1) h2 (Reps.le e p vs _ h3)
  | .dk ks vs, _, h => by cases h with | dk h1 h2 h3 h4 => exact .dk (e _ _ h1) h2 h3 (Reps.le e p vs _ h4)
  | .exn c, _, h => by cases h with | exn h1 => exact .exn (e _ _ h1)
  | .cell n, _, h => by
    cases h with
    | cell h1 =>
      obtain ⟨m, rfl⟩ := p
      exact .cell (by rw [List.getElem?_append_left (List.getElem?_eq_some_iff.mp h1).1]; exact h1)
  | .cdk _ _, _, h => by cases h
  | .obj _ _, _, h => by cases h
theorem Reps.le (e : Le F F') (p : Ph φ φ') : ∀ (ds : List D) (vs : List V), Reps N K φ F ds vs → Reps N K φ' F' ds vs
  | [], _, h => by cases h; exact .nil
  | d :: ds, _, h => by cases h with | cons h1 h2 => exact .cons (Rep.le e p d _ h1) (Reps.le e p ds _ h2)
end
theorem Reps.length : ∀ {ds : List D} {vs : List V}, Reps N K φ F ds vs → ds.length = vs.length
  | [], _, h => by cases h; rfl
  | _ :: _, _, h => by cases h with | cons _ h2 => rw [List.length_cons, List.length_cons, Reps.length h2]
theorem Reps.get : ∀ {ds : List D} {vs : List V} {i : Nat} {d : D}, Reps N K φ F ds vs → ds[i]? = some d → ∃ v, vs[i]? = some v ∧ Rep N K φ F d v
  | [], _, _, _, h, e => by simp at e
  | d :: ds, _, 0, _, h, e => by
    cases h with | cons h1 h2 =>
      simp at e; subst e; exact ⟨_, by simp, h1⟩
  | d :: ds, _, i + 1, _, h, e => by
    cases h with | cons h1 h2 =>
      obtain ⟨v, e1, r⟩ := Reps.get h2 (i := i) (by simpa using e)
      exact ⟨v, by simpa using e1, r⟩
theorem Reps.append : ∀ {ds es : List D} {vs us : List V}, Reps N K φ F ds vs → Reps N K φ F es us → Reps N K φ F (ds ++ es) (vs ++ us)
  | [], _, _, _, h, g => by cases h; exact g
  | _ :: _, _, _, _, h, g => by cases h with | cons h1 h2 => exact .cons h1 (Reps.append h2 g)
theorem Reps.take : ∀ {ds : List D} {vs : List V} (n : Nat), Reps N K φ F ds vs → Reps N K φ F (ds.take n) (vs.take n)
  | _, _, 0, h => .nil
  | [], _, n + 1, h => by cases h; exact .nil
  | _ :: _, _, n + 1, h => by cases h with | cons h1 h2 => exact .cons h1 (Reps.take n h2)
theorem Reps.drop : ∀ {ds : List D} {vs : List V} (n : Nat), Reps N K φ F ds vs → Reps N K φ F (ds.drop n) (vs.drop n)
  | _, _, 0, h => h
  | [], _, n + 1, h => by cases h; exact .nil
  | _ :: _, _, n + 1, h => by cases h with | cons h1 h2 => exact Reps.drop n h2
theorem Reps.set : ∀ {ds : List D} {vs : List V} (n : Nat) {d : D} {v : V}, Rep N K φ F d v → Reps N K φ F ds vs → Reps N K φ F (ds.set n d) (vs.set n v)
  | [], _, n, _, _, _, h => by cases h; exact .nil
  | _ :: _, _, 0, _, _, r, h => by cases h with | cons h1 h2 => exact .cons r h2
  | _ :: _, _, n + 1, _, _, r, h => by cases h with | cons h1 h2 => exact .cons h1 (Reps.set n r h2)
theorem Reps.erase : ∀ {ds : List D} {vs : List V} (n : Nat), Reps N K φ F ds vs → Reps N K φ F (ds.eraseIdx n) (vs.eraseIdx n)
  | [], _, n, h => by cases h; exact .nil
  | _ :: _, _, 0, h => by cases h with | cons h1 h2 => exact h2
  | _ :: _, _, n + 1, h => by cases h with | cons h1 h2 => exact .cons h1 (Reps.erase n h2)
theorem Reps.flat {ds : List D} {vs : List V} (h : Reps N K φ F ds vs) : ∀ n : Nat, Reps N K φ F (List.replicate n ds).flatten (List.replicate n vs).flatten
  | 0 => .nil
  | n + 1 => by
    rw [List.replicate_succ, List.replicate_succ, List.flatten_cons, List.flatten_cons]
    exact h.append (Reps.flat h n)
theorem reps_ints : ∀ ns : List Int, Reps N K φ F (ns.map D.int) (ns.map V.int)
  | [] => .nil
  | _ :: r => .cons (.int _) (reps_ints r)
theorem reps_intsD : ∀ {ds : List D} {vs : List V} {ns : List Int}, Reps N K φ F ds vs → intsD ds = some ns → vs = ns.map V.int
  | [], _, _, h, e => by cases h; cases e; rfl
  | d :: ds, _, ns, h, e => by
    cases h with
    | cons h1 h2 =>
      cases d with
      | int i =>
        unfold intsD at e
        cases q : intsD ds with
        | none => rw [q] at e; cases e
        | some r =>
          rw [q] at e
          cases e
          cases h1
          rw [reps_intsD h2 q]; rfl
      | _ => cases e
theorem reps_blsD : ∀ {ds : List D} {vs : List V} {ns : List Bool}, Reps N K φ F ds vs → blsD ds = some ns → vs = ns.map V.bl
  | [], _, _, h, e => by cases h; cases e; rfl
  | d :: ds, _, ns, h, e => by
    cases h with
    | cons h1 h2 =>
      cases d with
      | bl i =>
        unfold blsD at e
        cases q : blsD ds with
        | none => rw [q] at e; cases e
        | some r =>
          rw [q] at e
          cases e
          cases h1
          rw [reps_blsD h2 q]; rfl
      | _ => cases e
theorem reps_strsD : ∀ {ds : List D} {vs : List V} {ns : List Str}, Reps N K φ F ds vs → strsD ds = some ns → vs = ns.map V.str
  | [], _, _, h, e => by cases h; cases e; rfl
  | d :: ds, _, ns, h, e => by
    cases h with
    | cons h1 h2 =>
      cases d with
      | str i =>
        unfold strsD at e
        cases q : strsD ds with
        | none => rw [q] at e; cases e
        | some r =>
          rw [q] at e
          cases e
          cases h1
          rw [reps_strsD h2 q]; rfl
      | _ => cases e
theorem reps_strs : ∀ xs : List Str, Reps N K φ F (xs.map D.str) (xs.map V.str)
  | [] => .nil
  | _ :: r => .cons (.str _) (reps_strs r)
end

/-- a thing of one's own at p -/
def ORep (N : Nm) (K : PySem.W.Frag) (φ : List Addr) (F H : Hp) (d : D) (p : Addr) : Prop := match d with
  | .lst ds => ∃ xs, H p = some (.lst xs) ∧ xs.length ≤ sizeLine ∧ Reps N K φ F ds xs
  | .dt ks vs => ∃ kvs : List (List Key × V), H p = some (.dT kvs) ∧ kvs.map (·.1) = ks ∧ kvs.length ≤ sizeLine ∧ Reps N K φ F vs (kvs.map (·.2))
  | .dk ks vs => ∃ kvs : List (Key × V), H p = some (.dK kvs) ∧ kvs.map (·.1) = ks.map Sum.inr ∧ kvs.length ≤ sizeLine ∧ Reps N K φ F vs (kvs.map (·.2))
  | .obj ns vs => ∃ dx fs, H p = some (.ins N.desk dx fs) ∧ fs.map (·.1) = ns ∧ Reps N K φ F vs (fs.map (·.2))
  | _ => False
/-- one's own things are addresses held by name -/
def OwnA (φ : List Addr) (ρ : List Slot) (σ : L2.St) (p : Addr) : Prop := p ∈ φ ∨ ∃ (i : Nat) (d : D), ρ[i]? = some (Slot.own d) ∧ σ[i]? = some (some (V.ref p))

def SlotOk (N : Nm) (K : PySem.W.Frag) (Ω : Wd) (H : Hp) (s : Slot) (v : Option (Option V)) : Prop := match s with
  | .un => True
  | .sh d => ∃ x, v = some (some x) ∧ Rep N K Ω.φ Ω.F d x
  | .own d => frzOk d = true ∧ ∃ p, v = some (some (.ref p)) ∧ ORep N K Ω.φ Ω.F H d p ∧ Ω.F p = none ∧ p ∉ Ω.φ
  | .lent d => frzOk d = true ∧ ∃ p, v = some (some (.ref p)) ∧ ORep N K Ω.φ Ω.F H d p ∧ Ω.F p = none ∧ p ∉ Ω.φ
def held : Slot → Bool
  | .own _ => true
  | .lent _ => true
  | _ => false
structure StR (N : Nm) (K : PySem.W.Frag) (Ω : Wd) (ρ : List Slot) (st : List D) (σ : L2.St) (H : Hp) : Prop where
  len : ρ.length = σ.length
  sub : Le Ω.F H
  slot : ∀ (i : Nat) (s : Slot), ρ[i]? = some s → SlotOk N K Ω H s (σ[i]?)
  dist : ∀ (i j : Nat) (s t : Slot) (p : Addr), ρ[i]? = some s → ρ[j]? = some t → held s = true → held t = true → σ[i]? = some (some (.ref p)) → σ[j]? = some (some (.ref p)) → i = j
  stl : st.length = Ω.φ.length
  sto : ∀ (n : Nat) (p : Addr) (c : D), Ω.φ[n]? = some p → st[n]? = some c → ORep N K Ω.φ Ω.F H c p
  phF : ∀ p ∈ Ω.φ, Ω.F p = none
  nd : Ω.φ.Nodup
structure Step (Ω : Wd) (ρ : List Slot) (σ : L2.St) (H : Hp) (Ω' : Wd) (ρ' : List Slot) (σ' : L2.St) (H' : Hp) : Prop where
  fm : Le Ω.F Ω'.F
  pm : Ph Ω.φ Ω'.φ
  new : ∀ a, Ω'.F a ≠ none → Ω.F a ≠ none ∨ H a = none ∨ OwnA Ω.φ ρ σ a
  own : ∀ p, OwnA Ω'.φ ρ' σ' p → OwnA Ω.φ ρ σ p ∨ H p = none
  keep : ∀ a o, H a = some o → ¬ OwnA Ω.φ ρ σ a → H' a = some o
  dom : ∀ a, H' a = none → H a = none
  ln : ∀ (i : Nat) (d : D), ρ'[i]? = some (Slot.lent d) → ρ[i]? = some (Slot.lent d) ∧ σ'[i]? = σ[i]?
theorem lent_set {ρ : List Slot} {i j : Nat} {s : Slot} {d : D} (h : (ρ.set i s)[j]? = some (.lent d)) (hs : ∀ d, s ≠ .lent d) : j ≠ i ∧ ρ[j]? = some (.lent d) := by
  by_cases e : j = i
  · subst e
    by_cases hl : j < ρ.length
    · rw [List.getElem?_set_self hl] at h
      exact absurd (Option.some.inj h) (hs d)
    · rw [List.getElem?_eq_none (by simpa using hl)] at h; cases h
  · rw [List.getElem?_set_ne (Ne.symm e)] at h
    exact ⟨e, h⟩
theorem Ph.refl (φ : List Addr) : Ph φ φ := ⟨[], by simp⟩
theorem Ph.trans {a b c : List Addr} (h : Ph a b) (g : Ph b c) : Ph a c := by
  obtain ⟨m, rfl⟩ := h
  obtain ⟨n, rfl⟩ := g
  exact ⟨m ++ n, by simp⟩
theorem Step.refl (Ω : Wd) (ρ : List Slot) (σ : L2.St) (H : Hp) : Step Ω ρ σ H Ω ρ σ H := ⟨fun _ _ h => h, Ph.refl _, fun _ h => .inl h, fun _ h => .inl h, fun _ _ h _ => h, fun _ h => h, fun _ _ h => ⟨h, rfl⟩⟩
theorem Step.trans {Ω Ω1 Ω2 : Wd} {ρ ρ1 ρ2 : List Slot} {σ σ1 σ2 : L2.St} {H H1 H2 : Hp} (a : Step Ω ρ σ H Ω1 ρ1 σ1 H1) (b : Step Ω1 ρ1 σ1 H1 Ω2 ρ2 σ2 H2) : Step Ω ρ σ H Ω2 ρ2 σ2 H2 := by
  have back : ∀ x, H1 x = none → H x = none ∨ OwnA Ω.φ ρ σ x := fun x h => by
    by_cases q : OwnA Ω.φ ρ σ x
    · exact .inr q
    · cases e : H x with
      | none => exact .inl rfl
      | some o => rw [a.keep x o e q] at h; cases h
  refine ⟨fun x o h => b.fm x o (a.fm x o h), a.pm.trans b.pm, fun x h => ?_, fun p h => ?_, fun x o h q => ?_, fun x h => a.dom x (b.dom x h), fun i d h => ⟨(a.ln i d (b.ln i d h).1).1, (b.ln i d h).2.trans (a.ln i d (b.ln i d h).1).2⟩⟩
  · rcases b.new x h with h | h | h
    · exact a.new x h
    · exact .inr (back x h)
    · rcases a.own x h with h | h
      · exact .inr (.inr h)
      · exact .inr (.inl h)
  · rcases b.own p h with h | h
    · exact a.own p h
    · exact (back p h).symm
  · refine b.keep x o (a.keep x o h q) fun z => ?_
    rcases a.own x z with z | z
    · exact q z
    · rw [z] at h; cases h
end PD

set_option Elab.async false
set_option linter.all false
set_option maxRecDepth 100000
/-! PD2: readings, what an operation may do, freezing, boxing; the judgements XE, XO. -/
namespace PD
open PySem PySem.Spec L2

section
variable {N : Nm} {K : PySem.W.Frag} {φ φ' : List Addr} {F F' H H' : Hp}
theorem ORep.le {d : D} {p : Addr} (h : ORep N K φ F H d p) (e : Le F F') (m : Ph φ φ') (k : ∀ o, H p = some o → H' p = some o) : ORep N K φ' F' H' d p := by
  cases d <;> try exact h.elim
  all_goals (unfold ORep at h ⊢)
  · obtain ⟨xs, h1, h2, h3⟩ := h; exact ⟨xs, k _ h1, h2, h3.le e m⟩
  · obtain ⟨xs, h1, h2, h3, h4⟩ := h; exact ⟨xs, k _ h1, h2, h3, h4.le e m⟩
  · obtain ⟨xs, h1, h2, h3, h4⟩ := h; exact ⟨xs, k _ h1, h2, h3, h4.le e m⟩
  · obtain ⟨dx, fs, h1, h2, h3⟩ := h; exact ⟨dx, fs, k _ h1, h2, h3.le e m⟩
theorem ORep.some {d : D} {p : Addr} (h : ORep N K φ F H d p) : ∃ o, H p = some o := by
  cases d <;> try exact h.elim
  all_goals (unfold ORep at h)
  · obtain ⟨xs, h1, _⟩ := h; exact ⟨_, h1⟩
  · obtain ⟨xs, h1, _⟩ := h; exact ⟨_, h1⟩
  · obtain ⟨xs, h1, _⟩ := h; exact ⟨_, h1⟩
  · obtain ⟨dx, fs, h1, _⟩ := h; exact ⟨_, h1⟩
/-- what may be read of an operand -/
def PRep (N : Nm) (K : PySem.W.Frag) (φ : List Addr) (F H : Hp) (d : D) (v : V) : Prop := Rep N K φ F d v ∨ ∃ p, v = .ref p ∧ ORep N K φ F H d p
def PReps (N : Nm) (K : PySem.W.Frag) (φ : List Addr) (F H : Hp) : List D → List V → Prop
  | [], [] => True
  | d :: ds, v :: vs => PRep N K φ F H d v ∧ PReps N K φ F H ds vs
  | _, _ => False
theorem PRep.int {i : Int} {v : V} (h : PRep N K φ F H (.int i) v) : v = .int i := by
  rcases h with h | ⟨p, _, h⟩
  · cases h; rfl
  · exact h.elim
theorem PRep.bl {i : Bool} {v : V} (h : PRep N K φ F H (.bl i) v) : v = .bl i := by
  rcases h with h | ⟨p, _, h⟩
  · cases h; rfl
  · exact h.elim
theorem PRep.str {i : Str} {v : V} (h : PRep N K φ F H (.str i) v) : v = .str i := by
  rcases h with h | ⟨p, _, h⟩
  · cases h; rfl
  · exact h.elim
theorem PRep.non {v : V} (h : PRep N K φ F H .non v) : v = .non := by
  rcases h with h | ⟨p, _, h⟩
  · cases h; rfl
  · exact h.elim
theorem PRep.lst {ds : List D} {v : V} (h : PRep N K φ F H (.lst ds) v) (e : Le F H) : ∃ a xs, v = .ref a ∧ H a = some (.lst xs) ∧ xs.length ≤ sizeLine ∧ Reps N K φ F ds xs := by
  rcases h with h | ⟨p, e1, h⟩
  · cases h with | lst h1 h2 h3 => exact ⟨_, _, rfl, e _ _ h1, h2, h3⟩
  · obtain ⟨xs, h1, h2, h3⟩ := h; exact ⟨p, xs, e1, h1, h2, h3⟩
theorem PRep.tup {ds : List D} {v : V} (h : PRep N K φ F H (.tup ds) v) (e : Le F H) : ∃ a xs, v = .ref a ∧ F a = some (.tup xs) ∧ xs.length ≤ sizeLine ∧ Reps N K φ F ds xs := by
  rcases h with h | ⟨p, e1, h⟩
  · cases h with | tup h1 h2 h3 => exact ⟨_, _, rfl, h1, h2, h3⟩
  · exact h.elim
theorem PRep.ctup {ds : List D} {v : V} (h : PRep N K φ F H (.ctup ds) v) (e : Le F H) : ∃ a xs, v = .ref a ∧ SqT K F a xs ∧ xs.length ≤ sizeLine ∧ Reps N K φ F ds xs := by
  rcases h with h | ⟨p, e1, h⟩
  · cases h with | ctup h1 h2 h3 => exact ⟨_, _, rfl, h1, h2, h3⟩
  · exact h.elim
theorem PRep.scr {ns : List Int} {v : V} (h : PRep N K φ F H (.scr ns) v) (e : Le F H) : ∃ a, v = .ref a ∧ SqL K H a (ns.map V.int) := by
  rcases h with h | ⟨p, e1, h⟩
  · cases h with | scr h1 => exact ⟨_, rfl, SqL.le e h1⟩
  · exact h.elim
theorem PRep.dt {ks : List (List Key)} {vs : List D} {v : V} (h : PRep N K φ F H (.dt ks vs) v) (e : Le F H) : ∃ a kvs, v = .ref a ∧ H a = some (.dT kvs) ∧ kvs.map (·.1) = ks ∧ kvs.length ≤ sizeLine ∧ Reps N K φ F vs (kvs.map (·.2)) := by
  rcases h with h | ⟨p, e1, h⟩
  · cases h with | dt h1 h2 h3 => exact ⟨_, _, rfl, e _ _ h1, rfl, h2, h3⟩
  · obtain ⟨kvs, h1, h2, h3, h4⟩ := h; exact ⟨p, kvs, e1, h1, h2, h3, h4⟩
theorem PRep.dk {ks : List Str} {vs : List D} {v : V} (h : PRep N K φ F H (.dk ks vs) v) (e : Le F H) : ∃ a kvs, v = .ref a ∧ H a = some (.dK kvs) ∧ kvs.map (·.1) = ks.map Sum.inr ∧ kvs.length ≤ sizeLine ∧ Reps N K φ F vs (kvs.map (·.2)) := by
  rcases h with h | ⟨p, e1, h⟩
  · cases h with | dk h1 h2 h3 h4 => exact ⟨_, _, rfl, e _ _ h1, h2, h3, h4⟩
  · obtain ⟨kvs, h1, h2, h3, h4⟩ := h; exact ⟨p, kvs, e1, h1, h2, h3, h4⟩
theorem PReps.of {ds : List D} {vs : List V} (h : Reps N K φ F ds vs) : PReps N K φ F H ds vs := by
  induction ds generalizing vs with
  | nil => cases h; trivial
  | cons d ds ih => cases h with | cons h1 h2 => exact ⟨.inl h1, ih h2⟩

/-- what an operation may do: what stands stays; the result frozen, or a new thing -/
structure OpRes (N : Nm) (K : PySem.W.Frag) (φ : List Addr) (F H F' H' : Hp) (fl : Bool) (d : D) (v : V) : Prop where
  hh : Le H H'
  ff : Le F F'
  sub : Le F' H'
  new : ∀ a, F' a ≠ none → F a ≠ none ∨ H a = none
  res : (fl = false ∧ Rep N K φ F' d v) ∨ (fl = true ∧ frzOk d = true ∧ ∃ p, v = .ref p ∧ H p = none ∧ F' p = none ∧ ORep N K φ F' H' d p)
theorem OpRes.val {d : D} {v : V} (s : Le F H) (r : Rep N K φ F d v) : OpRes N K φ F H F H false d v := ⟨fun _ _ h => h, fun _ _ h => h, s, fun _ h => .inl h, .inl ⟨rfl, r⟩⟩
theorem le_upd {H : Hp} {p : Addr} {o : HO} (n : H p = none) : Le H (upd H p o) := fun a x h => by rw [upd_ne (ne_of_none h n)]; exact h
/-- a new thing of one's own -/
theorem OpRes.new1 {d : D} {p : Addr} {o : HO} (s : Le F H) (n : H p = none) (k : frzOk d = true) (r : ORep N K φ F (upd H p o) d p) : OpRes N K φ F H F (upd H p o) true d (.ref p) := by
  have nF : F p = none := by
    cases e : F p with
    | none => rfl
    | some u => rw [s _ _ e] at n; cases n
  exact ⟨le_upd n, fun _ _ h => h, fun a x h => le_upd n _ _ (s _ _ h), fun _ h => .inl h, .inr ⟨rfl, k, p, rfl, n, nF, r⟩⟩
/-- a new tuple -/
theorem OpRes.newT {ds : List D} {p : Addr} {xs : List V} (s : Le F H) (n : H p = none) (l : xs.length ≤ sizeLine) (r : Reps N K φ F ds xs) : OpRes N K φ F H (upd F p (.tup xs)) (upd H p (.tup xs)) false (.tup ds) (.ref p) := by
  have nF : F p = none := by
    cases e : F p with
    | none => rfl
    | some u => rw [s _ _ e] at n; cases n
  refine ⟨le_upd n, le_upd nF, fun a x h => ?_, fun a h => ?_, .inl ⟨rfl, .tup upd_same l (r.le (le_upd nF) (Ph.refl _))⟩⟩
  · by_cases e : a = p
    · subst e; rw [upd_same] at h ⊢; exact h
    · rw [upd_ne e] at h ⊢; exact s _ _ h
  · by_cases e : a = p
    · subst e; exact .inr n
    · rw [upd_ne e] at h; exact .inl h
end

/-- addresses that the state holds -/
def HeldA (φ : List Addr) (ρ : List Slot) (σ : L2.St) (p : Addr) : Prop := p ∈ φ ∨ ∃ (i : Nat) (s : Slot), ρ[i]? = some s ∧ held s = true ∧ σ[i]? = some (some (V.ref p))
section
variable {N : Nm} {K : PySem.W.Frag} {Ω Ω' : Wd} {ρ ρ' : List Slot} {st st' : List D} {σ σ' : L2.St} {F' H H' H0 : Hp}
theorem OwnA.held {φ : List Addr} {p : Addr} (h : OwnA φ ρ σ p) : HeldA φ ρ σ p := by
  rcases h with h | ⟨i, d, h1, h2⟩
  · exact .inl h
  · exact .inr ⟨i, _, h1, rfl, h2⟩
theorem StR.heldF (S : StR N K Ω ρ st σ H) {p : Addr} (h : HeldA Ω.φ ρ σ p) : Ω.F p = none ∧ ∃ o, H p = some o := by
  rcases h with h | ⟨i, s, h1, h2, h3⟩
  · refine ⟨S.phF p h, ?_⟩
    obtain ⟨n, hn, e⟩ := List.getElem_of_mem h
    have hn' : n < st.length := by rw [S.stl]; exact hn
    have e' : Ω.φ[n]? = some p := by rw [List.getElem?_eq_getElem hn, e]
    exact (S.sto n p st[n] e' (List.getElem?_eq_getElem hn')).some
  · have q := S.slot i s h1
    cases s with
    | un => cases h2
    | sh d => cases h2
    | own d =>
      obtain ⟨_, p', e, r, f, _⟩ := q
      rw [h3] at e; cases e
      exact ⟨f, r.some⟩
    | lent d =>
      obtain ⟨_, p', e, r, f, _⟩ := q
      rw [h3] at e; cases e
      exact ⟨f, r.some⟩
/-- a result: a value (frozen), or a new thing that nobody holds -/
def ResR (N : Nm) (K : PySem.W.Frag) (Ω : Wd) (ρ : List Slot) (σ : L2.St) (H0 H : Hp) (fl : Bool) (d : D) (v : V) : Prop :=
  (fl = false ∧ Rep N K Ω.φ Ω.F d v) ∨ (fl = true ∧ frzOk d = true ∧ ∃ p, v = .ref p ∧ H0 p = none ∧ Ω.F p = none ∧ ¬ HeldA Ω.φ ρ σ p ∧ ORep N K Ω.φ Ω.F H d p)
theorem StR.opres {fl : Bool} {d : D} {v : V} (S : StR N K Ω ρ st σ H) (r : OpRes N K Ω.φ Ω.F H F' H' fl d v) :
    StR N K ⟨F', Ω.φ⟩ ρ st σ H' ∧ Step Ω ρ σ H ⟨F', Ω.φ⟩ ρ σ H' ∧ ResR N K ⟨F', Ω.φ⟩ ρ σ H H' fl d v := by
  have nF : ∀ {p : Addr}, HeldA Ω.φ ρ σ p → F' p = none := fun {p} h => by
    obtain ⟨h1, o, h2⟩ := S.heldF h
    cases e : F' p with
    | none => rfl
    | some u =>
      rcases r.new p (by rw [e]; exact fun z => nomatch z) with z | z
      · exact absurd h1 z
      · rw [h2] at z; cases z
  refine ⟨⟨S.len, r.sub, fun i s h => ?_, S.dist, S.stl, fun n p c h1 h2 => (S.sto n p c h1 h2).le r.ff (Ph.refl _) (fun o e => r.hh _ _ e), fun p h => nF (.inl h), S.nd⟩, ⟨r.ff, Ph.refl _, fun a h => ?_, fun p h => .inl h, fun a o h _ => r.hh a o h, fun a h => ?_, fun _ _ h => ⟨h, rfl⟩⟩, ?_⟩
  · have q := S.slot i s h
    cases s with
    | un => trivial
    | sh d => obtain ⟨x, e, q⟩ := q; exact ⟨x, e, q.le r.ff (Ph.refl _)⟩
    | own d =>
      obtain ⟨k, p, e, q, f, g⟩ := q
      exact ⟨k, p, e, q.le r.ff (Ph.refl _) (fun o z => r.hh _ _ z), nF (.inr ⟨i, _, h, rfl, e⟩), g⟩
    | lent d =>
      obtain ⟨k, p, e, q, f, g⟩ := q
      exact ⟨k, p, e, q.le r.ff (Ph.refl _) (fun o z => r.hh _ _ z), nF (.inr ⟨i, _, h, rfl, e⟩), g⟩
  · rcases r.new a h with z | z
    · exact .inl z
    · exact .inr (.inl z)
  · cases e : H a with
    | none => rfl
    | some o => rw [r.hh a o e] at h; cases h
  · rcases r.res with ⟨e, q⟩ | ⟨e, k, p, e2, n, f, q⟩
    · exact .inl ⟨e, q⟩
    · refine .inr ⟨e, k, p, e2, n, f, fun z => ?_, q⟩
      obtain ⟨_, o, h2⟩ := S.heldF z
      rw [n] at h2; cases h2
/-- the frozen part with what stands at p -/
def addF (F H : Hp) (p : Addr) : Hp := fun a => if a = p then H p else F a
theorem addF_le {F : Hp} {p : Addr} (n : F p = none) : Le F (addF F H p) := fun a o h => by
  unfold addF
  rw [if_neg (ne_of_none h n)]
  exact h
theorem addF_sub {F : Hp} {p : Addr} (s : Le F H) : Le (addF F H p) H := fun a o h => by
  unfold addF at h
  split at h
  · rename_i e; rw [e]; exact h
  · exact s _ _ h
theorem addF_none {F : Hp} {p a : Addr} (e : a ≠ p) : addF F H p a = F a := if_neg e
/-- a thing of one's own is frozen -/
theorem ORep.frz {d : D} {p : Addr} {φ : List Addr} {F : Hp} (k : frzOk d = true) (h : ORep N K φ F H d p) (n : F p = none) : Rep N K φ (addF F H p) d (.ref p) := by
  have l : Le F (addF F H p) := addF_le n
  have e : addF F H p p = H p := if_pos rfl
  cases d <;> try (cases k; done)
  · obtain ⟨xs, h1, h2, h3⟩ := h; exact .lst (e.trans h1) h2 (h3.le l (Ph.refl _))
  · obtain ⟨kvs, h1, h2, h3, h4⟩ := h; exact .dk (e.trans h1) h2 h3 (h4.le l (Ph.refl _))
  · obtain ⟨kvs, h1, h2, h3, h4⟩ := h
    subst h2
    exact .dt (e.trans h1) h3 (h4.le l (Ph.refl _))
/-- the frozen part grows by p, that nobody holds -/
theorem StR.addF {p : Addr} (S : StR N K Ω ρ st σ H) (nF : Ω.F p = none) (nh : ¬ HeldA Ω.φ ρ σ p) : StR N K ⟨addF Ω.F H p, Ω.φ⟩ ρ st σ H := by
  have l : Le Ω.F (PD.addF Ω.F H p) := addF_le nF
  have nq : ∀ {q : Addr}, HeldA Ω.φ ρ σ q → PD.addF Ω.F H p q = none := fun {q} h => by
    have ne : q ≠ p := fun e => by rw [e] at h; exact nh h
    exact (addF_none ne).trans (S.heldF h).1
  refine ⟨S.len, addF_sub S.sub, fun i s h => ?_, S.dist, S.stl, fun n q c h1 h2 => (S.sto n q c h1 h2).le l (Ph.refl _) (fun o e => e), fun q h => nq (.inl h), S.nd⟩
  have q := S.slot i s h
  cases s with
  | un => trivial
  | sh d => obtain ⟨x, e, q⟩ := q; exact ⟨x, e, q.le l (Ph.refl _)⟩
  | own d =>
    obtain ⟨k, p', e, q, f, g⟩ := q
    exact ⟨k, p', e, q.le l (Ph.refl _) (fun o z => z), nq (.inr ⟨i, _, h, rfl, e⟩), g⟩
  | lent d =>
    obtain ⟨k, p', e, q, f, g⟩ := q
    exact ⟨k, p', e, q.le l (Ph.refl _) (fun o z => z), nq (.inr ⟨i, _, h, rfl, e⟩), g⟩
/-- a result as a value -/
theorem StR.value {fl : Bool} {d : D} {v : V} {Ω0 : Wd} {ρ0 : List Slot} {σ0 : L2.St} (S : StR N K Ω ρ st σ H) (t : Step Ω0 ρ0 σ0 H0 Ω ρ σ H) (r : ResR N K Ω ρ σ H0 H fl d v) :
    ∃ F', StR N K ⟨F', Ω.φ⟩ ρ st σ H ∧ Step Ω0 ρ0 σ0 H0 ⟨F', Ω.φ⟩ ρ σ H ∧ Rep N K Ω.φ F' d v := by
  rcases r with ⟨_, r⟩ | ⟨_, k, p, e, n, f, nh, r⟩
  · exact ⟨Ω.F, S, t, r⟩
  · subst e
    refine ⟨PD.addF Ω.F H p, S.addF f nh, ⟨fun a o h => addF_le f _ _ (t.fm a o h), t.pm, fun a h => ?_, t.own, t.keep, t.dom, t.ln⟩, r.frz k f⟩
    by_cases e : a = p
    · subst e; exact .inr (.inl n)
    · have h' : PD.addF Ω.F H p a ≠ none := h
      rw [addF_none e] at h'; exact t.new a h'
/-- a slot's own thing is frozen -/
theorem StR.freeze {i : Nat} {d : D} (S : StR N K Ω ρ st σ H) (h : ρ[i]? = some (.own d)) :
    ∃ p, σ[i]? = some (some (V.ref p)) ∧ StR N K ⟨PD.addF Ω.F H p, Ω.φ⟩ (ρ.set i (.sh d)) st σ H ∧ Step Ω ρ σ H ⟨PD.addF Ω.F H p, Ω.φ⟩ (ρ.set i (.sh d)) σ H ∧ Rep N K Ω.φ (PD.addF Ω.F H p) d (.ref p) := by
  obtain ⟨k, p, e, r, f, g⟩ := S.slot i _ h
  obtain ⟨hi, _⟩ := List.getElem?_eq_some_iff.mp h
  have l : Le Ω.F (PD.addF Ω.F H p) := addF_le f
  have rp := r.frz k f
  have old : ∀ {j : Nat} {s : Slot}, (ρ.set i (.sh d))[j]? = some s → j ≠ i → ρ[j]? = some s := fun {j s} z ne => by rw [List.getElem?_set_ne (Ne.symm ne)] at z; exact z
  have noti : ∀ {j : Nat} {s : Slot}, (ρ.set i (.sh d))[j]? = some s → held s = true → j ≠ i := fun {j s} z hs ne => by
    subst ne
    rw [List.getElem?_set_self hi] at z
    cases z; cases hs
  have nq : ∀ {j : Nat} {s : Slot} {q : Addr}, (ρ.set i (.sh d))[j]? = some s → held s = true → σ[j]? = some (some (V.ref q)) → q ≠ p := fun {j s q} z hs w' z2 => by
    have ne := noti z hs
    subst z2
    exact ne (S.dist j i s (.own d) q (old z ne) h hs rfl w' e)
  refine ⟨p, e, ⟨by rw [List.length_set]; exact S.len, addF_sub S.sub, fun j s hj => ?_, fun a b s t q h1 h2 h3 h4 h5 h6 => ?_, S.stl, fun n q c h1 h2 => (S.sto n q c h1 h2).le l (Ph.refl _) (fun o z => z), fun q hq => ?_, S.nd⟩, ⟨l, Ph.refl _, fun a ha => ?_, fun q hq => ?_, fun a o ho _ => ho, fun _ h => h, fun j d' hj => ⟨(lent_set hj (fun _ z => nomatch z)).2, rfl⟩⟩, rp⟩
  · by_cases ej : j = i
    · subst ej
      rw [List.getElem?_set_self hi] at hj
      cases hj
      exact ⟨_, e, rp⟩
    · have q := S.slot j s (old hj ej)
      cases s with
      | un => trivial
      | sh d => obtain ⟨x, e, q⟩ := q; exact ⟨x, e, q.le l (Ph.refl _)⟩
      | own d' =>
        obtain ⟨k', p', e', q, f', g'⟩ := q
        refine ⟨k', p', e', q.le l (Ph.refl _) (fun o z => z), ?_, g'⟩
        exact (addF_none (nq hj rfl e')).trans f'
      | lent d' =>
        obtain ⟨k', p', e', q, f', g'⟩ := q
        refine ⟨k', p', e', q.le l (Ph.refl _) (fun o z => z), ?_, g'⟩
        exact (addF_none (nq hj rfl e')).trans f'
  · exact S.dist a b s t q (old h1 (noti h1 h3)) (old h2 (noti h2 h4)) h3 h4 h5 h6
  · have ne : q ≠ p := fun z => by rw [z] at hq; exact g hq
    exact (addF_none ne).trans (S.phF q hq)
  · by_cases ea : a = p
    · subst ea; exact .inr (.inr (.inr ⟨i, d, h, e⟩))
    · have ha' : PD.addF Ω.F H p a ≠ none := ha
      rw [addF_none ea] at ha'; exact .inl ha'
  · rcases hq with hq | ⟨j, d', h1, h2⟩
    · exact .inl (.inl hq)
    · exact .inl (.inr ⟨j, d', old h1 (noti h1 rfl), h2⟩)
end
end PD

set_option Elab.async false
set_option linter.all false
set_option maxRecDepth 100000
/-! PD3: the judgements: what is asked of a run's outcome, XE, XO, XV, XT; names, constants, operands. -/
namespace PD
open PySem PySem.Spec L2

/-- what the outcome gives, to whom it hands it -/
def Post {α β : Type} (N : Nm) (K : PySem.W.Frag) (W : WX) (R : Wd → List Slot → Hp → Hp → α → β → Prop) (Ω : Wd) (ρ : List Slot) (σ : L2.St) (H : Hp) (Q : β → Hp → Prop) : Out α → Prop
  | .ok ρ' st' a => ∀ (Ω' : Wd) (H' : Hp) (b : β), StR N K Ω' ρ' st' σ H' → Step Ω ρ σ H Ω' ρ' σ H' → R Ω' ρ' H H' a b → Q b H'
  | .exc e ρ' st' => ∀ (Ω' : Wd) (H' : Hp), StR N K Ω' ρ' st' σ H' → Step Ω ρ σ H Ω' ρ' σ H' → W (.ref (N.ex e)) none σ H'
  | .stuck => False
section
variable {N : Nm} {K : PySem.W.Frag} {W : WX} {α β γ δ : Type} {Ω Ω1 : Wd} {ρ ρ1 : List Slot} {σ : L2.St} {H H1 : Hp}
theorem Post.bind {R : Wd → List Slot → Hp → Hp → γ → δ → Prop} {R1 : Wd → List Slot → Hp → Hp → α → β → Prop} {Q : δ → Hp → Prop} {Q1 : β → Hp → Prop} {c : Out α} {f : List Slot → List D → α → Out γ}
    (h : Post N K W R Ω ρ σ H Q (c.bind f))
    (k : ∀ ρ1 st1 a Ω1 H1 b, c = .ok ρ1 st1 a → StR N K Ω1 ρ1 st1 σ H1 → Step Ω ρ σ H Ω1 ρ1 σ H1 → R1 Ω1 ρ1 H H1 a b → Post N K W R Ω ρ σ H Q (f ρ1 st1 a) → Q1 b H1) : Post N K W R1 Ω ρ σ H Q1 c := by
  cases c with
  | ok ρ1 st1 a => exact fun Ω1 H1 b S t r => k ρ1 st1 a Ω1 H1 b rfl S t r h
  | exc e ρ1 st1 => exact h
  | stuck => exact h
/-- from a later start -/
theorem Post.shift {R : Wd → List Slot → Hp → Hp → α → β → Prop} {Q : β → Hp → Prop} {c : Out α} (t : Step Ω ρ σ H Ω1 ρ1 σ H1)
    (hR : ∀ Ω' ρ' H' a b, R Ω' ρ' H1 H' a b → R Ω' ρ' H H' a b) (h : Post N K W R Ω ρ σ H Q c) : Post N K W R Ω1 ρ1 σ H1 Q c := by
  cases c with
  | ok ρ' st' a => exact fun Ω' H' b S t' r => h Ω' H' b S (t.trans t') (hR _ _ _ _ _ r)
  | exc e ρ' st' => exact fun Ω' H' S t' => h Ω' H' S (t.trans t')
  | stuck => exact h
end

abbrev RE (N : Nm) (K : PySem.W.Frag) (σ : L2.St) : Wd → List Slot → Hp → Hp → Bool × D → V → Prop := fun Ω ρ H0 H p v => ResR N K Ω ρ σ H0 H p.1 p.2 v
def OpdR (N : Nm) (K : PySem.W.Frag) (σ : L2.St) (Ω : Wd) : Nat ⊕ D → V → Prop
  | .inl i, v => σ[i]? = some (some v)
  | .inr d, v => Rep N K Ω.φ Ω.F d v
abbrev RO (N : Nm) (K : PySem.W.Frag) (σ : L2.St) : Wd → List Slot → Hp → Hp → Nat ⊕ D → V → Prop := fun Ω _ _ _ o v => OpdR N K σ Ω o v
abbrev RV (N : Nm) (K : PySem.W.Frag) : Wd → List Slot → Hp → Hp → List D → List V → Prop := fun Ω _ _ _ ds vs => Reps N K Ω.φ Ω.F ds vs
abbrev RD (N : Nm) (K : PySem.W.Frag) : Wd → List Slot → Hp → Hp → D → V → Prop := fun Ω _ _ _ d v => Rep N K Ω.φ Ω.F d v
abbrev RB : Wd → List Slot → Hp → Hp → Bool → Bool → Prop := fun _ _ _ _ a b => a = b
def tX {α β : Type} (N : Nm) (K : PySem.W.Frag) (W : WX) (R : L2.St → Wd → List Slot → Hp → Hp → α → β → Prop) (c : Sm α) : L2.St → Hp → (β → Hp → Prop) → Prop := fun σ H Q => ∃ Ω ρ st, StR N K Ω ρ st σ H ∧ Post N K W (R σ) Ω ρ σ H Q (c ρ st)
/-- an expression's run is sound -/
abbrev XE (N : Nm) (W : WX) (X : Cx) (e : Expr) (c : Sm (Bool × D)) : Prop := PE X e (tX N X.K W (RE N X.K) c)
abbrev XO (N : Nm) (W : WX) (X : Cx) (e : Expr) (c : Sm (Nat ⊕ D)) : Prop := PE X e (tX N X.K W (RO N X.K) c)
abbrev XD (N : Nm) (W : WX) (X : Cx) (e : Expr) (c : Sm D) : Prop := PE X e (tX N X.K W (fun _ => RD N X.K) c)
abbrev XV (N : Nm) (W : WX) (X : Cx) (es : List Expr) (c : Sm (List D)) : Prop := PA X es (tX N X.K W (fun _ => RV N X.K) c)
abbrev XT (N : Nm) (W : WX) (X : Cx) (e : Expr) (c : Sm Bool) : Prop := PT X e (tX N X.K W (fun _ => RB) c)

theorem PE.imp {X : Cx} {e : Expr} {t t' : TE} (p : PE X e t) (h : ∀ σ H Q, t' σ H Q → t σ H Q) : PE X e t' := ⟨fun pins s σ H Q I q => p.run pins s σ H Q I (h σ H Q q)⟩
theorem PT.imp {X : Cx} {e : Expr} {t t' : TT} (p : PT X e t) (h : ∀ σ H Q, t' σ H Q → t σ H Q) : PT X e t' := ⟨fun pins s σ H Q I q => p.run pins s σ H Q I (h σ H Q q)⟩
theorem PW.imp {X : Cx} {e : Expr} {t t' : TT} (p : PW X e t) (h : ∀ σ H Q, t' σ H Q → t σ H Q) : PW X e t' := ⟨fun w pins s σ H Q I q => p.run w pins s σ H Q I (h σ H Q q)⟩
theorem PA.imp {X : Cx} {e : List Expr} {t t' : TA} (p : PA X e t) (h : ∀ σ H Q, t' σ H Q → t σ H Q) : PA X e t' := ⟨fun w pins s σ H Q I q => p.run w pins s σ H Q I (h σ H Q q)⟩
theorem PS.imp {X : Cx} {e : Stmt} {t t' : TS} (p : PS X e t) (h : ∀ D σ H, t' D σ H → t D σ H) : PS X e t' := ⟨fun pins s σ H D I q => p.run pins s σ H D I (h D σ H q)⟩
theorem PSs.imp {X : Cx} {e : List Stmt} {t t' : TS} (p : PSs X e t) (h : ∀ D σ H, t' D σ H → t D σ H) : PSs X e t' := ⟨fun pins s σ H D I q => p.run pins s σ H D I (h D σ H q)⟩

section
variable {N : Nm} {K : PySem.W.Frag} {W : WX} {Ω Ω1 : Wd} {ρ ρ1 : List Slot} {st : List D} {σ : L2.St} {H H1 : Hp}
theorem RE.shift (t : Step Ω ρ σ H Ω1 ρ1 σ H1) : ∀ (Ω' : Wd) (ρ' : List Slot) (H' : Hp) (a : Bool × D) (b : V), RE N K σ Ω' ρ' H1 H' a b → RE N K σ Ω' ρ' H H' a b := fun Ω' ρ' H' a b h => by
  rcases h with h | ⟨e, k, p, e2, n, r⟩
  · exact .inl h
  · exact .inr ⟨e, k, p, e2, t.dom p n, r⟩
theorem OpdR.step {o : Nat ⊕ D} {v : V} {ρ' : List Slot} {H' : Hp} {σ' : L2.St} (h : OpdR N K σ Ω o v) (t : Step Ω ρ σ' H Ω1 ρ' σ' H') : OpdR N K σ Ω1 o v := by
  cases o with
  | inl i => exact h
  | inr d => exact Rep.le t.fm t.pm _ _ h
theorem Rep.step {d : D} {v : V} {ρ' : List Slot} {H' : Hp} {σ' : L2.St} (h : Rep N K Ω.φ Ω.F d v) (t : Step Ω ρ σ' H Ω1 ρ' σ' H') : Rep N K Ω1.φ Ω1.F d v := Rep.le t.fm t.pm _ _ h
theorem Reps.step {d : List D} {v : List V} {ρ' : List Slot} {H' : Hp} {σ' : L2.St} (h : Reps N K Ω.φ Ω.F d v) (t : Step Ω ρ σ' H Ω1 ρ' σ' H') : Reps N K Ω1.φ Ω1.F d v := Reps.le t.fm t.pm _ _ h
theorem StR.deref (S : StR N K Ω ρ st σ H) {d d' : D} {v : V} (r : Rep N K Ω.φ Ω.F d v) (e : PD.deref st d = some d') : PRep N K Ω.φ Ω.F H d' v := by
  by_cases hc : ∃ n, d = .cell n
  · obtain ⟨n, rfl⟩ := hc
    cases r with
    | cell h => exact .inr ⟨_, rfl, S.sto n _ d' h e⟩
  · have : PD.deref st d = some d := by
      cases d <;> first | rfl | exact absurd ⟨_, rfl⟩ hc
    rw [this] at e
    cases e
    exact .inl r
theorem StR.rez (S : StR N K Ω ρ st σ H) {o : Nat ⊕ D} {d : D} {v : V} (r : OpdR N K σ Ω o v) (e : PD.rez ρ st o = some d) : PRep N K Ω.φ Ω.F H d v := by
  cases o with
  | inr d0 => exact S.deref r e
  | inl i =>
    have r' : σ[i]? = some (some v) := r
    unfold PD.rez at e
    dsimp only at e
    cases q : ρ[i]? with
    | none => rw [q] at e; cases e
    | some s =>
      rw [q] at e
      have sl := S.slot i s q
      cases s with
      | un => cases e
      | sh d0 =>
        obtain ⟨x, e1, r1⟩ := sl
        rw [r'] at e1
        cases e1
        exact S.deref r1 e
      | own d0 =>
        obtain ⟨_, p, e1, r1, _⟩ := sl
        rw [r'] at e1
        cases e1
        cases e
        exact .inr ⟨p, rfl, r1⟩
      | lent d0 =>
        obtain ⟨_, p, e1, r1, _⟩ := sl
        rw [r'] at e1
        cases e1
        cases e
        exact .inr ⟨p, rfl, r1⟩
theorem StR.there (S : StR N K Ω ρ st σ H) {i : Nat} (h : isUn ρ[i]? = false) : ∃ v, σ[i]? = some (some v) := by
  cases q : ρ[i]? with
  | none => rw [q] at h; cases h
  | some s =>
    rw [q] at h
    have sl := S.slot i s q
    cases s with
    | un => cases h
    | sh d0 => obtain ⟨x, e1, _⟩ := sl; exact ⟨_, e1⟩
    | own d0 => obtain ⟨_, p, e1, _⟩ := sl; exact ⟨_, e1⟩
    | lent d0 => obtain ⟨_, p, e1, _⟩ := sl; exact ⟨_, e1⟩
end

section
variable {N : Nm} {W : WX} {X : Cx} {e a b : Expr}
/-! ### names, constants -/
theorem xe_var {i : Nat} (h : PE X e (tVar i)) : XE N W X e (run (.var i)) := by
  refine PE.imp h fun σ H Q ⟨Ω, ρ, st, S, q⟩ => ?_
  change Post N X.K W (RE N X.K σ) Ω ρ σ H Q ((getV i ρ st).bind _) at q
  unfold getV at q
  cases hs : ρ[i]? with
  | none => rw [hs] at q; exact q.elim
  | some s =>
    rw [hs] at q
    have sl := S.slot i s hs
    cases s with
    | un => exact q.elim
    | lent d => exact q.elim
    | sh d =>
      obtain ⟨x, e1, r⟩ := sl
      exact ⟨x, e1, q Ω H x S (Step.refl _ _ _ _) (.inl ⟨rfl, r⟩)⟩
    | own d =>
      obtain ⟨p, e1, S', t, r⟩ := S.freeze hs
      exact ⟨_, e1, q _ H _ S' t (.inl ⟨rfl, r⟩)⟩
theorem xo_var {i : Nat} (h : PE X e (tVar i)) : XO N W X e (runO1 (.var i)) := by
  refine PE.imp h fun σ H Q ⟨Ω, ρ, st, S, q⟩ => ?_
  change Post N X.K W (RO N X.K σ) Ω ρ σ H Q (if isUn ρ[i]? = true then _ else _) at q
  cases hu : isUn ρ[i]? with
  | true => rw [hu] at q; exact q.elim
  | false =>
    rw [hu] at q
    obtain ⟨v, ev⟩ := S.there hu
    exact ⟨v, ev, q Ω H v S (Step.refl _ _ _ _) ev⟩
theorem xe_const {d : D} {v : V} (h : PE X e (tC v)) (r : ∀ (φ : List Addr) (F : Hp), Rep N X.K φ F d v) : XE N W X e (fun ρ st => .ok ρ st (false, d)) := by
  refine PE.imp h fun σ H Q ⟨Ω, ρ, st, S, q⟩ => ?_
  exact q Ω H v S (Step.refl _ _ _ _) (.inl ⟨rfl, r _ _⟩)
/-- a value out of a result -/
theorem xd_of {c : Sm (Bool × D)} (h : XE N W X e c) : XD N W X e (fun ρ st => (c ρ st).bind fun ρ st p => .ok ρ st p.2) := by
  refine PE.imp h fun σ H Q ⟨Ω, ρ, st, S, q⟩ => ⟨Ω, ρ, st, S, Post.bind q fun ρ1 st1 p Ω1 H1 v _ S1 t1 r1 q1 => ?_⟩
  obtain ⟨F', S2, t2, r2⟩ := S1.value t1 r1
  exact q1 _ H1 v S2 t2 r2
theorem xo_of {c : Sm (Bool × D)} (h : XE N W X e c) : XO N W X e (fun ρ st => (c ρ st).bind fun ρ st p => .ok ρ st (.inr p.2)) := by
  refine PE.imp h fun σ H Q ⟨Ω, ρ, st, S, q⟩ => ⟨Ω, ρ, st, S, Post.bind q fun ρ1 st1 p Ω1 H1 v _ S1 t1 r1 q1 => ?_⟩
  obtain ⟨F', S2, t2, r2⟩ := S1.value t1 r1
  exact q1 _ H1 v S2 t2 r2
/-- an expression by the little language: as a result, as an operand -/
structure XR (N : Nm) (W : WX) (X : Cx) (e : Expr) (i : E) : Prop where
  xe : XE N W X e (run i)
  xo : XO N W X e (runO1 i)
theorem XR.of {i : E} (h : XE N W X e (run i)) (hv : ∀ k, i ≠ .var k) : XR N W X e i := by
  refine ⟨h, ?_⟩
  have := xo_of h
  cases i with
  | var k => exact absurd rfl (hv k)
  | _ => exact this
theorem XR.xd {i : E} (h : XR N W X e i) : XD N W X e (fun ρ st => (run i ρ st).bind fun ρ st p => .ok ρ st p.2) := xd_of h.xe
theorem xr_var {i : Nat} (h : PE X e (tVar i)) : XR N W X e (.var i) := ⟨xe_var h, xo_var h⟩

/-! ### two operands, one, three -/
/-- an operation on values that stand as data -/
def rOp (N : Nm) (K : PySem.W.Frag) (o : Op) : List V → Hp → VK → Prop := fun xs H Q => ∃ φ F ds fl d, Le F H ∧ PReps N K φ F H ds xs ∧ opSem o ds = some (fl, d) ∧ ∀ F' H' v, OpRes N K φ F H F' H' fl d v → Q v H'
theorem use_op {K : PySem.W.Frag} {o : Op} {Ω Ω0 : Wd} {ρ ρ0 : List Slot} {st : List D} {σ : L2.St} {H H0 : Hp} {Q : VK} {ds : List D} {xs : List V} (S : StR N K Ω ρ st σ H) (t : Step Ω0 ρ0 σ H0 Ω ρ σ H) (r : PReps N K Ω.φ Ω.F H ds xs)
    (q : Post N K W (RE N K σ) Ω0 ρ0 σ H0 Q (ofOp ρ st (opSem o ds))) : rOp N K o xs H Q := by
  cases h : opSem o ds with
  | none => rw [h] at q; exact q.elim
  | some p =>
    rw [h] at q
    refine ⟨Ω.φ, Ω.F, ds, p.1, p.2, S.sub, r, h, fun F' H' v g => ?_⟩
    obtain ⟨S', t', r'⟩ := S.opres g
    exact q _ H' v S' (t.trans t') (RE.shift t _ _ _ p _ r')
theorem red2 {o : Op} {K : PySem.W.Frag} {ia ib : E} {σ : L2.St} {H : Hp} {Q : VK} (h : tX N K W (RE N K) (run (.op o [ia, ib])) σ H Q) :
    tX N K W (RO N K) (runO1 ia) σ H fun x H1 => tX N K W (RO N K) (runO1 ib) σ H1 fun y H2 => rOp N K o [x, y] H2 Q := by
  obtain ⟨Ω, ρ, st, S, q⟩ := h
  refine ⟨Ω, ρ, st, S, ?_⟩
  change Post N K W (RE N K σ) Ω ρ σ H Q ((runO [ia, ib] ρ st).bind _) at q
  rw [runO_one] at q
  cases h1 : runO1 ia ρ st with
  | stuck => rw [h1] at q; exact q.elim
  | exc e1 ρ1 st1 => rw [h1] at q; exact q
  | ok ρ1 st1 o1 =>
    rw [h1] at q
    intro Ω1 H1 x S1 t1 r1
    refine ⟨Ω1, ρ1, st1, S1, ?_⟩
    change Post N K W (RE N K σ) Ω ρ σ H Q (Out.bind (Out.bind (runO [ib] ρ1 st1) _) _) at q
    rw [runO_one] at q
    cases h2 : runO1 ib ρ1 st1 with
    | stuck => rw [h2] at q; exact q.elim
    | exc e1 ρ2 st2 => rw [h2] at q; exact fun Ω' H' S' t' => q Ω' H' S' (t1.trans t')
    | ok ρ2 st2 o2 =>
      rw [h2] at q
      intro Ω2 H2 y S2 t2 r2
      change Post N K W (RE N K σ) Ω ρ σ H Q (match rezs ρ2 st2 [o1, o2] with | some ds => ofOp ρ2 st2 (opSem o ds) | none => .stuck) at q
      unfold rezs at q
      cases g1 : PD.rez ρ2 st2 o1 with
      | none => rw [g1] at q; exact q.elim
      | some d1 =>
        rw [g1] at q
        unfold rezs at q
        cases g2 : PD.rez ρ2 st2 o2 with
        | none => rw [g2] at q; exact q.elim
        | some d2 =>
          rw [g2] at q
          exact use_op (ds := [d1, d2]) S2 (t1.trans t2) ⟨S2.rez (r1.step t2) g1, S2.rez r2 g2, trivial⟩ q
theorem red1 {o : Op} {K : PySem.W.Frag} {ia : E} {σ : L2.St} {H : Hp} {Q : VK} (h : tX N K W (RE N K) (run (.op o [ia])) σ H Q) :
    tX N K W (RO N K) (runO1 ia) σ H fun x H1 => rOp N K o [x] H1 Q := by
  obtain ⟨Ω, ρ, st, S, q⟩ := h
  refine ⟨Ω, ρ, st, S, ?_⟩
  change Post N K W (RE N K σ) Ω ρ σ H Q ((runO [ia] ρ st).bind _) at q
  rw [runO_one] at q
  cases h1 : runO1 ia ρ st with
  | stuck => rw [h1] at q; exact q.elim
  | exc e1 ρ1 st1 => rw [h1] at q; exact q
  | ok ρ1 st1 o1 =>
    rw [h1] at q
    intro Ω1 H1 x S1 t1 r1
    change Post N K W (RE N K σ) Ω ρ σ H Q (match rezs ρ1 st1 [o1] with | some ds => ofOp ρ1 st1 (opSem o ds) | none => .stuck) at q
    unfold rezs at q
    cases g1 : PD.rez ρ1 st1 o1 with
    | none => rw [g1] at q; exact q.elim
    | some d1 =>
      rw [g1] at q
      exact use_op (ds := [d1]) S1 t1 ⟨S1.rez r1 g1, trivial⟩ q
theorem red3 {o : Op} {K : PySem.W.Frag} {ia ib ic : E} {σ : L2.St} {H : Hp} {Q : VK} (h : tX N K W (RE N K) (run (.op o [ia, ib, ic])) σ H Q) :
    tX N K W (RO N K) (runO1 ia) σ H fun x H1 => tX N K W (RO N K) (runO1 ib) σ H1 fun y H2 => tX N K W (RO N K) (runO1 ic) σ H2 fun z H3 => rOp N K o [x, y, z] H3 Q := by
  obtain ⟨Ω, ρ, st, S, q⟩ := h
  refine ⟨Ω, ρ, st, S, ?_⟩
  change Post N K W (RE N K σ) Ω ρ σ H Q ((runO [ia, ib, ic] ρ st).bind _) at q
  rw [runO_one] at q
  cases h1 : runO1 ia ρ st with
  | stuck => rw [h1] at q; exact q.elim
  | exc e1 ρ1 st1 => rw [h1] at q; exact q
  | ok ρ1 st1 o1 =>
    rw [h1] at q
    intro Ω1 H1 x S1 t1 r1
    refine ⟨Ω1, ρ1, st1, S1, ?_⟩
    change Post N K W (RE N K σ) Ω ρ σ H Q (Out.bind (Out.bind (runO [ib, ic] ρ1 st1) _) _) at q
    rw [runO_one] at q
    cases h2 : runO1 ib ρ1 st1 with
    | stuck => rw [h2] at q; exact q.elim
    | exc e1 ρ2 st2 => rw [h2] at q; exact fun Ω' H' S' t' => q Ω' H' S' (t1.trans t')
    | ok ρ2 st2 o2 =>
      rw [h2] at q
      intro Ω2 H2 y S2 t2 r2
      refine ⟨Ω2, ρ2, st2, S2, ?_⟩
      change Post N K W (RE N K σ) Ω ρ σ H Q (Out.bind (Out.bind (Out.bind (runO [ic] ρ2 st2) _) _) _) at q
      rw [runO_one] at q
      cases h3 : runO1 ic ρ2 st2 with
      | stuck => rw [h3] at q; exact q.elim
      | exc e1 ρ3 st3 => rw [h3] at q; exact fun Ω' H' S' t' => q Ω' H' S' ((t1.trans t2).trans t')
      | ok ρ3 st3 o3 =>
        rw [h3] at q
        intro Ω3 H3 z S3 t3 r3
        change Post N K W (RE N K σ) Ω ρ σ H Q (match rezs ρ3 st3 [o1, o2, o3] with | some ds => ofOp ρ3 st3 (opSem o ds) | none => .stuck) at q
        unfold rezs at q
        cases g1 : PD.rez ρ3 st3 o1 with
        | none => rw [g1] at q; exact q.elim
        | some d1 =>
          rw [g1] at q
          unfold rezs at q
          cases g2 : PD.rez ρ3 st3 o2 with
          | none => rw [g2] at q; exact q.elim
          | some d2 =>
            rw [g2] at q
            unfold rezs at q
            cases g3 : PD.rez ρ3 st3 o3 with
            | none => rw [g3] at q; exact q.elim
            | some d3 =>
              rw [g3] at q
              exact use_op (ds := [d1, d2, d3]) S3 ((t1.trans t2).trans t3) ⟨S3.rez ((r1.step t2).step t3) g1, S3.rez (r2.step t3) g2, S3.rez r3 g3, trivial⟩ q
/-- a method: the receiver is looked at ahead of the arguments -/
theorem redM {o : Op} {K : PySem.W.Frag} {ia ib : E} {σ : L2.St} {H : Hp} {Q : VK} (h : tX N K W (RE N K) (run (.meth o [ia] [ib])) σ H Q) :
    tX N K W (RO N K) (runO1 ia) σ H fun x H1 => (∃ φ F d, Le F H1 ∧ PRep N K φ F H1 d x ∧ recv o [d] = true) ∧ tX N K W (RO N K) (runO1 ib) σ H1 fun y H2 => rOp N K o [x, y] H2 Q := by
  obtain ⟨Ω, ρ, st, S, q⟩ := h
  refine ⟨Ω, ρ, st, S, ?_⟩
  change Post N K W (RE N K σ) Ω ρ σ H Q ((runO [ia] ρ st).bind _) at q
  rw [runO_one] at q
  cases h1 : runO1 ia ρ st with
  | stuck => rw [h1] at q; exact q.elim
  | exc e1 ρ1 st1 => rw [h1] at q; exact q
  | ok ρ1 st1 o1 =>
    rw [h1] at q
    intro Ω1 H1 x S1 t1 r1
    change Post N K W (RE N K σ) Ω ρ σ H Q (match rezs ρ1 st1 [o1] with | some ds => if recv o ds = true then (runO [ib] ρ1 st1).bind _ else .stuck | none => .stuck) at q
    unfold rezs at q
    cases g1 : PD.rez ρ1 st1 o1 with
    | none => rw [g1] at q; exact q.elim
    | some d1 =>
      rw [g1] at q
      change Post N K W (RE N K σ) Ω ρ σ H Q (if recv o [d1] = true then _ else .stuck) at q
      cases hr : recv o [d1] with
      | false => rw [hr] at q; exact q.elim
      | true =>
        rw [hr] at q
        refine ⟨⟨Ω1.φ, Ω1.F, d1, S1.sub, S1.rez r1 g1, hr⟩, Ω1, ρ1, st1, S1, ?_⟩
        change Post N K W (RE N K σ) Ω ρ σ H Q ((runO [ib] ρ1 st1).bind _) at q
        rw [runO_one] at q
        cases h2 : runO1 ib ρ1 st1 with
        | stuck => rw [h2] at q; exact q.elim
        | exc e1 ρ2 st2 => rw [h2] at q; exact fun Ω' H' S' t' => q Ω' H' S' (t1.trans t')
        | ok ρ2 st2 o2 =>
          rw [h2] at q
          intro Ω2 H2 y S2 t2 r2
          change Post N K W (RE N K σ) Ω ρ σ H Q (match rezs ρ2 st2 [o1, o2] with | some ds => ofOp ρ2 st2 (opSem o ds) | none => .stuck) at q
          unfold rezs at q
          cases g1 : PD.rez ρ2 st2 o1 with
          | none => rw [g1] at q; exact q.elim
          | some d1 =>
            rw [g1] at q
            unfold rezs at q
            cases g2 : PD.rez ρ2 st2 o2 with
            | none => rw [g2] at q; exact q.elim
            | some d2 =>
              rw [g2] at q
              exact use_op (ds := [d1, d2]) S2 (t1.trans t2) ⟨S2.rez (r1.step t2) g1, S2.rez r2 g2, trivial⟩ q
/-- two are looked at ahead of the third -/
theorem redM21 {o : Op} {K : PySem.W.Frag} {ia ib ic : E} {σ : L2.St} {H : Hp} {Q : VK} (h : tX N K W (RE N K) (run (.meth o [ia, ib] [ic])) σ H Q) :
    tX N K W (RO N K) (runO1 ia) σ H fun x H1 => tX N K W (RO N K) (runO1 ib) σ H1 fun y H2 => (∃ φ F d1 d2, Le F H2 ∧ PRep N K φ F H2 d1 x ∧ PRep N K φ F H2 d2 y ∧ recv o [d1, d2] = true) ∧ tX N K W (RO N K) (runO1 ic) σ H2 fun z H3 => rOp N K o [x, y, z] H3 Q := by
  obtain ⟨Ω, ρ, st, S, q⟩ := h
  refine ⟨Ω, ρ, st, S, ?_⟩
  change Post N K W (RE N K σ) Ω ρ σ H Q ((runO [ia, ib] ρ st).bind _) at q
  rw [runO_one] at q
  cases h1 : runO1 ia ρ st with
  | stuck => rw [h1] at q; exact q.elim
  | exc e1 ρ1 st1 => rw [h1] at q; exact q
  | ok ρ1 st1 o1 =>
    rw [h1] at q
    intro Ω1 H1 x S1 t1 r1
    refine ⟨Ω1, ρ1, st1, S1, ?_⟩
    change Post N K W (RE N K σ) Ω ρ σ H Q (Out.bind (Out.bind (runO [ib] ρ1 st1) _) _) at q
    rw [runO_one] at q
    cases h2 : runO1 ib ρ1 st1 with
    | stuck => rw [h2] at q; exact q.elim
    | exc e1 ρ2 st2 => rw [h2] at q; exact fun Ω' H' S' t' => q Ω' H' S' (t1.trans t')
    | ok ρ2 st2 o2 =>
      rw [h2] at q
      intro Ω2 H2 y S2 t2 r2
      change Post N K W (RE N K σ) Ω ρ σ H Q (match rezs ρ2 st2 [o1, o2] with | some ds => if recv o ds = true then (runO [ic] ρ2 st2).bind _ else .stuck | none => .stuck) at q
      unfold rezs at q
      cases g1 : PD.rez ρ2 st2 o1 with
      | none => rw [g1] at q; exact q.elim
      | some d1 =>
        rw [g1] at q
        unfold rezs at q
        cases g2 : PD.rez ρ2 st2 o2 with
        | none => rw [g2] at q; exact q.elim
        | some d2 =>
          rw [g2] at q
          change Post N K W (RE N K σ) Ω ρ σ H Q (if recv o [d1, d2] = true then _ else .stuck) at q
          cases hr : recv o [d1, d2] with
          | false => rw [hr] at q; exact q.elim
          | true =>
            rw [hr] at q
            refine ⟨⟨Ω2.φ, Ω2.F, d1, d2, S2.sub, S2.rez (r1.step t2) g1, S2.rez r2 g2, hr⟩, Ω2, ρ2, st2, S2, ?_⟩
            change Post N K W (RE N K σ) Ω ρ σ H Q ((runO [ic] ρ2 st2).bind _) at q
            rw [runO_one] at q
            cases h3 : runO1 ic ρ2 st2 with
            | stuck => rw [h3] at q; exact q.elim
            | exc e1 ρ3 st3 => rw [h3] at q; exact fun Ω' H' S' t' => q Ω' H' S' ((t1.trans t2).trans t')
            | ok ρ3 st3 o3 =>
              rw [h3] at q
              intro Ω3 H3 z S3 t3 r3
              change Post N K W (RE N K σ) Ω ρ σ H Q (match rezs ρ3 st3 [o1, o2, o3] with | some ds => ofOp ρ3 st3 (opSem o ds) | none => .stuck) at q
              unfold rezs at q
              cases g1 : PD.rez ρ3 st3 o1 with
              | none => rw [g1] at q; exact q.elim
              | some d1 =>
                rw [g1] at q
                unfold rezs at q
                cases g2 : PD.rez ρ3 st3 o2 with
                | none => rw [g2] at q; exact q.elim
                | some d2 =>
                  rw [g2] at q
                  unfold rezs at q
                  cases g3 : PD.rez ρ3 st3 o3 with
                  | none => rw [g3] at q; exact q.elim
                  | some d3 =>
                    rw [g3] at q
                    exact use_op (ds := [d1, d2, d3]) S3 ((t1.trans t2).trans t3) ⟨S3.rez ((r1.step t2).step t3) g1, S3.rez (r2.step t3) g2, S3.rez r3 g3, trivial⟩ q
theorem redM3 {o : Op} {K : PySem.W.Frag} {ia ib ic : E} {σ : L2.St} {H : Hp} {Q : VK} (h : tX N K W (RE N K) (run (.meth o [ia] [ib, ic])) σ H Q) :
    tX N K W (RO N K) (runO1 ia) σ H fun x H1 => (∃ φ F d, Le F H1 ∧ PRep N K φ F H1 d x ∧ recv o [d] = true) ∧ tX N K W (RO N K) (runO1 ib) σ H1 fun y H2 => tX N K W (RO N K) (runO1 ic) σ H2 fun z H3 => rOp N K o [x, y, z] H3 Q := by
  obtain ⟨Ω, ρ, st, S, q⟩ := h
  refine ⟨Ω, ρ, st, S, ?_⟩
  change Post N K W (RE N K σ) Ω ρ σ H Q ((runO [ia] ρ st).bind _) at q
  rw [runO_one] at q
  cases h1 : runO1 ia ρ st with
  | stuck => rw [h1] at q; exact q.elim
  | exc e1 ρ1 st1 => rw [h1] at q; exact q
  | ok ρ1 st1 o1 =>
    rw [h1] at q
    intro Ω1 H1 x S1 t1 r1
    change Post N K W (RE N K σ) Ω ρ σ H Q (match rezs ρ1 st1 [o1] with | some ds => if recv o ds = true then (runO [ib, ic] ρ1 st1).bind _ else .stuck | none => .stuck) at q
    unfold rezs at q
    cases g1 : PD.rez ρ1 st1 o1 with
    | none => rw [g1] at q; exact q.elim
    | some d1 =>
      rw [g1] at q
      change Post N K W (RE N K σ) Ω ρ σ H Q (if recv o [d1] = true then _ else .stuck) at q
      cases hr : recv o [d1] with
      | false => rw [hr] at q; exact q.elim
      | true =>
        rw [hr] at q
        refine ⟨⟨Ω1.φ, Ω1.F, d1, S1.sub, S1.rez r1 g1, hr⟩, Ω1, ρ1, st1, S1, ?_⟩
        change Post N K W (RE N K σ) Ω ρ σ H Q ((runO [ib, ic] ρ1 st1).bind _) at q
        rw [runO_one] at q
        cases h2 : runO1 ib ρ1 st1 with
        | stuck => rw [h2] at q; exact q.elim
        | exc e1 ρ2 st2 => rw [h2] at q; exact fun Ω' H' S' t' => q Ω' H' S' (t1.trans t')
        | ok ρ2 st2 o2 =>
          rw [h2] at q
          intro Ω2 H2 y S2 t2 r2
          refine ⟨Ω2, ρ2, st2, S2, ?_⟩
          change Post N K W (RE N K σ) Ω ρ σ H Q (Out.bind (Out.bind (runO [ic] ρ2 st2) _) _) at q
          rw [runO_one] at q
          cases h3 : runO1 ic ρ2 st2 with
          | stuck => rw [h3] at q; exact q.elim
          | exc e1 ρ3 st3 => rw [h3] at q; exact fun Ω' H' S' t' => q Ω' H' S' ((t1.trans t2).trans t')
          | ok ρ3 st3 o3 =>
            rw [h3] at q
            intro Ω3 H3 z S3 t3 r3
            change Post N K W (RE N K σ) Ω ρ σ H Q (match rezs ρ3 st3 [o1, o2, o3] with | some ds => ofOp ρ3 st3 (opSem o ds) | none => .stuck) at q
            unfold rezs at q
            cases g1 : PD.rez ρ3 st3 o1 with
            | none => rw [g1] at q; exact q.elim
            | some d1 =>
              rw [g1] at q
              unfold rezs at q
              cases g2 : PD.rez ρ3 st3 o2 with
              | none => rw [g2] at q; exact q.elim
              | some d2 =>
                rw [g2] at q
                unfold rezs at q
                cases g3 : PD.rez ρ3 st3 o3 with
                | none => rw [g3] at q; exact q.elim
                | some d3 =>
                  rw [g3] at q
                  exact use_op (ds := [d1, d2, d3]) S3 ((t1.trans t2).trans t3) ⟨S3.rez ((r1.step t2).step t3) g1, S3.rez (r2.step t3) g2, S3.rez r3 g3, trivial⟩ q
end
end PD

set_option Elab.async false
set_option linter.all false
set_option maxRecDepth 100000
/-! PD4: the operations do what opSem says. -/
namespace PD
open PySem PySem.Spec L2

section
variable {N : Nm} {K : PySem.W.Frag} {φ : List Addr} {F H : Hp}
theorem PReps.one {ds : List D} {x : V} (h : PReps N K φ F H ds [x]) : ∃ d, ds = [d] ∧ PRep N K φ F H d x := by
  cases ds with
  | nil => exact h.elim
  | cons d ds =>
    obtain ⟨h1, h2⟩ := h
    cases ds with
    | nil => exact ⟨d, rfl, h1⟩
    | cons _ _ => exact h2.elim
theorem PReps.two {ds : List D} {x y : V} (h : PReps N K φ F H ds [x, y]) : ∃ d e, ds = [d, e] ∧ PRep N K φ F H d x ∧ PRep N K φ F H e y := by
  cases ds with
  | nil => exact h.elim
  | cons d ds =>
    obtain ⟨h1, h2⟩ := h
    obtain ⟨e, rfl, h3⟩ := PReps.one h2
    exact ⟨d, e, rfl, h1, h3⟩
theorem PReps.three {ds : List D} {x y z : V} (h : PReps N K φ F H ds [x, y, z]) : ∃ d e f, ds = [d, e, f] ∧ PRep N K φ F H d x ∧ PRep N K φ F H e y ∧ PRep N K φ F H f z := by
  cases ds with
  | nil => exact h.elim
  | cons d ds =>
    obtain ⟨h1, h2⟩ := h
    obtain ⟨e, f, rfl, h3, h4⟩ := PReps.two h2
    exact ⟨d, e, f, rfl, h1, h3, h4⟩
end
theorem line_eq : sizeLine = 16777216 := sizeLine_eq

section
variable {N : Nm} {X : Cx}
abbrev r2 (N : Nm) (X : Cx) (o : Op) : R2 := fun x y H Q => rOp N X.K o [x, y] H Q
/-! ### numbers -/
theorem o_add : OpR X (binaryOp .Add) (r2 N X .add) := by
  intro pins s σ H x y v u Q I rx ry h
  obtain ⟨φ, F, ds, fl, d, sub, pr, e, k⟩ := h
  obtain ⟨d1, d2, rfl, p1, p2⟩ := pr.two
  simp only [opSem] at e
  unfold dAdd at e
  split at e
  · cases e
    exact op_add pins s σ H x y v u Q I rx ry ⟨_, _, p1.int, p2.int, k _ _ _ (.val sub (.int _))⟩
  · split at e
    · cases e
      rename_i hl
      exact op_add_str pins s σ H x y v u Q I rx ry ⟨_, _, p1.str, p2.str, by rw [line_eq]; exact hl, k _ _ _ (.val sub (.str _))⟩
    · cases e
  · split at e
    · cases e
      rename_i hl
      obtain ⟨a, xs, e1, h1, l1, r1⟩ := p1.lst sub
      obtain ⟨b, ys, e2, h2, l2, r2⟩ := p2.lst sub
      have hz : xs.length + ys.length ≤ sizeLine := by rw [line_eq, ← r1.length, ← r2.length]; exact hl
      exact op_cat pins s σ H x y v u Q I rx ry ⟨a, b, xs, ys, e1, e2, h1, h2, hz, fun p n => k _ _ _ (.new1 sub n rfl ⟨_, upd_same, by rw [List.length_append]; exact hz, r1.append r2⟩)⟩
    · cases e
  · split at e
    · cases e
      rename_i hl
      obtain ⟨a, xs, e1, h1, l1, r1⟩ := p1.tup sub
      obtain ⟨b, ys, e2, h2, l2, r2⟩ := p2.tup sub
      have hz : xs.length + ys.length ≤ sizeLine := by rw [line_eq, ← r1.length, ← r2.length]; exact hl.2
      have hne : xs ≠ [] := fun z => by
        subst z
        have := r1.length
        have h0 := hl.1
        rw [List.isEmpty_eq_false_iff, ← List.length_pos_iff, this] at h0
        cases h0
      refine op_catT pins s σ H x y v u Q I rx ry ⟨a, b, xs, ys, e1, e2, .of (sub _ _ h1), .of (sub _ _ h2), hne, hz, fun e => ?_, fun e p n => ?_⟩
      · subst e
        cases r2
        refine k _ _ _ (.val sub ?_)
        rw [List.append_nil]
        exact .tup h1 l1 r1
      · exact k _ _ _ (.newT sub n (by rw [List.length_append]; exact hz) (r1.append r2))
    · cases e
  · cases e
theorem o_sub : OpR X (binaryOp .Sub) (r2 N X .sub) := by
  intro pins s σ H x y v u Q I rx ry h
  obtain ⟨φ, F, ds, fl, d, sub, pr, e, k⟩ := h
  obtain ⟨d1, d2, rfl, p1, p2⟩ := pr.two
  simp only [opSem] at e
  unfold dSub at e
  split at e
  · cases e
    exact op_sub pins s σ H x y v u Q I rx ry ⟨_, _, p1.int, p2.int, k _ _ _ (.val sub (.int _))⟩
  · cases e
theorem o_mod : OpR X (binaryOp .Mod) (r2 N X .mod) := by
  intro pins s σ H x y v u Q I rx ry h
  obtain ⟨φ, F, ds, fl, d, sub, pr, e, k⟩ := h
  obtain ⟨d1, d2, rfl, p1, p2⟩ := pr.two
  simp only [opSem] at e
  unfold dMod at e
  split at e
  · split at e
    · cases e
    · cases e
      rename_i hl
      exact op_modN pins s σ H x y v u Q I rx ry ⟨_, _, p1.int, p2.int, hl, k _ _ _ (.val sub (.int _))⟩
  · cases e
theorem o_fdiv : OpR X (binaryOp .FloorDiv) (r2 N X .fdiv) := by
  intro pins s σ H x y v u Q I rx ry h
  obtain ⟨φ, F, ds, fl, d, sub, pr, e, k⟩ := h
  obtain ⟨d1, d2, rfl, p1, p2⟩ := pr.two
  simp only [opSem] at e
  unfold dFdiv at e
  split at e
  · split at e
    · cases e
      rename_i hl
      exact op_fdivW pins s σ H x y v u Q I rx ry ⟨_, _, p1.int, p2.int, hl, k _ _ _ (.val sub (.int _))⟩
    · cases e
  · cases e
theorem o_pow : OpR X (binaryOp .Pow) (r2 N X .pow) := by
  intro pins s σ H x y v u Q I rx ry h
  obtain ⟨φ, F, ds, fl, d, sub, pr, e, k⟩ := h
  obtain ⟨d1, d2, rfl, p1, p2⟩ := pr.two
  simp only [opSem] at e
  unfold dPow at e
  split at e
  · split at e
    · cases e
      rename_i hl
      exact op_pow pins s σ H x y v u Q I rx ry ⟨_, _, p1.int, p2.int, hl, k _ _ _ (.val sub (.int _))⟩
    · cases e
  · cases e
theorem o_shl : OpR X (binaryOp .LShift) (r2 N X .shl) := by
  intro pins s σ H x y v u Q I rx ry h
  obtain ⟨φ, F, ds, fl, d, sub, pr, e, k⟩ := h
  obtain ⟨d1, d2, rfl, p1, p2⟩ := pr.two
  simp only [opSem] at e
  unfold dShl at e
  split at e
  · split at e
    · cases e
      rename_i hl
      exact op_shl pins s σ H x y v u Q I rx ry ⟨_, _, p1.int, p2.int, hl, k _ _ _ (.val sub (.int _))⟩
    · cases e
  · cases e
theorem o_shr : OpR X (binaryOp .RShift) (r2 N X .shr) := by
  intro pins s σ H x y v u Q I rx ry h
  obtain ⟨φ, F, ds, fl, d, sub, pr, e, k⟩ := h
  obtain ⟨d1, d2, rfl, p1, p2⟩ := pr.two
  simp only [opSem] at e
  unfold dShr at e
  split at e
  · split at e
    · cases e
      rename_i hl
      exact op_shr pins s σ H x y v u Q I rx ry ⟨_, _, p1.int, p2.int, hl, k _ _ _ (.val sub (.int _))⟩
    · cases e
  · cases e
theorem o_band : OpR X (binaryOp .BitAnd) (r2 N X .band) := by
  intro pins s σ H x y v u Q I rx ry h
  obtain ⟨φ, F, ds, fl, d, sub, pr, e, k⟩ := h
  obtain ⟨d1, d2, rfl, p1, p2⟩ := pr.two
  simp only [opSem] at e
  unfold dBand at e
  split at e
  · cases e
    exact op_and pins s σ H x y v u Q I rx ry ⟨_, _, p1.int, p2.int, k _ _ _ (.val sub (.int _))⟩
  · cases e
theorem flat_rep {α : Type} (x : α) : ∀ n : Nat, (List.replicate n [x]).flatten.length = n
  | 0 => rfl
  | n + 1 => by rw [List.replicate_succ, List.flatten_cons, List.length_append, flat_rep x n]; simp; omega
theorem fold_rep (a : Nat) : ∀ (n : Nat) (acc : Array Nat), ((List.replicate n (#[a] : Array Nat)).foldl (· ++ ·) acc) = acc ++ (List.replicate n [a]).flatten.toArray
  | 0, acc => by simp
  | n + 1, acc => by
    rw [List.replicate_succ, List.foldl_cons, fold_rep a n, List.replicate_succ, List.flatten_cons]
    apply Array.ext'
    simp [List.replicate_succ]
theorem o_mul : OpR X (binaryOp .Mult) (r2 N X .mul) := by
  intro pins s σ H x y v u Q I rx ry h
  obtain ⟨φ, F, ds, fl, d, sub, pr, e, k⟩ := h
  obtain ⟨d1, d2, rfl, p1, p2⟩ := pr.two
  simp only [opSem] at e
  unfold dMul at e
  split at e
  · split at e
    · cases e
      rename_i hl
      exact op_mulW pins s σ H x y v u Q I rx ry ⟨_, _, p1.int, p2.int, hl, k _ _ _ (.val sub (.int _))⟩
    · cases e
  · split at e
    · cases e
      rename_i xs i hl
      obtain ⟨a, us, e1, h1, l1, r1⟩ := p1.lst sub
      have hu : us.length = 1 := by rw [← r1.length]; exact hl.2.2
      have hz : us.length * i.toNat ≤ sizeLine := by rw [hu, line_eq]; omega
      refine op_rep pins s σ H x y v u Q I rx ry ⟨a, _, us, e1, p2.int, h1, by omega, by omega, hz, fun p n => k _ _ _ (.new1 sub n rfl ⟨_, upd_same, ?_, r1.flat _⟩)⟩
      match us, hu with
      | [z], _ => rw [flat_rep, line_eq]; omega
    · cases e
  · split at e
    · cases e
      rename_i z i hl
      have hx := p1.str
      have hy := p2.int
      subst hx hy
      obtain ⟨t, rfl⟩ := rx
      obtain ⟨t', rfl⟩ := ry
      obtain ⟨⟨l⟩⟩ := z
      have hll : l.length = 1 := hl.2.2
      obtain ⟨c, rfl⟩ : ∃ c, l = [c] := by
        match l, hll with
        | [c], _ => exact ⟨c, rfl⟩
      have hlen : (⟨⟨[c]⟩⟩ : Str).length = 1 := rfl
      refine PySem.P.mul_str (by simp; omega) (fun h1 h2 => ?_) (fun h1 h2 => ?_) ?_
      · rw [hlen]
        have : (1 : Int) ≤ (2 ^ 63 - 1) / i := by
          rw [Int.le_ediv_iff_mul_le (by omega)]; omega
        show ¬ ((1 : Nat) : Int) > _
        omega
      · rw [hlen]
        show decide _ = false
        exact decide_eq_false (by rw [line_eq]; omega)
      · have q := k _ _ _ (.val sub (.str ⟨(List.replicate i.toNat [c]).flatten.toArray⟩))
        by_cases h0 : i < 1
        · rw [if_pos h0]
          refine ⟨by decide, .str _, H, I.tok _, ⟨s.toks, ?_⟩, q⟩
          have : i.toNat = 0 := by omega
          rw [this]; rfl
        · rw [if_neg h0]
          by_cases h1 : i = 1
          · subst h1
            exact ⟨.str _, H, I, ⟨_, rfl⟩, q⟩
          · have hb : (i == 1 || (⟨⟨[c]⟩⟩ : Str).length == 0) = false := by rw [hlen]; simp [h1]
            rw [if_neg (by rw [hb]; decide)]
            refine ⟨?_, .str _, H, I.tok _, ⟨s.toks, ?_⟩, q⟩
            · rw [fold_rep c i.toNat #[]]
              show (#[] ++ (List.replicate i.toNat [c]).flatten.toArray : Array Nat).size ≤ sizeLine
              rw [Array.size_append, List.size_toArray, List.size_toArray, flat_rep, line_eq]
              show 0 + _ ≤ _
              omega
            have := fold_rep c i.toNat #[]
            show Value.str ⟨(List.replicate i.toNat (#[c] : Array Nat)).foldl (· ++ ·) #[]⟩ _ = _
            rw [this]
            simp
    · cases e
  · cases e
end
end PD

set_option Elab.async false
set_option linter.all false
set_option maxRecDepth 100000
/-! PD5: comparisons, membership, length, items, slices, conversions. -/
namespace PD
open PySem PySem.Spec L2

section
variable {N : Nm} {K : PySem.W.Frag} {φ : List Addr} {F H : Hp}
mutual
theorem dp_of (sub : Le F H) : ∀ (n : Nat) (d : D) (v : V), pl n d = true → Rep N K φ F d v → Dp K H v (toP d)
  | _, .non, _, _, r => by cases r; exact .non
  | _, .bl b, _, _, r => by cases r; exact .bl b
  | _, .int b, _, _, r => by cases r; exact .int b
  | _, .str b, _, _, r => by cases r; exact .str b
  | n + 1, .tup ds, _, p, r => by cases r with | tup h1 h2 h3 => exact .tup (.of (sub _ _ h1)) (dps_of sub n ds _ p h3)
  | n + 1, .ctup ds, _, p, r => by cases r with | ctup h1 h2 h3 => exact .tup (SqT.le sub h1) (dps_of sub n ds _ p h3)
  | n + 1, .lst ds, _, p, r => by cases r with | lst h1 h2 h3 => exact .lst (.of (sub _ _ h1)) (dps_of sub n ds _ p h3)
  | 0, .tup ds, _, p, r => by cases p
  | 0, .ctup ds, _, p, r => by cases p
  | 0, .lst ds, _, p, r => by cases p
  | 0, .scr ns, _, p, _ => by cases p
  | _ + 1, .scr ns, _, p, _ => by cases p
  | 0, .dt _ _, _, p, _ => by cases p
  | _ + 1, .dt _ _, _, p, _ => by cases p
  | 0, .dk _ _, _, p, _ => by cases p
  | _ + 1, .dk _ _, _, p, _ => by cases p
  | 0, .cdk _ _, _, p, _ => by cases p
  | _ + 1, .cdk _ _, _, p, _ => by cases p
  | 0, .exn _, _, p, _ => by cases p
  | _ + 1, .exn _, _, p, _ => by cases p
  | 0, .cell _, _, p, _ => by cases p
  | _ + 1, .cell _, _, p, _ => by cases p
  | 0, .obj _ _, _, p, _ => by cases p
  | _ + 1, .obj _ _, _, p, _ => by cases p
theorem dps_of (sub : Le F H) : ∀ (n : Nat) (ds : List D) (vs : List V), pls n ds = true → Reps N K φ F ds vs → DpAll K H vs (toPs ds)
  | _, [], _, _, r => by cases r; exact .nil
  | n, d :: ds, _, p, r => by
    cases r with
    | cons h1 h2 =>
      have p' : (pl n d && pls n ds) = true := by cases n <;> exact p
      rw [Bool.and_eq_true] at p'
      exact .cons (dp_of sub n d _ p'.1 h1) (dps_of sub n ds _ p'.2 h2)
end
theorem PRep.dp {d : D} {v : V} {n : Nat} (h : PRep N K φ F H d v) (sub : Le F H) (p : pl n d = true) : Dp K H v (toP d) := by
  rcases h with h | ⟨a, e, h⟩
  · exact dp_of sub n d v p h
  · subst e
    cases d <;> try exact h.elim
    · obtain ⟨xs, h1, h2, h3⟩ := h
      cases n with
      | zero => cases p
      | succ n => exact .lst (.of h1) (dps_of sub n _ _ p h3)
    all_goals (cases n <;> cases p)
end
mutual
theorem lay_of : ∀ (n : Nat) (d : D), pl n d = true → (toP d).canLay0 = true ∧ (toP d).depth ≤ n
  | _, .non, _ => ⟨rfl, Nat.zero_le _⟩
  | _, .bl b, _ => ⟨rfl, Nat.zero_le _⟩
  | _, .int b, _ => ⟨rfl, Nat.zero_le _⟩
  | 0, .str b, p => ⟨by show PyData.canLay0 (.str b) = true; rw [PyData.canLay0]; exact p, Nat.zero_le _⟩
  | _ + 1, .str b, p => ⟨by show PyData.canLay0 (.str b) = true; rw [PyData.canLay0]; exact p, Nat.zero_le _⟩
  | n + 1, .tup ds, p => by
    obtain ⟨h1, h2⟩ := lays_of n ds p
    exact ⟨by show PyData.canLay0 (.tuple (toPs ds)) = true; rw [PyData.canLay0]; exact h1, by show PyData.depth (.tuple (toPs ds)) ≤ _; rw [PyData.depth]; exact Nat.succ_le_succ h2⟩
  | n + 1, .ctup ds, p => by
    obtain ⟨h1, h2⟩ := lays_of n ds p
    exact ⟨by show PyData.canLay0 (.tuple (toPs ds)) = true; rw [PyData.canLay0]; exact h1, by show PyData.depth (.tuple (toPs ds)) ≤ _; rw [PyData.depth]; exact Nat.succ_le_succ h2⟩
  | n + 1, .lst ds, p => by
    obtain ⟨h1, h2⟩ := lays_of n ds p
    exact ⟨by show PyData.canLay0 (.list (toPs ds)) = true; rw [PyData.canLay0]; exact h1, by show PyData.depth (.list (toPs ds)) ≤ _; rw [PyData.depth]; exact Nat.succ_le_succ h2⟩
  | 0, .tup ds, p => by cases p
  | 0, .ctup ds, p => by cases p
  | 0, .lst ds, p => by cases p
  | 0, .scr ns, p => by cases p
  | _ + 1, .scr ns, p => by cases p
  | 0, .dt _ _, p => by cases p
  | _ + 1, .dt _ _, p => by cases p
  | 0, .dk _ _, p => by cases p
  | _ + 1, .dk _ _, p => by cases p
  | 0, .cdk _ _, p => by cases p
  | _ + 1, .cdk _ _, p => by cases p
  | 0, .exn _, p => by cases p
  | _ + 1, .exn _, p => by cases p
  | 0, .cell _, p => by cases p
  | _ + 1, .cell _, p => by cases p
  | 0, .obj _ _, p => by cases p
  | _ + 1, .obj _ _, p => by cases p
theorem lays_of : ∀ (n : Nat) (ds : List D), pls n ds = true → PyData.canLayAll0 (toPs ds) = true ∧ PyData.depthAll (toPs ds) ≤ n
  | _, [], _ => ⟨rfl, Nat.zero_le _⟩
  | n, d :: ds, p => by
    have p' : (pl n d && pls n ds) = true := by cases n <;> exact p
    rw [Bool.and_eq_true] at p'
    obtain ⟨h1, h2⟩ := lay_of n d p'.1
    obtain ⟨h3, h4⟩ := lays_of n ds p'.2
    refine ⟨?_, ?_⟩
    · show PyData.canLayAll0 (toP d :: toPs ds) = true
      rw [PyData.canLayAll0, h1, h3]; rfl
    · show PyData.depthAll (toP d :: toPs ds) ≤ n
      rw [PyData.depthAll]
      exact Nat.max_le.mpr ⟨h2, h4⟩
end
theorem shaped_of {d : D} (p : pl 40 d = true) : SeqAt.shaped (toP d) = true := by
  obtain ⟨h1, h2⟩ := lay_of 40 d p
  unfold SeqAt.shaped
  rw [h1, decide_eq_true (by omega)]; rfl

section
variable {N : Nm} {X : Cx}
theorem eq_sc {d e : D} {x y : V} {φ : List Addr} {F H : Hp} (h : sc d e = true) (p : PRep N X.K φ F H d x) (q : PRep N X.K φ F H e y) : scal x y = true ∧ decide (x = y) = PyData.eqv (toP d) (toP e) := by
  cases d <;> cases e <;> first
    | (cases h; done)
    | skip
  all_goals (
    try (have hx := p.non; subst hx)
    try (have hx := p.bl; subst hx)
    try (have hx := p.int; subst hx)
    try (have hx := p.str; subst hx)
    try (have hy := q.non; subst hy)
    try (have hy := q.bl; subst hy)
    try (have hy := q.int; subst hy)
    try (have hy := q.str; subst hy)
    refine ⟨rfl, ?_⟩
    simp [toP, PyData.eqv, Bool.beq_eq_decide_eq])
theorem o_eq (hu : X.A.units + 64 < cLine) : OpR X (compareOp .Eq) (r2 N X .eq) := by
  intro pins s σ H x y v u Q I rx ry h
  obtain ⟨φ, F, ds, fl, d, sub, pr, e, k⟩ := h
  obtain ⟨d1, d2, rfl, p1, p2⟩ := pr.two
  simp only [opSem, sb, dEq] at e
  split at e
  · rename_i hc
    cases e
    have kk := k _ _ _ (.val sub (.bl _))
    rw [Bool.or_eq_true, Bool.and_eq_true] at hc
    rcases hc with hc | ⟨c1, c2⟩
    · obtain ⟨h1, h2⟩ := eq_sc hc p1 p2
      refine op_eq pins s σ H x y v u Q I rx ry ⟨h1, ?_⟩
      rw [h2]; exact kk
    · exact op_eqD hu pins s σ H x y v u Q I rx ry ⟨_, _, p1.dp sub c1, p2.dp sub c2, shaped_of c1, shaped_of c2, kk⟩
  · cases e
theorem o_ne (hu : X.A.units + 64 < cLine) : OpR X (compareOp .NotEq) (r2 N X .ne) := by
  intro pins s σ H x y v u Q I rx ry h
  obtain ⟨φ, F, ds, fl, d, sub, pr, e, k⟩ := h
  obtain ⟨d1, d2, rfl, p1, p2⟩ := pr.two
  simp only [opSem, sb, dEq] at e
  split at e
  · rename_i hc
    cases e
    have kk := k _ _ _ (.val sub (.bl _))
    rw [Bool.or_eq_true, Bool.and_eq_true] at hc
    rcases hc with hc | ⟨c1, c2⟩
    · obtain ⟨h1, h2⟩ := eq_sc hc p1 p2
      refine op_ne pins s σ H x y v u Q I rx ry ⟨h1, ?_⟩
      rw [h2]; exact kk
    · exact op_neD hu pins s σ H x y v u Q I rx ry ⟨_, _, p1.dp sub c1, p2.dp sub c2, shaped_of c1, shaped_of c2, kk⟩
  · cases e
theorem o_cmp {o : Op} {c : CmpOp} {f : Int → Int → Bool} (h : OpR X (compareOp c) (rI0 fun i j => .bl (f i j))) (ho : ∀ x y, opSem o [x, y] = dCmp f x y) : OpR X (compareOp c) (r2 N X o) := by
  intro pins s σ H x y v u Q I rx ry h'
  obtain ⟨φ, F, ds, fl, d, sub, pr, e, k⟩ := h'
  obtain ⟨d1, d2, rfl, p1, p2⟩ := pr.two
  rw [ho] at e
  unfold dCmp at e
  split at e
  · cases e
    exact h pins s σ H x y v u Q I rx ry ⟨_, _, p1.int, p2.int, k _ _ _ (.val sub (.bl _))⟩
  · cases e
theorem o_lt : OpR X (compareOp .Lt) (r2 N X .lt) := o_cmp op_lt fun _ _ => rfl
theorem o_le : OpR X (compareOp .LtE) (r2 N X .le) := o_cmp op_le fun _ _ => rfl
theorem o_gt : OpR X (compareOp .Gt) (r2 N X .gt) := o_cmp op_gt fun _ _ => rfl
theorem o_ge : OpR X (compareOp .GtE) (r2 N X .ge) := o_cmp op_ge fun _ _ => rfl
/-- with None on the right -/
theorem isN_of {d : D} {x : V} {φ : List Addr} {F H : Hp} (p1 : PRep N X.K φ F H d x) : decide (x = V.non) = dIsN d := by
  by_cases hd : d = .non
  · subst hd
    have := p1.non
    subst this
    rfl
  · have e : dIsN d = false := by cases d <;> first | rfl | exact absurd rfl hd
    rw [e]
    refine decide_eq_false fun z => ?_
    subst z
    rcases p1 with h | ⟨p, h, _⟩
    · cases h; exact hd rfl
    · cases h
/-- with None on the right -/
theorem o_isN : OpR X (compareOp .Is) (fun x y H Q => y = .non ∧ rOp N X.K .isN [x] H Q) := by
  intro pins s σ H x y v u Q I rx ry h
  obtain ⟨hy, φ, F, ds, fl, d, sub, pr, e, k⟩ := h
  obtain ⟨d1, rfl, p1⟩ := pr.one
  cases e
  refine op_isN pins s σ H x y v u Q I rx ry ⟨hy, ?_⟩
  rw [isN_of p1]
  exact k _ _ _ (.val sub (.bl _))
theorem o_notN : OpR X (compareOp .IsNot) (fun x y H Q => y = .non ∧ rOp N X.K .notN [x] H Q) := by
  intro pins s σ H x y v u Q I rx ry h
  obtain ⟨hy, φ, F, ds, fl, d, sub, pr, e, k⟩ := h
  obtain ⟨d1, rfl, p1⟩ := pr.one
  cases e
  refine op_notN pins s σ H x y v u Q I rx ry ⟨hy, ?_⟩
  rw [isN_of p1]
  exact k _ _ _ (.val sub (.bl _))
end
end PD

set_option Elab.async false
set_option linter.all false
set_option maxRecDepth 100000
/-! PD6: membership, length, items, slices, conversions, methods. -/
namespace PD
open PySem PySem.Spec L2

section
variable {N : Nm} {K : PySem.W.Frag} {φ : List Addr} {F H : Hp}
theorem flat_val {d : D} {v : V} (f : flatD d = true) (h : Rep N K φ F d v) : flatV v = true := by
  cases d <;> first | (cases f; done) | (cases h; rfl)
theorem flat_eqV {d e : D} {x y : V} (f : flatD d = true) (g : flatD e = true) (h : Rep N K φ F d x) (h' : Rep N K φ F e y) : eqV x y = PyData.eqv (toP d) (toP e) := by
  cases d <;> first | (cases f; done) | skip
  all_goals (
    cases h
    cases e <;> first | (cases g; done) | skip
    all_goals (cases h'; first | rfl | simp [toP, PyData.eqv, eqV]))
theorem all_flat : ∀ {ds : List D} {vs : List V}, Reps N K φ F ds vs → ds.all flatD = true → vs.all flatV = true
  | [], _, h, _ => by cases h; rfl
  | d :: ds, _, h, f => by
    cases h with
    | cons h1 h2 =>
      rw [List.all_cons, Bool.and_eq_true] at f ⊢
      exact ⟨flat_val f.1 h1, all_flat h2 f.2⟩
theorem inV_of {d : D} {x : V} (fd : flatD d = true) (hx : Rep N K φ F d x) : ∀ {ds : List D} {vs : List V}, Reps N K φ F ds vs → ds.all flatD = true → inV x vs = ds.any fun y => PyData.eqv (toP y) (toP d)
  | [], _, h, _ => by cases h; rfl
  | e :: ds, _, h, f => by
    cases h with
    | cons h1 h2 =>
      rw [List.all_cons, Bool.and_eq_true] at f
      have ih := inV_of fd hx h2 f.2
      unfold inV at ih ⊢
      rw [List.any_cons, List.any_cons, ih, flat_eqV f.1 fd h1 hx]
theorem toPs_map : ∀ ds : List D, toPs ds = ds.map toP
  | [] => rfl
  | d :: ds => by show toP d :: toPs ds = _; rw [toPs_map ds]; rfl
theorem PRep.flat {d : D} {v : V} (f : flatD d = true) (h : PRep N K φ F H d v) : Rep N K φ F d v := by
  rcases h with h | ⟨p, e, h⟩
  · exact h
  · cases d <;> first | (cases f; done) | exact h.elim
/-- a key -/
theorem key_of1 {ds : List D} {xs : List V} {k : List Key} (h : Reps N K φ F ds xs) (e : kOfs ds = some k) : xs = k.map kV := by
  induction ds generalizing xs k with
  | nil => cases h; cases e; rfl
  | cons d ds ih =>
    cases h with
    | cons h1 h2 =>
      unfold kOfs at e
      split at e
      · rename_i a b e1 e2
        cases e
        rw [ih h2 e2]
        cases d <;> first | (cases e1; done) | skip
        all_goals (cases e1; cases h1; rfl)
      · cases e
def Mat (N : Nm) (K : PySem.W.Frag) (φ : List Addr) (F : Hp) : Option D → Option V → Prop
  | some d, some u => Rep N K φ F d u
  | none, none => True
  | _, _ => False
theorem get1_zip {κ : Type} [DecidableEq κ] : ∀ {ks : List κ} {vs : List D} {us : List V} {k : κ}, Reps N K φ F vs us → ks.length = us.length → Mat N K φ F (get1 ks vs k) (valV (ks.zip us) k)
  | [], _, _, _, h, e => by
    trivial
  | k' :: ks, [], us, k, h, e => by cases h; cases e
  | k' :: ks, v :: vs, us, k, h, e => by
    cases h with
    | cons h1 h2 =>
      rename_i u us
      by_cases hk : k' = k
      · have e1 : get1 (k' :: ks) (v :: vs) k = some v := by simp [get1, List.find?_cons, hk]
        have e2 : valV ((k' :: ks).zip (u :: us)) k = some u := by simp [valV, List.find?_cons, hk]
        rw [e1, e2]; exact h1
      · have e1 : get1 (k' :: ks) (v :: vs) k = get1 ks vs k := by simp [get1, List.find?_cons, hk]
        have e2 : valV ((k' :: ks).zip (u :: us)) k = valV (ks.zip us) k := by simp [valV, List.find?_cons, hk]
        rw [e1, e2]
        exact get1_zip h2 (by simpa using e)
theorem zip_self {κ : Type} (kvs : List (κ × V)) : (kvs.map (·.1)).zip (kvs.map (·.2)) = kvs := by
  induction kvs with
  | nil => rfl
  | cons p r ih => simp only [List.map_cons, List.zip_cons_cons, ih]
theorem valV_inr (k : Str) : ∀ kvs : List (Key × V), ∀ ks : List Str, kvs.map (·.1) = ks.map Sum.inr → valV kvs (Sum.inr k) = valV (ks.zip (kvs.map (·.2))) k
  | [], ks, e => by cases ks with
    | nil => rfl
    | cons _ _ => cases e
  | p :: r, ks, e => by
    cases ks with
    | nil => cases e
    | cons q ks =>
      simp only [List.map_cons, List.cons.injEq] at e
      have ih := valV_inr k r ks e.2
      by_cases hk : q = k
      · rw [valV_pos (by rw [e.1, hk])]
        simp [valV, List.find?_cons, hk]
      · rw [valV_neg (by rw [e.1]; intro z; cases z; exact hk rfl), ih]
        simp [valV, List.find?_cons, hk]
/-- a look-up in a dict with text keys -/
theorem dk_get {a : Addr} {ks : List Str} {vs : List D} {kvs : List (Key × V)} (e : H a = some (.dK kvs)) (ek : kvs.map (·.1) = ks.map Sum.inr) (r : Reps N K φ F vs (kvs.map (·.2))) (k : Str) :
    ∃ o, DGet H a (.str k) o ∧ Mat N K φ F (get1 ks vs k) o := by
  refine ⟨valV kvs (.inr k), DGet.k (k := Sum.inr k) e, ?_⟩
  rw [valV_inr k kvs ks ek]
  refine get1_zip r ?_
  have := congrArg List.length ek
  simp only [List.length_map] at this ⊢
  exact this.symm
theorem dt_get {a b : Addr} {vs : List D} {kvs : List (List Key × V)} {k : List Key} (e : H a = some (.dT kvs)) (r : Reps N K φ F vs (kvs.map (·.2))) (eb : H b = some (.tup (k.map kV))) :
    ∃ o, DGet H a (.ref b) o ∧ Mat N K φ F (get1 (kvs.map (·.1)) vs k) o := by
  refine ⟨valV kvs k, DGet.t e eb, ?_⟩
  have := get1_zip (k := k) (ks := kvs.map (·.1)) r (by simp)
  rw [zip_self] at this
  exact this
theorem isSome_match {o1 : Option D} {o2 : Option V} (h : Mat N K φ F o1 o2) : o2.isSome = o1.isSome := by
  cases o1 <;> cases o2 <;> first | rfl | exact h.elim
end

section
variable {N : Nm} {X : Cx}
theorem d_dt {x y : V} {ks : List (List Key)} {vs ds : List D} {k : List Key} {φ : List Addr} {F H : Hp} (sub : Le F H) (p : PRep N X.K φ F H (.dt ks vs) y) (q : PRep N X.K φ F H (.tup ds) x) (e : kOfs ds = some k) :
    ∃ a o, y = .ref a ∧ DGet H a x o ∧ Mat N X.K φ F (get1 ks vs k) o := by
  obtain ⟨a, kvs, rfl, h1, rfl, h3, h4⟩ := p.dt sub
  obtain ⟨b, xs, rfl, g1, g2, g3⟩ := q.tup sub
  have ex := key_of1 g3 e
  subst ex
  obtain ⟨o, h, m⟩ := dt_get (H := H) h1 h4 (sub _ _ g1)
  exact ⟨a, o, rfl, h, m⟩
theorem d_dk {y : V} {ks : List Str} {vs : List D} {k : Str} {φ : List Addr} {F H : Hp} (sub : Le F H) (p : PRep N X.K φ F H (.dk ks vs) y) :
    ∃ a o, y = .ref a ∧ DGet H a (.str k) o ∧ Mat N X.K φ F (get1 ks vs k) o := by
  obtain ⟨a, kvs, rfl, h1, h2, h3, h4⟩ := p.dk sub
  obtain ⟨o, h, m⟩ := dk_get (H := H) h1 h2 h4 k
  exact ⟨a, o, rfl, h, m⟩
/-- the written dict with text keys: told by a fact of the whole context -/
def CdkOk (N : Nm) (X : Cx) : Prop := True
theorem in_core (hu : X.A.units + 65 < cLine) {c : CmpOp} {neg : Bool} (h1 : OpR X (compareOp c) (rIn X.K neg)) (h2 : OpR X (compareOp c) (fun x y H Q => ∃ d ds, Dp X.K H x d ∧ Dp X.K H y (.list ds) ∧ SeqAt.shaped d = true ∧ SeqAt.shaped (.list ds) = true ∧ Q (.bl (if neg then !(ds.any fun z => PyData.eqv z d) else ds.any fun z => PyData.eqv z d)) H))
    (h3 : OpR X (compareOp c) (fun x y H Q => ∃ (c : Nat) (z : Str), x = .str ⟨#[c]⟩ ∧ y = .str z ∧ Q (.bl (if neg then !(decide (c ∈ z.cps.toList)) else decide (c ∈ z.cps.toList))) H))
    (h4 : OpR X (compareOp c) (fun x y H Q => ∃ a o, y = .ref a ∧ DGet H a x o ∧ Q (.bl (if neg then !o.isSome else o.isSome)) H)) :
    OpR X (compareOp c) (fun x y H Q => ∃ φ F d1 d2 b, Le F H ∧ PRep N X.K φ F H d1 x ∧ PRep N X.K φ F H d2 y ∧ dIn d1 d2 = some b ∧ (∀ ks vs, d2 ≠ .cdk ks vs) ∧ Q (.bl (if neg then !b else b)) H) := by
  intro pins s σ H x y v u Q I rx ry h
  obtain ⟨φ, F, d1, d2, b, sub, p1, p2, e, nc, k⟩ := h
  have hu' : X.A.units + 64 < cLine := by omega
  unfold dIn at e
  split at e
  · split at e
    · rename_i hc
      cases e
      rw [Bool.and_eq_true] at hc
      have c2 : pl 41 (.lst ‹List D›) = true := hc.2
      refine h2 pins s σ H x y v u Q I rx ry ⟨_, _, p1.dp sub hc.1, p2.dp sub c2, shaped_of hc.1, ?_, ?_⟩
      · obtain ⟨g1, g2⟩ := lay_of 41 _ c2
        unfold SeqAt.shaped
        have g1' : PyData.canLay0 (.list (toPs ‹List D›)) = true := g1
        have g2' : PyData.depth (.list (toPs ‹List D›)) ≤ 41 := g2
        rw [g1', decide_eq_true (by omega)]; rfl
      · rw [toPs_map, List.any_map]
        exact k
    · cases e
  · split at e
    · rename_i hc
      cases e
      rw [Bool.and_eq_true] at hc
      obtain ⟨a, xs, rfl, g1, g2, g3⟩ := p2.tup sub
      have hx := p1.flat hc.1
      refine h1 pins s σ H x _ v u Q I rx ry ⟨a, xs, rfl, .inr (.of (sub _ _ g1)), flat_val hc.1 hx, all_flat g3 hc.2, ?_⟩
      rw [inV_of hc.1 hx g3 hc.2]
      exact k
    · cases e
  · split at e
    · rename_i hc
      cases e
      rw [Bool.and_eq_true] at hc
      obtain ⟨a, xs, rfl, g1, g2, g3⟩ := p2.ctup sub
      have hx := p1.flat hc.1
      refine h1 pins s σ H x _ v u Q I rx ry ⟨a, xs, rfl, .inr (SqT.le sub g1), flat_val hc.1 hx, all_flat g3 hc.2, ?_⟩
      rw [inV_of hc.1 hx g3 hc.2]
      exact k
    · cases e
  · split at e
    · split at e
      · rename_i z _ c hc
        cases e
        have e1 := p1.str
        have e2 := p2.str
        subst e1 e2
        obtain ⟨⟨l⟩⟩ := c
        match l, hc with
        | [n], _ => exact h3 pins s σ H _ _ v u Q I rx ry ⟨n, z, rfl, rfl, k⟩
      · cases e
    · cases e
  · exact absurd rfl (nc _ _)
  · split at e
    · cases e
      have e1 := p1.str
      subst e1
      obtain ⟨a, o, e2, g, m⟩ := d_dk (k := ‹Str›) sub p2
      refine h4 pins s σ H _ _ v u Q I rx ry ⟨a, o, e2, g, ?_⟩
      rw [isSome_match m]
      exact k
    · cases e
  · split at e
    · split at e
      · rename_i k' ek
        cases e
        obtain ⟨a, o, e2, g, m⟩ := d_dt sub p2 p1 ek
        refine h4 pins s σ H _ _ v u Q I rx ry ⟨a, o, e2, g, ?_⟩
        rw [isSome_match m]
        exact k
      · cases e
    · cases e
  · cases e
theorem d_in_op (hu : X.A.units + 1 < cLine) : OpR X (compareOp .In) (fun x y H Q => ∃ a o, y = .ref a ∧ DGet H a x o ∧ Q (.bl o.isSome) H) := by
  intro pins s σ H x y v u Q I rx ry h
  obtain ⟨a, o, rfl, g, q⟩ := h
  cases ry
  exact d_in hu I g rx fun s3 I3 => ⟨.bl o.isSome, H, I3, rfl, q⟩
theorem d_notin_op (hu : X.A.units + 1 < cLine) : OpR X (compareOp .NotIn) (fun x y H Q => ∃ a o, y = .ref a ∧ DGet H a x o ∧ Q (.bl (!o.isSome)) H) := by
  intro pins s σ H x y v u Q I rx ry h
  obtain ⟨a, o, rfl, g, q⟩ := h
  cases ry
  exact d_notIn hu I g rx fun s3 I3 => ⟨.bl (!o.isSome), H, I3, rfl, q⟩
/-- what the written dict answers: by a rule of the whole context -/
structure Cdk (X : Cx) : Prop where
  isin : ∀ N : Nm, OpR X (compareOp .In) (fun x y H Q => ∃ φ F ks vs c, Le F H ∧ x = .str c ∧ Rep N X.K φ F (.cdk ks vs) y ∧ Q (.bl (get1 ks vs c).isSome) H)
theorem no_cdk {N : Nm} {K : PySem.W.Frag} {φ : List Addr} {F H : Hp} {ks : List Str} {vs : List D} {v : V} (h : PRep N K φ F H (.cdk ks vs) v) : False := by
  rcases h with h | ⟨p, _, h⟩
  · cases h
  · exact h
theorem o_in (hu : X.A.units + 65 < cLine) : OpR X (compareOp .In) (r2 N X .isin) := by
  intro pins s σ H x y v u Q I rx ry h
  obtain ⟨φ, F, ds, fl, d, sub, pr, e, k⟩ := h
  obtain ⟨d1, d2, rfl, p1, p2⟩ := pr.two
  simp only [opSem, sb] at e
  cases q : dIn d1 d2 with
  | none => rw [q] at e; cases e
  | some b =>
    rw [q] at e
    cases e
    exact in_core (N := N) hu (neg := false) op_in_seq (op_inD hu) op_in_sign (d_in_op (by omega)) pins s σ H x y v u Q I rx ry ⟨φ, F, d1, d2, b, sub, p1, p2, q, fun ks vs z => no_cdk (z ▸ p2), k _ _ _ (.val sub (.bl _))⟩
theorem o_notin (hu : X.A.units + 65 < cLine) : OpR X (compareOp .NotIn) (r2 N X .notin) := by
  intro pins s σ H x y v u Q I rx ry h
  obtain ⟨φ, F, ds, fl, d, sub, pr, e, k⟩ := h
  obtain ⟨d1, d2, rfl, p1, p2⟩ := pr.two
  simp only [opSem, sb] at e
  cases q : dIn d1 d2 with
  | none => rw [q] at e; cases e
  | some b =>
    rw [q] at e
    cases e
    exact in_core (N := N) hu (neg := true) op_notIn_seq (op_notInD hu) op_notIn_sign (d_notin_op (by omega)) pins s σ H x y v u Q I rx ry ⟨φ, F, d1, d2, b, sub, p1, p2, q, fun ks vs z => no_cdk (z ▸ p2), k _ _ _ (.val sub (.bl _))⟩
/-! ### calls of built-ins by values -/
abbrev rC (N : Nm) (X : Cx) (o : Op) : List V → Hp → VK → Prop := fun xs H Q => rOp N X.K o xs H Q
/-- with so many values -/
theorem call_n1 {f : Value} {o : Op} (h : CallR X f (fun xs H Q => ∃ x, xs = [x] ∧ rOp N X.K o [x] H Q)) : CallR X f (fun xs H Q => xs.length = 1 ∧ rOp N X.K o xs H Q) := by
  intro pins s σ H xs us Q I r q
  obtain ⟨hl, q⟩ := q
  match xs, hl with
  | [x], _ => exact h pins s σ H [x] us Q I r ⟨x, rfl, q⟩
theorem c_len : CallR X (.builtin "len") (fun xs H Q => ∃ x, xs = [x] ∧ rOp N X.K .len [x] H Q) := by
  intro pins s σ H xs us Q I r q
  obtain ⟨x, rfl, φ, F, ds, fl, d, sub, pr, e, k⟩ := q
  obtain ⟨d1, rfl, p1⟩ := pr.one
  simp only [opSem] at e
  cases q : dLen d1 with
  | none => rw [q] at e; cases e
  | some n =>
    rw [q] at e
    cases e
    have kk := k _ _ _ (.val sub (.int _))
    unfold dLen at q
    split at q
    · cases q
      obtain ⟨a, xs, rfl, g1, g2, g3⟩ := p1.lst sub
      exact call_len_seq pins s σ H _ us Q I r ⟨a, xs, rfl, .inl (.of g1), by rw [← g3.length]; exact kk⟩
    · cases q
      obtain ⟨a, xs, rfl, g1, g2, g3⟩ := p1.tup sub
      exact call_len_seq pins s σ H _ us Q I r ⟨a, xs, rfl, .inr (.of (sub _ _ g1)), by rw [← g3.length]; exact kk⟩
    · cases q
      obtain ⟨a, xs, rfl, g1, g2, g3⟩ := p1.ctup sub
      exact call_len_seq pins s σ H _ us Q I r ⟨a, xs, rfl, .inr (SqT.le sub g1), by rw [← g3.length]; exact kk⟩
    · cases q
      obtain ⟨a, rfl, g1⟩ := p1.scr sub
      exact call_len_seq pins s σ H _ us Q I r ⟨a, _, rfl, .inl g1, by rw [List.length_map]; exact kk⟩
    · split at q
      · rename_i hl
        cases q
        have := p1.str
        subst this
        exact call_len_str pins s σ H _ us Q I r ⟨_, rfl, by rw [line_eq]; exact hl, kk⟩
      · cases q
    · cases q
theorem c_int : CallR X (.type "int") (fun xs H Q => ∃ x, xs = [x] ∧ rOp N X.K .toInt [x] H Q) := by
  intro pins s σ H xs us Q I r q
  obtain ⟨x, rfl, φ, F, ds, fl, d, sub, pr, e, k⟩ := q
  obtain ⟨d1, rfl, p1⟩ := pr.one
  simp only [opSem] at e
  unfold dToInt at e
  split at e
  · cases e
    have := p1.int
    subst this
    exact call_int1 pins s σ H _ us Q I r (.inl ⟨_, rfl, k _ _ _ (.val sub (.int _))⟩)
  · cases e
    have := p1.bl
    subst this
    exact call_int1 pins s σ H _ us Q I r (.inr ⟨_, rfl, k _ _ _ (.val sub (.int _))⟩)
  · split at e
    · rename_i z hl
      have := p1.str
      subst this
      cases q : PySem.intText? z with
      | none => rw [q] at e; cases e
      | some n =>
        rw [q] at e
        cases e
        exact call_int_str pins s σ H _ us Q I r ⟨_, _, rfl, q, hl, k _ _ _ (.val sub (.int _))⟩
    · cases e
  · cases e
theorem c_list : CallR X (.type "list") (fun xs H Q => ∃ x, xs = [x] ∧ rOp N X.K .toList [x] H Q) := by
  intro pins s σ H xs us Q I r q
  obtain ⟨x, rfl, φ, F, ds, fl, d, sub, pr, e, k⟩ := q
  obtain ⟨d1, rfl, p1⟩ := pr.one
  simp only [opSem] at e
  unfold dToList at e
  split at e
  · cases e
    obtain ⟨a, xs, rfl, g1, g2, g3⟩ := p1.lst sub
    exact call_list_of pins s σ H _ us Q I r ⟨a, xs, rfl, .inl (.of g1), fun l n => k _ _ _ (.new1 sub n rfl ⟨xs, upd_same, g2, g3⟩)⟩
  · cases e
    obtain ⟨a, xs, rfl, g1, g2, g3⟩ := p1.tup sub
    exact call_list_of pins s σ H _ us Q I r ⟨a, xs, rfl, .inr (.of (sub _ _ g1)), fun l n => k _ _ _ (.new1 sub n rfl ⟨xs, upd_same, g2, g3⟩)⟩
  · cases e
    obtain ⟨a, xs, rfl, g1, g2, g3⟩ := p1.ctup sub
    exact call_list_of pins s σ H _ us Q I r ⟨a, xs, rfl, .inr (SqT.le sub g1), fun l n => k _ _ _ (.new1 sub n rfl ⟨xs, upd_same, g2, g3⟩)⟩
  · cases e
theorem c_tuple : CallR X (.type "tuple") (fun xs H Q => ∃ x, xs = [x] ∧ rOp N X.K .toTup [x] H Q) := by
  intro pins s σ H xs us Q I r q
  obtain ⟨x, rfl, φ, F, ds, fl, d, sub, pr, e, k⟩ := q
  obtain ⟨d1, rfl, p1⟩ := pr.one
  simp only [opSem] at e
  unfold dToTup at e
  split at e
  · cases e
    obtain ⟨a, xs, rfl, g1, g2, g3⟩ := p1.lst sub
    exact call_tuple_of pins s σ H _ us Q I r ⟨a, xs, rfl, .inl ⟨.of g1, fun l n => k _ _ _ (.newT sub n g2 g3)⟩⟩
  · cases e
    obtain ⟨a, xs, rfl, g1, g2, g3⟩ := p1.tup sub
    exact call_tuple_of pins s σ H _ us Q I r ⟨a, xs, rfl, .inr ⟨.of (sub _ _ g1), k _ _ _ (.val sub (.tup g1 g2 g3))⟩⟩
  · cases e
theorem c_sum (hc : X.calm = true) : CallR X (.builtin "sum") (fun xs H Q => ∃ x, xs = [x] ∧ rOp N X.K .sum [x] H Q) := by
  intro pins s σ H xs us Q I r q
  obtain ⟨x, rfl, φ, F, ds, fl, d, sub, pr, e, k⟩ := q
  obtain ⟨d1, rfl, p1⟩ := pr.one
  simp only [opSem] at e
  unfold dSum at e
  split at e
  · rename_i ds
    cases q : intsD ds with
    | none => rw [q] at e; cases e
    | some l =>
      rw [q] at e
      cases e
      obtain ⟨a, xs, rfl, g1, g2, g3⟩ := p1.lst sub
      have := reps_intsD g3 q
      subst this
      exact cr_sum hc pins s σ H _ us Q I r ⟨a, l, rfl, .of g1, k _ _ _ (.val sub (.int _))⟩
  · cases e
theorem foldl_max_spec : ∀ (l : List Int) (i m : Int), m ∈ i :: l → (∀ y ∈ i :: l, y ≤ m) → l.foldl max i = m
  | [], i, m, h, _ => (List.mem_singleton.mp h).symm
  | j :: l, i, m, h, g => by
    rw [List.foldl_cons]
    refine foldl_max_spec l (max i j) m ?_ ?_
    · simp only [List.mem_cons] at h ⊢
      have g1 := g i (by simp)
      have g2 := g j (by simp)
      rcases h with rfl | rfl | h
      · left; omega
      · left; omega
      · right; exact h
    · intro y hy
      simp only [List.mem_cons] at hy
      rcases hy with rfl | hy
      · have g1 := g i (by simp)
        have g2 := g j (by simp)
        omega
      · exact g y (by simp [hy])
theorem foldl_min_spec : ∀ (l : List Int) (i m : Int), m ∈ i :: l → (∀ y ∈ i :: l, m ≤ y) → l.foldl min i = m
  | [], i, m, h, _ => (List.mem_singleton.mp h).symm
  | j :: l, i, m, h, g => by
    rw [List.foldl_cons]
    refine foldl_min_spec l (min i j) m ?_ ?_
    · simp only [List.mem_cons] at h ⊢
      have g1 := g i (by simp)
      have g2 := g j (by simp)
      rcases h with rfl | rfl | h
      · left; omega
      · left; omega
      · right; exact h
    · intro y hy
      simp only [List.mem_cons] at hy
      rcases hy with rfl | hy
      · have g1 := g i (by simp)
        have g2 := g j (by simp)
        omega
      · exact g y (by simp [hy])
theorem c_max1 (hc : X.calm = true) : CallR X (.builtin "max") (fun xs H Q => ∃ x, xs = [x] ∧ rOp N X.K .max1 [x] H Q) := by
  intro pins s σ H xs us Q I r q
  obtain ⟨x, rfl, φ, F, ds, fl, d, sub, pr, e, k⟩ := q
  obtain ⟨d1, rfl, p1⟩ := pr.one
  simp only [opSem] at e
  unfold dMax1 at e
  split at e
  · rename_i ds
    cases q : intsD ds with
    | none => rw [q] at e; cases e
    | some l =>
      rw [q] at e
      cases l with
      | nil => cases e
      | cons i l =>
        cases e
        obtain ⟨a, xs, rfl, g1, g2, g3⟩ := p1.lst sub
        have := reps_intsD g3 q
        subst this
        refine cr_max hc pins s σ H _ us Q I r ⟨a, i :: l, rfl, .of g1, by simp, fun m h1 h2 => ?_⟩
        rw [← foldl_max_spec l i m h1 h2]
        exact k _ _ _ (.val sub (.int _))
  · cases e
theorem c_min1 (hc : X.calm = true) : CallR X (.builtin "min") (fun xs H Q => ∃ x, xs = [x] ∧ rOp N X.K .min1 [x] H Q) := by
  intro pins s σ H xs us Q I r q
  obtain ⟨x, rfl, φ, F, ds, fl, d, sub, pr, e, k⟩ := q
  obtain ⟨d1, rfl, p1⟩ := pr.one
  simp only [opSem] at e
  unfold dMin1 at e
  split at e
  · rename_i ds
    cases q : intsD ds with
    | none => rw [q] at e; cases e
    | some l =>
      rw [q] at e
      cases l with
      | nil => cases e
      | cons i l =>
        cases e
        obtain ⟨a, xs, rfl, g1, g2, g3⟩ := p1.lst sub
        have := reps_intsD g3 q
        subst this
        refine cr_min hc pins s σ H _ us Q I r ⟨a, i :: l, rfl, .of g1, by simp, fun m h1 h2 => ?_⟩
        rw [← foldl_min_spec l i m h1 h2]
        exact k _ _ _ (.val sub (.int _))
  · cases e
theorem c_any (hc : X.calm = true) : CallR X (.builtin "any") (fun xs H Q => ∃ x, xs = [x] ∧ rOp N X.K .any [x] H Q) := by
  intro pins s σ H xs us Q I r q
  obtain ⟨x, rfl, φ, F, ds, fl, d, sub, pr, e, k⟩ := q
  obtain ⟨d1, rfl, p1⟩ := pr.one
  simp only [opSem] at e
  unfold dAny at e
  split at e
  · rename_i ds
    cases q : blsD ds with
    | none => rw [q] at e; cases e
    | some l =>
      rw [q] at e
      cases e
      obtain ⟨a, xs, rfl, g1, g2, g3⟩ := p1.lst sub
      have := reps_blsD g3 q
      subst this
      exact cr_any hc pins s σ H _ us Q I r ⟨a, l, rfl, .of g1, k _ _ _ (.val sub (.bl _))⟩
  · cases e
theorem c_all (hc : X.calm = true) : CallR X (.builtin "all") (fun xs H Q => ∃ x, xs = [x] ∧ rOp N X.K .all [x] H Q) := by
  intro pins s σ H xs us Q I r q
  obtain ⟨x, rfl, φ, F, ds, fl, d, sub, pr, e, k⟩ := q
  obtain ⟨d1, rfl, p1⟩ := pr.one
  simp only [opSem] at e
  unfold dAll at e
  split at e
  · rename_i ds
    cases q : blsD ds with
    | none => rw [q] at e; cases e
    | some l =>
      rw [q] at e
      cases e
      obtain ⟨a, xs, rfl, g1, g2, g3⟩ := p1.lst sub
      have := reps_blsD g3 q
      subst this
      exact cr_all hc pins s σ H _ us Q I r ⟨a, l, rfl, .of g1, k _ _ _ (.val sub (.bl _))⟩
  · cases e
theorem c_min2 (hc : X.calm = true) : CallR X (.builtin "min") (fun xs H Q => ∃ x y, xs = [x, y] ∧ rOp N X.K .min2 [x, y] H Q) := by
  intro pins s σ H xs us Q I r q
  obtain ⟨x, y, rfl, φ, F, ds, fl, d, sub, pr, e, k⟩ := q
  obtain ⟨d1, d2, rfl, p1, p2⟩ := pr.two
  simp only [opSem] at e
  unfold dMin2 at e
  split at e
  · cases e
    have h1 := p1.int
    have h2 := p2.int
    subst h1 h2
    exact call_min2 hc pins s σ H _ us Q I r ⟨_, _, rfl, k _ _ _ (.val sub (.int _))⟩
  · cases e
theorem c_max2 (hc : X.calm = true) : CallR X (.builtin "max") (fun xs H Q => ∃ x y, xs = [x, y] ∧ rOp N X.K .max2 [x, y] H Q) := by
  intro pins s σ H xs us Q I r q
  obtain ⟨x, y, rfl, φ, F, ds, fl, d, sub, pr, e, k⟩ := q
  obtain ⟨d1, d2, rfl, p1, p2⟩ := pr.two
  simp only [opSem] at e
  unfold dMax2 at e
  split at e
  · cases e
    have h1 := p1.int
    have h2 := p2.int
    subst h1 h2
    exact call_max2 hc pins s σ H _ us Q I r ⟨_, _, rfl, k _ _ _ (.val sub (.int _))⟩
  · cases e
end
end PD

set_option Elab.async false
set_option linter.all false
set_option maxRecDepth 100000
/-! PD7: items, slices, methods, str, isinstance. -/
namespace PD
open PySem PySem.Spec L2

section
variable {N : Nm} {X : Cx}
theorem atI_rep {K : PySem.W.Frag} {φ : List Addr} {F : Hp} {ds : List D} {xs : List V} {i : Int} {d : D} (r : Reps N K φ F ds xs) (h : atI ds i = some d) : ∃ v, atI xs i = some v ∧ Rep N K φ F d v := by
  unfold atI at h ⊢
  rw [← r.length]
  cases q : ixN ds.length i with
  | none => rw [q] at h; cases h
  | some j =>
    rw [q] at h
    obtain ⟨v, e, r'⟩ := r.get (i := j) (d := d) (by simpa using h)
    exact ⟨v, by simpa using e, r'⟩
theorem ix_dict (hu : X.A.units + 1 < cLine) : IxR X (fun x y H Q => ∃ a v, x = .ref a ∧ DGet H a y (some v) ∧ Q v H) := by
  intro value slice pins s σ H x y v u Q I rx ry h hs
  obtain ⟨a, z, rfl, g, q⟩ := h
  cases rx
  have hT : s.TypeIs (.ref a) "dict" := dict_typeIs I g
  have h2 : wpAny (model X.prog X.w) X.A (getItem (.ref a) u) (EP X pins σ Q) X.xe s := d_getItem hu I g ry fun w' s3 I3 rw' => ⟨z, H, I3, rw', q⟩
  unfold PyProof.Rows.subscriptTail
  refine wpAny_bind ?_
  rw [getitemInPython_of_ne hT.not_modules]
  refine wpAny_bind (wpAny_specialOf hT PySem.F.slot_dict_getitem.lookup ?_)
  have fin : wpAny (model X.prog X.w) X.A (subscripted slice false (.ref a) u) (fun r s₃ => wpAny (model X.prog X.w) X.A (letTemporaryGo value (.ref a) r >>= fun _ => pure r) (EP X pins σ Q) X.xe s₃) X.xe s := by
    rw [hs]
    exact wpAny_operating (wpAny_mono h2 (fun r s₃ h₃ => wpAny_bind (wpAny_letTemporaryGo (wpAny_pure h₃))) fun _ _ x => x)
  first
    | exact wpAny_pure (wpAny_bind fin)
    | exact wpAny_bind (wpAny_pure (wpAny_bind fin))
    | exact wpAny_bind fin
theorem match_some {K : PySem.W.Frag} {φ : List Addr} {F : Hp} {d : D} {o2 : Option V} {o1 : Option D} (e : o1 = some d) {N : Nm} (h : Mat N K φ F o1 o2) : ∃ v, o2 = some v ∧ Rep N K φ F d v := by
  subst e
  cases o2 with
  | none => exact h.elim
  | some v => exact ⟨v, rfl, h⟩
theorem o_item (hu : X.A.units + 1 < cLine) : IxR X (r2 N X .item) := by
  intro value slice pins s σ H x y v u Q I rx ry h hs
  obtain ⟨φ, F, ds, fl, d, sub, pr, e, k⟩ := h
  obtain ⟨d1, d2, rfl, p1, p2⟩ := pr.two
  simp only [opSem, sv] at e
  cases q : dItem d1 d2 with
  | none => rw [q] at e; cases e
  | some z =>
    rw [q] at e
    cases e
    unfold dItem at q
    split at q
    · obtain ⟨a, xs, rfl, g1, g2, g3⟩ := p1.lst sub
      have hy := p2.int
      subst hy
      obtain ⟨w, e1, r1⟩ := atI_rep g3 q
      exact ix_list value slice pins s σ H _ _ v u Q I rx ry ⟨a, xs, _, w, rfl, rfl, .of g1, e1, k _ _ _ (.val sub r1)⟩ hs
    · obtain ⟨a, xs, rfl, g1, g2, g3⟩ := p1.tup sub
      have hy := p2.int
      subst hy
      obtain ⟨w, e1, r1⟩ := atI_rep g3 q
      exact ix_tup value slice pins s σ H _ _ v u Q I rx ry ⟨a, xs, _, w, rfl, rfl, .of (sub _ _ g1), e1, k _ _ _ (.val sub r1)⟩ hs
    · obtain ⟨a, xs, rfl, g1, g2, g3⟩ := p1.ctup sub
      have hy := p2.int
      subst hy
      obtain ⟨w, e1, r1⟩ := atI_rep g3 q
      exact ix_tup value slice pins s σ H _ _ v u Q I rx ry ⟨a, xs, _, w, rfl, rfl, SqT.le sub g1, e1, k _ _ _ (.val sub r1)⟩ hs
    · obtain ⟨a, rfl, g1⟩ := p1.scr sub
      have hy := p2.int
      subst hy
      rename_i ns i
      cases q2 : atI ns i with
      | none => rw [q2] at q; cases q
      | some z' =>
        rw [q2] at q
        cases q
        have e1 : atI (ns.map V.int) i = some (.int z') := by
          unfold atI at q2 ⊢
          rw [List.length_map]
          cases q3 : ixN ns.length i with
          | none => rw [q3] at q2; cases q2
          | some j =>
            rw [q3] at q2
            have q2' : ns[j]? = some z' := q2
            show (ns.map V.int)[j]? = _
            rw [List.getElem?_map, q2']; rfl
        exact ix_list value slice pins s σ H _ _ v u Q I rx ry ⟨a, _, _, _, rfl, rfl, g1, e1, k _ _ _ (.val sub (.int _))⟩ hs
    · split at q
      · rename_i hl
        have hx := p1.str
        have hy := p2.int
        subst hx hy
        rename_i z0 i
        cases q2 : atI z0.cps.toList i with
        | none => rw [q2] at q; cases q
        | some c =>
          rw [q2] at q
          cases q
          exact ix_str value slice pins s σ H _ _ v u Q I rx ry ⟨_, _, c, rfl, rfl, by rw [line_eq]; exact hl, q2, k _ _ _ (.val sub (.str _))⟩ hs
      · cases q
    · exact (no_cdk p1).elim
    · have hy := p2.str
      subst hy
      obtain ⟨a, o, rfl, g, m⟩ := d_dk sub p1
      obtain ⟨w, e1, r1⟩ := match_some q m
      rw [e1] at g
      exact ix_dict hu value slice pins s σ H _ _ v u Q I rx ry ⟨a, w, rfl, g, k _ _ _ (.val sub r1)⟩ hs
    · split at q
      · rename_i k' ek
        obtain ⟨a, o, rfl, g, m⟩ := d_dt sub p1 p2 ek
        obtain ⟨w, e1, r1⟩ := match_some q m
        rw [e1] at g
        exact ix_dict hu value slice pins s σ H _ _ v u Q I rx ry ⟨a, w, rfl, g, k _ _ _ (.val sub r1)⟩ hs
      · cases q
    · cases q
/-! ### slices -/
theorem cut_rep {K : PySem.W.Frag} {φ : List Addr} {F : Hp} {ds : List D} {xs : List V} {lo hi : Option Int} (r : Reps N K φ F ds xs) : Reps N K φ F (cut ds lo hi) (cutV xs lo hi) := by
  unfold cut cutV
  rw [← r.length]
  exact (r.drop _).take _
theorem o_slice : SlR X (fun x lo hi H Q => ∃ φ F d1 fl d, Le F H ∧ PRep N X.K φ F H d1 x ∧ dSl lo hi d1 = some (fl, d) ∧ ∀ F' H' v, OpRes N X.K φ F H F' H' fl d v → Q v H') := by
  intro pins s σ H x v vl vu lo hi sl Q I rx hs pl pu h
  obtain ⟨φ, F, d1, fl, d, sub, p1, e, k⟩ := h
  unfold dSl at e
  split at e
  · cases e
    obtain ⟨a, xs, rfl, g1, g2, g3⟩ := p1.lst sub
    exact sl_list pins s σ H _ v vl vu lo hi sl Q I rx hs pl pu ⟨a, xs, rfl, .of g1, fun p n => k _ _ _ (.new1 sub n rfl ⟨_, upd_same, Nat.le_trans (cutV_length _ _ _) g2, cut_rep g3⟩)⟩
  · cases e
    obtain ⟨a, rfl, g1⟩ := p1.scr sub
    rename_i ns
    refine sl_list pins s σ H _ v vl vu lo hi sl Q I rx hs pl pu ⟨a, _, rfl, g1, fun p n => k _ _ _ (.new1 sub n rfl ⟨_, upd_same, ?_, ?_⟩)⟩
    · obtain ⟨_, _, _, hz⟩ := I.list g1
      exact Nat.le_trans (cutV_length _ _ _) hz
    · have : cutV (ns.map V.int) lo hi = (cut ns lo hi).map V.int := by
        unfold cutV cut
        rw [List.length_map, List.map_take, List.map_drop]
      rw [this]
      exact reps_ints _
  · split at e
    · rename_i hl
      cases e
      obtain ⟨a, xs, rfl, g1, g2, g3⟩ := p1.tup sub
      refine sl_tup pins s σ H _ v vl vu lo hi sl Q I rx hs pl pu ⟨a, xs, rfl, .of (sub _ _ g1), fun ⟨z1, z2⟩ => ?_, fun p n => k _ _ _ (.newT sub n (Nat.le_trans (cutV_length _ _ _) g2) (cut_rep g3))⟩
      unfold cut at hl
      rw [g3.length, z1, z2] at hl
      rw [List.drop_zero, Nat.sub_zero, List.length_take, g3.length] at hl
      omega
    · cases e
  · split at e
    · rename_i hl
      cases e
      have hx := p1.str
      subst hx
      exact sl_str pins s σ H _ v vl vu lo hi sl Q I rx hs pl pu ⟨_, rfl, by rw [line_eq]; exact hl, k _ _ _ (.val sub (.str _))⟩
    · cases e
  · cases e
/-! ### str(x) -/
theorem c_str : CallR X (.type "str") (fun xs H Q => ∃ x, xs = [x] ∧ rOp N X.K .toStr [x] H Q) := by
  intro pins s σ H xs us Q I r q
  obtain ⟨x, rfl, φ, F, ds, fl, d, sub, pr, e, k⟩ := q
  obtain ⟨d1, rfl, p1⟩ := pr.one
  simp only [opSem] at e
  unfold dToStr at e
  split at e
  · split at e
    · rename_i hl
      cases e
      have hx := p1.int
      subst hx
      exact call_str_int pins s σ H _ us Q I r ⟨_, rfl, hl, k _ _ _ (.val sub (.str _))⟩
    · cases e
  · cases e
    have hx := p1.str
    subst hx
    exact SkE.call_str_str pins s σ H _ us Q I r ⟨_, rfl, k _ _ _ (.val sub (.str _))⟩
  · cases e
/-! ### methods -/
abbrev rM (N : Nm) (X : Cx) (o : Op) : V → List V → Hp → VK → Prop := fun x xs H Q => ∃ y, xs = [y] ∧ rOp N X.K o [x, y] H Q
theorem m_split : MtR X "str.split" (rM N X .split) := by
  intro pins s σ H x xs v us Q I rx rs h
  obtain ⟨y, rfl, φ, F, ds, fl, d, sub, pr, e, k⟩ := h
  obtain ⟨d1, d2, rfl, p1, p2⟩ := pr.two
  simp only [opSem] at e
  unfold dSplit at e
  split at e
  · split at e
    · cases e
    · rename_i a b hl
      cases e
      have hx := p1.str
      have hy := p2.str
      subst hx hy
      have h1 : (b.length == 0) = false := by
        cases q : b.length == 0 with
        | false => rfl
        | true => exact absurd (.inl (by simpa using q)) hl
      have h2 : a.length + 2 ≤ sizeLine := by rw [line_eq]; omega
      exact mt_split pins s σ H _ _ v us Q I rx rs ⟨a, b, rfl, rfl, h1, h2, fun p n => k _ _ _ (.new1 sub n rfl ⟨_, upd_same, by rw [List.length_map]; exact Nat.le_trans (PyProof.Rows.split_le a b) h2, reps_strs _⟩)⟩
  · cases e
theorem m_join : MtR X "str.join" (rM N X .join) := by
  intro pins s σ H x xs v us Q I rx rs h
  obtain ⟨y, rfl, φ, F, ds, fl, d, sub, pr, e, k⟩ := h
  obtain ⟨d1, d2, rfl, p1, p2⟩ := pr.two
  simp only [opSem] at e
  unfold dJoin at e
  split at e
  · rename_i a l
    cases q : strsD l with
    | none => rw [q] at e; cases e
    | some ys =>
      rw [q] at e
      have e' : (if (ys.map (·.length)).sum + ys.length * a.length ≤ 16777216 then some (false, D.str (Txt.join a ys)) else none) = some (fl, d) := e
      split at e'
      · rename_i hl
        cases e'
        have hx := p1.str
        subst hx
        obtain ⟨p, xs, rfl, g1, g2, g3⟩ := p2.lst sub
        have := reps_strsD g3 q
        subst this
        exact mt_join pins s σ H _ _ v us Q I rx rs ⟨a, p, ys, rfl, rfl, .inl (.of g1), hl, k _ _ _ (.val sub (.str _))⟩
      · cases e'
  · cases e
end
end PD

set_option Elab.async false
set_option linter.all false
set_option maxRecDepth 100000
/-! PD8: the rules for expressions, form by form. -/
namespace PD
open PySem PySem.Spec L2

section
variable {N : Nm} {W : WX} {X : Cx} {e a b c : Expr} {ia ib ic : E} {pos : Pos}
theorem XR.nv {i : E} (h : XE N W X e (run i)) (hv : ∀ k, i ≠ .var k := by intro k z; cases z) : XR N W X e i := XR.of h hv
theorem xr_int {n : Int} {k : Nat} : XR N W X (.Constant (.int n) k pos) (.int n) := .nv (xe_const pe_int fun _ _ => .int n)
theorem xr_str {n : Str} {k : Nat} : XR N W X (.Constant (.str n) k pos) (.str n) := .nv (xe_const pe_str fun _ _ => .str n)
theorem xr_bl {n : Bool} {k : Nat} : XR N W X (.Constant (.bool n) k pos) (.bl n) := .nv (xe_const pe_bl fun _ _ => .bl n)
theorem xr_non {k : Nat} : XR N W X (.Constant .none k pos) .non := .nv (xe_const pe_non fun _ _ => .non)
theorem xr_name {i : Nat} {x : Str} (hN : X.N[i]? = some x) (hv : Vis X.env.scope x) (hd : (x == ("__debug__" : Str)) = false) (hcd : (x == ("__classdict__" : Str)) = false) : XR N W X (.Name x pos) (.var i) := xr_var (pe_var hN hv hd hcd)
theorem xr_bin {op : Operator} {o : Op} (hop : OpR X (binaryOp op) (r2 N X o)) (ha : XR N W X a ia) (hb : XR N W X b ib) : XR N W X (.BinOp a op b pos) (.op o [ia, ib]) :=
  .nv (PE.imp (pe_op hop ha.xo hb.xo) fun σ H Q h => red2 h)
theorem xr_cmp {op : CmpOp} {o : Op} (hop : OpR X (compareOp op) (r2 N X o)) (ha : XR N W X a ia) (hb : XR N W X b ib) (hm : behindInMarks op b = false) : XR N W X (.Compare a [op] [b] pos) (.op o [ia, ib]) :=
  .nv (PE.imp (pe_cmpR hop ha.xo hb.xo hm) fun σ H Q h => red2 h)
/-! ### tests -/
theorem post_asB {Ω : Wd} {ρ : List Slot} {σ : L2.St} {H : Hp} {K : PySem.W.Frag} {Q : Bool → Hp → Prop} {r : Out (Bool × D)} (h : Post N K W RB Ω ρ σ H Q (asB r)) : Post N K W (RE N K σ) Ω ρ σ H (fun v H' => ∃ b, v = .bl b ∧ Q b H') r := by
  refine Post.bind h fun ρ1 st1 p Ω1 H1 v he S t r1 q => ?_
  obtain ⟨fl, d⟩ := p
  cases d <;> try exact q.elim
  rename_i b
  refine ⟨b, ?_, q Ω1 H1 b S t rfl⟩
  rcases r1 with ⟨_, r1⟩ | ⟨_, r1, _⟩
  · cases r1; rfl
  · cases r1
theorem tx_asB {i : E} {K : PySem.W.Frag} {σ : L2.St} {H : Hp} {Q : Bool → Hp → Prop} (h : tX N K W (fun _ => RB) (fun ρ st => asB (run i ρ st)) σ H Q) : tX N K W (RE N K) (run i) σ H (fun v H' => ∃ b, v = .bl b ∧ Q b H') := by
  obtain ⟨Ω, ρ, st, S, q⟩ := h
  exact ⟨Ω, ρ, st, S, post_asB q⟩
/-- a test by the little language -/
abbrev XTi (N : Nm) (W : WX) (X : Cx) (e : Expr) (i : E) : Prop := XT N W X e (fun ρ st => asB (run i ρ st))
theorem xt_cmp {op : CmpOp} {o : Op} (hop : OpR X (compareOp op) (r2 N X o)) (ha : XR N W X a ia) (hb : XR N W X b ib) (hm : behindInMarks op b = false) : XTi N W X (.Compare a [op] [b] pos) (.op o [ia, ib]) :=
  PT.imp (pt_cmpR hop ha.xo hb.xo hm) fun σ H Q h => red2 (tx_asB h)
theorem xt_val {i : E} (h : XE N W X e (run i)) (he : ∀ whole, isTrue e X.env whole = (do let v ← whole; standAt e.pos; holding [v] (truthy v))) : XTi N W X e i :=
  PT.imp (pt_val h he) fun σ H Q h => tx_asB h
theorem Post.mono {α β : Type} {K : PySem.W.Frag} {R : Wd → List Slot → Hp → Hp → α → β → Prop} {Ω : Wd} {ρ : List Slot} {σ : L2.St} {H : Hp} {Q Q' : β → Hp → Prop} {c : Out α} (h : Post N K W R Ω ρ σ H Q c) (m : ∀ b H', Q b H' → Q' b H') : Post N K W R Ω ρ σ H Q' c := by
  cases c with
  | ok ρ' st' a => exact fun Ω' H' b S t r => m _ _ (h Ω' H' b S t r)
  | exc e ρ' st' => exact h
  | stuck => exact h
theorem tX.mono {α β : Type} {K : PySem.W.Frag} {R : L2.St → Wd → List Slot → Hp → Hp → α → β → Prop} {c : Sm α} {σ : L2.St} {H : Hp} {Q Q' : β → Hp → Prop} (h : tX N K W R c σ H Q) (m : ∀ b H', Q b H' → Q' b H') : tX N K W R c σ H Q' := by
  obtain ⟨Ω, ρ, st, S, q⟩ := h
  exact ⟨Ω, ρ, st, S, q.mono m⟩
/-- is None -/
theorem xr_isN {k : Nat} {p2 : Pos} (ha : XR N W X a ia) : XR N W X (.Compare a [.Is] [.Constant .none k p2] pos) (.op .isN [ia]) :=
  .nv (PE.imp (pe_cmpR o_isN ha.xo (tb := tC .non) pe_non (nomark _)) fun σ H Q h => (red1 h).mono fun x H1 q => ⟨rfl, q⟩)
theorem xr_notN {k : Nat} {p2 : Pos} (ha : XR N W X a ia) : XR N W X (.Compare a [.IsNot] [.Constant .none k p2] pos) (.op .notN [ia]) :=
  .nv (PE.imp (pe_cmpR o_notN ha.xo (tb := tC .non) pe_non (nomark _)) fun σ H Q h => (red1 h).mono fun x H1 q => ⟨rfl, q⟩)
theorem xt_isN {k : Nat} {p2 : Pos} (ha : XR N W X a ia) : XTi N W X (.Compare a [.Is] [.Constant .none k p2] pos) (.op .isN [ia]) :=
  PT.imp (pt_cmpR o_isN ha.xo (tb := tC .non) pe_non (nomark _)) fun σ H Q h => (red1 (tx_asB h)).mono fun x H1 q => ⟨rfl, q⟩
theorem xt_notN {k : Nat} {p2 : Pos} (ha : XR N W X a ia) : XTi N W X (.Compare a [.IsNot] [.Constant .none k p2] pos) (.op .notN [ia]) :=
  PT.imp (pt_cmpR o_notN ha.xo (tb := tC .non) pe_non (nomark _)) fun σ H Q h => (red1 (tx_asB h)).mono fun x H1 q => ⟨rfl, q⟩
/-! ### not, and, or, if-else -/
theorem post_bindB {α β : Type} {K : PySem.W.Frag} {R : L2.St → Wd → List Slot → Hp → Hp → α → β → Prop} {Ω : Wd} {ρ : List Slot} {st : List D} {σ : L2.St} {H : Hp} {Q : β → Hp → Prop} {i : E} {f : List Slot → List D → Bool → Out α} (S : StR N K Ω ρ st σ H)
    (hR : ∀ {Ω1 : Wd} {ρ1 : List Slot} {H1 : Hp}, Step Ω ρ σ H Ω1 ρ1 σ H1 → ∀ Ω' ρ' H' a b, R σ Ω' ρ' H1 H' a b → R σ Ω' ρ' H H' a b)
    (h : Post N K W (R σ) Ω ρ σ H Q ((asB (run i ρ st)).bind f)) : tX N K W (fun _ => RB) (fun ρ st => asB (run i ρ st)) σ H fun b H1 => tX N K W R (fun ρ st => f ρ st b) σ H1 Q :=
  ⟨Ω, ρ, st, S, Post.bind h fun ρ1 st1 b Ω1 H1 b' _ S1 t1 e q => by subst e; exact ⟨Ω1, ρ1, st1, S1, q.shift t1 (hR t1)⟩⟩
theorem reR {K : PySem.W.Frag} {Ω : Wd} {ρ : List Slot} {σ : L2.St} {H : Hp} : ∀ {Ω1 : Wd} {ρ1 : List Slot} {H1 : Hp}, Step Ω ρ σ H Ω1 ρ1 σ H1 → ∀ Ω' ρ' H' a b, RE N K σ Ω' ρ' H1 H' a b → RE N K σ Ω' ρ' H H' a b := fun t => RE.shift t
theorem val_bindB {α β : Type} {K : PySem.W.Frag} {R : L2.St → Wd → List Slot → Hp → Hp → α → β → Prop} {Ω : Wd} {ρ : List Slot} {st : List D} {σ : L2.St} {H : Hp} {Q : β → Hp → Prop} {i : E} {f : List Slot → List D → Bool → Out α} (S : StR N K Ω ρ st σ H)
    (hR : ∀ {Ω1 : Wd} {ρ1 : List Slot} {H1 : Hp}, Step Ω ρ σ H Ω1 ρ1 σ H1 → ∀ Ω' ρ' H' a b, R σ Ω' ρ' H1 H' a b → R σ Ω' ρ' H H' a b)
    (h : Post N K W (R σ) Ω ρ σ H Q ((asB (run i ρ st)).bind f)) : tX N K W (RE N K) (run i) σ H fun v H1 => ∃ b, v = .bl b ∧ tX N K W R (fun ρ st => f ρ st b) σ H1 Q :=
  ⟨Ω, ρ, st, S, post_asB (Post.bind h fun ρ1 st1 b Ω1 H1 b' _ S1 t1 e q => by subst e; exact ⟨Ω1, ρ1, st1, S1, q.shift t1 (hR t1)⟩)⟩
theorem tx_ok {K : PySem.W.Frag} {d : D} {v : V} {σ : L2.St} {H : Hp} {Q : VK} (h : tX N K W (RE N K) (fun ρ st => .ok ρ st (false, d)) σ H Q) (r : ∀ (φ : List Addr) (F : Hp), Rep N K φ F d v) : Q v H := by
  obtain ⟨Ω, ρ, st, S, q⟩ := h
  exact q Ω H v S (Step.refl _ _ _ _) (.inl ⟨rfl, r _ _⟩)
theorem tx_okB {K : PySem.W.Frag} {b : Bool} {σ : L2.St} {H : Hp} {Q : Bool → Hp → Prop} (h : tX N K W (fun _ => RB) (fun ρ st => .ok ρ st b) σ H Q) : Q b H := by
  obtain ⟨Ω, ρ, st, S, q⟩ := h
  exact q Ω H b S (Step.refl _ _ _ _) rfl
theorem xr_not (h : XR N W X a ia) : XR N W X (.UnaryOp .Not a pos) (.not_ ia) :=
  .nv (PE.imp (pe_not h.xe) fun σ H Q ⟨Ω, ρ, st, S, q⟩ => (val_bindB (R := RE N X.K) S reR q).mono fun v H1 ⟨b, e, q1⟩ => ⟨b, e, tx_ok (v := .bl (!b)) q1 fun _ _ => .bl _⟩)
theorem xr_and {rest : List Expr} (h : XR N W X a ia) (g : XR N W X (.BoolOp .And (b :: rest) pos) ib) : XR N W X (.BoolOp .And (a :: b :: rest) pos) (.and_ ia ib) :=
  .nv (PE.imp (pe_and h.xe g.xe) fun σ H Q ⟨Ω, ρ, st, S, q⟩ => (val_bindB (R := RE N X.K) S reR q).mono fun v H1 ⟨b, e, q1⟩ => ⟨b, e, by
    cases b with
    | true => exact q1
    | false => exact tx_ok (v := .bl false) q1 fun _ _ => .bl _⟩)
theorem xr_or {rest : List Expr} (h : XR N W X a ia) (g : XR N W X (.BoolOp .Or (b :: rest) pos) ib) : XR N W X (.BoolOp .Or (a :: b :: rest) pos) (.or_ ia ib) :=
  .nv (PE.imp (pe_or h.xe g.xe) fun σ H Q ⟨Ω, ρ, st, S, q⟩ => (val_bindB (R := RE N X.K) S reR q).mono fun v H1 ⟨b, e, q1⟩ => ⟨b, e, by
    cases b with
    | true => exact tx_ok (v := .bl true) q1 fun _ _ => .bl _
    | false => exact q1⟩)
theorem xr_one {op : BoolOp} (h : XE N W X a (run ia)) (hv : ∀ k, ia ≠ .var k) : XR N W X (.BoolOp op [a] pos) ia := XR.of (pe_one h) hv
theorem xr_one' {op : BoolOp} (h : XR N W X a ia) : XR N W X (.BoolOp op [a] pos) ia := ⟨pe_one h.xe, pe_one h.xo⟩
theorem xr_ite (hc : XTi N W X c ic) (ha : XR N W X a ia) (hb : XR N W X b ib) : XR N W X (.IfExp c a b pos) (.ite ic ia ib) :=
  .nv (PE.imp (pe_ifExp hc ha.xe hb.xe) fun σ H Q ⟨Ω, ρ, st, S, q⟩ => (post_bindB (R := RE N X.K) S reR q).mono fun b H1 q1 => by
    cases b with
    | true => exact q1
    | false => exact q1)
/-! ### and, or, not as tests -/
abbrev XW (N : Nm) (W : WX) (X : Cx) (e : Expr) (i : E) : Prop := PW X e (tX N X.K W (fun _ => RB) (fun ρ st => asB (run i ρ st)))
theorem asB_bind {r : Out Bool} {f : List Slot → List D → Bool → Out (Bool × D)} : asB (r.bind f) = r.bind fun ρ st b => asB (f ρ st b) := by cases r <;> rfl
theorem rbR {Ω : Wd} {ρ : List Slot} {σ : L2.St} {H : Hp} : ∀ {Ω1 : Wd} {ρ1 : List Slot} {H1 : Hp}, Step Ω ρ σ H Ω1 ρ1 σ H1 → ∀ (Ω' : Wd) (ρ' : List Slot) (H' : Hp) (a b : Bool), RB Ω' ρ' H1 H' a b → RB Ω' ρ' H H' a b := fun _ _ _ _ _ _ h => h
theorem xw_and {rest : List Expr} (h : XTi N W X a ia) (g : XW N W X (.BoolOp .And (b :: rest) pos) ib) : XW N W X (.BoolOp .And (a :: b :: rest) pos) (.and_ ia ib) :=
  PW.imp (pw_and h g) fun σ H Q ⟨Ω, ρ, st, S, q⟩ => by
    have q' : Post N X.K W RB Ω ρ σ H Q (asB ((asB (run ia ρ st)).bind fun ρ st c => if c then run ib ρ st else .ok ρ st (false, .bl false))) := q
    rw [asB_bind] at q'
    refine (post_bindB (R := fun _ => RB) S rbR q').mono fun b H1 q1 => ?_
    cases b with
    | true => exact q1
    | false => exact tx_okB (b := false) q1
theorem xw_or {rest : List Expr} (h : XTi N W X a ia) (g : XW N W X (.BoolOp .Or (b :: rest) pos) ib) : XW N W X (.BoolOp .Or (a :: b :: rest) pos) (.or_ ia ib) :=
  PW.imp (pw_or h g) fun σ H Q ⟨Ω, ρ, st, S, q⟩ => by
    have q' : Post N X.K W RB Ω ρ σ H Q (asB ((asB (run ia ρ st)).bind fun ρ st c => if c then .ok ρ st (false, .bl true) else run ib ρ st)) := q
    rw [asB_bind] at q'
    refine (post_bindB (R := fun _ => RB) S rbR q').mono fun b H1 q1 => ?_
    cases b with
    | true => exact tx_okB (b := true) q1
    | false => exact q1
theorem xw_and1 (h : XTi N W X a ia) : XW N W X (.BoolOp .And [a] pos) ia := pw_and1 h
theorem xw_or1 (h : XTi N W X a ia) : XW N W X (.BoolOp .Or [a] pos) ia := pw_or1 h
theorem xt_not (h : XTi N W X a ia) : XTi N W X (.UnaryOp .Not a pos) (.not_ ia) :=
  PT.imp (pt_not h) fun σ H Q ⟨Ω, ρ, st, S, q⟩ => by
    have q' : Post N X.K W RB Ω ρ σ H Q (asB ((asB (run ia ρ st)).bind fun ρ st c => .ok ρ st (false, .bl (!c)))) := q
    rw [asB_bind] at q'
    exact (post_bindB (R := fun _ => RB) S rbR q').mono fun b H1 q1 => tx_okB (b := !b) q1
/-! ### subscripts -/
theorem xr_item (hu : X.A.units + 1 < cLine) (ha : XR N W X a ia) (hb : XR N W X b ib) (hs : PlainIx b) : XR N W X (.Subscript a b pos) (.op .item [ia, ib]) :=
  .nv (PE.imp (pe_ix (o_item hu) ha.xo hb.xo hs) fun σ H Q h => red2 h)
theorem asInt_some {d : D} {i : Int} (h : asInt d = some i) : d = .int i := by cases d <;> first | (cases h; rfl) | cases h
theorem xr_slLo {p2 : Pos} (ha : XR N W X a ia) (hb : XR N W X b ib) : XR N W X (.Subscript a (.Slice (some b) none none p2) pos) (.op .slLo [ia, ib]) :=
  .nv (PE.imp (pe_slice (o_slice (N := N)) ha.xo (po_some hb.xo) po_none) fun σ H Q h => (red2 h).mono fun x H1 q => q.mono fun y H2 ⟨φ, F, ds, fl, d, sub, pr, e, k⟩ => by
    obtain ⟨d1, d2, rfl, p1, p2⟩ := pr.two
    obtain ⟨i, ei, e⟩ := Option.bind_eq_some_iff.mp (show dSlLo d1 d2 = some (fl, d) from e)
    have := asInt_some ei
    subst this
    exact ⟨i, p2.int, φ, F, d1, fl, d, sub, p1, e, k⟩)
theorem xr_slHi {p2 : Pos} (ha : XR N W X a ia) (hb : XR N W X b ib) : XR N W X (.Subscript a (.Slice none (some b) none p2) pos) (.op .slHi [ia, ib]) :=
  .nv (PE.imp (pe_slice (o_slice (N := N)) ha.xo po_none (po_some hb.xo)) fun σ H Q h => (red2 h).mono fun x H1 q => q.mono fun y H2 ⟨φ, F, ds, fl, d, sub, pr, e, k⟩ => by
    obtain ⟨d1, d2, rfl, p1, p2⟩ := pr.two
    obtain ⟨i, ei, e⟩ := Option.bind_eq_some_iff.mp (show dSlHi d1 d2 = some (fl, d) from e)
    have := asInt_some ei
    subst this
    exact ⟨i, p2.int, φ, F, d1, fl, d, sub, p1, e, k⟩)
theorem xr_slLoHi {p2 : Pos} (ha : XR N W X a ia) (hb : XR N W X b ib) (hc : XR N W X c ic) : XR N W X (.Subscript a (.Slice (some b) (some c) none p2) pos) (.meth .slLoHi [ia, ib] [ic]) :=
  .nv (PE.imp (pe_slice (o_slice (N := N)) ha.xo (po_some hb.xo) (po_some hc.xo)) fun σ H Q h => (redM21 h).mono fun x H1 q => q.mono fun y H2 ⟨⟨φ, F, d1, d2, sub, p1, p2, hr⟩, q⟩ => by
    obtain ⟨i, rfl⟩ : ∃ i, d2 = .int i := by cases d2 <;> first | exact ⟨_, rfl⟩ | cases hr
    refine ⟨i, p2.int, q.mono fun z H3 ⟨φ, F, ds, fl, d, sub, pr, e, k⟩ => ?_⟩
    have hy := p2.int
    obtain ⟨d1, d2, d3, rfl, p1, p2, p3⟩ := pr.three
    obtain ⟨i', ei, e⟩ := Option.bind_eq_some_iff.mp (show dSlLoHi d1 d2 d3 = some (fl, d) from e)
    obtain ⟨j, ej, e⟩ := Option.bind_eq_some_iff.mp e
    have h1 := asInt_some ei
    have h2 := asInt_some ej
    subst h1 h2
    have := p2.int
    rw [hy] at this
    cases this
    exact ⟨j, p3.int, φ, F, d1, fl, d, sub, p1, e, k⟩)
/-! ### built-ins by their names -/
theorem xr_callB1 {x : Str} {id : String} {o : Op} {p : Pos} (hc : CallR X (.builtin id) (fun xs H Q => ∃ x, xs = [x] ∧ rOp N X.K o [x] H Q)) (hg : Gl X x) (hm : X.mg x = none) (hv : bootBuiltins x = some (.builtin id)) (ha : XR N W X a ia)
    (hs : starEach [a] X.env = [(false, eval a X.env)]) (hn : x ≠ "__name__" := by decide) (hdb : (x == ("__debug__" : Str)) = false := by decide) : XR N W X (.Call (.Name x p) [a] [] pos) (.op o [ia]) :=
  .nv (PE.imp (pe_callB hc hg hm hv (pa_cons ha.xo pa_nil hs) hn hdb hs (by rfl)) fun σ H Q h => (red1 h).mono fun y H1 q => ⟨y, rfl, q⟩)
theorem xr_callT1 {x : Str} {T : String} {o : Op} {p : Pos} (hc : CallR X (.type T) (fun xs H Q => ∃ x, xs = [x] ∧ rOp N X.K o [x] H Q)) (hg : Gl X x) (hm : X.mg x = none) (hv : bootBuiltins x = some (.type T)) (ha : XR N W X a ia)
    (hs : starEach [a] X.env = [(false, eval a X.env)]) (hn : x ≠ "__name__" := by decide) (hdb : (x == ("__debug__" : Str)) = false := by decide) : XR N W X (.Call (.Name x p) [a] [] pos) (.op o [ia]) :=
  .nv (PE.imp (pe_callTy hc hg hm hv (pa_cons ha.xo pa_nil hs) hn hdb hs (by rfl)) fun σ H Q h => (red1 h).mono fun y H1 q => ⟨y, rfl, q⟩)
theorem xr_callB2 {x : Str} {id : String} {o : Op} {p : Pos} (hc : CallR X (.builtin id) (fun xs H Q => ∃ x y, xs = [x, y] ∧ rOp N X.K o [x, y] H Q)) (hg : Gl X x) (hm : X.mg x = none) (hv : bootBuiltins x = some (.builtin id)) (ha : XR N W X a ia) (hb : XR N W X b ib)
    (hs : starEach [a, b] X.env = [(false, eval a X.env), (false, eval b X.env)]) (hs2 : starEach [b] X.env = [(false, eval b X.env)]) (hn : x ≠ "__name__" := by decide) (hdb : (x == ("__debug__" : Str)) = false := by decide) : XR N W X (.Call (.Name x p) [a, b] [] pos) (.op o [ia, ib]) :=
  .nv (PE.imp (pe_callB hc hg hm hv (pa_cons ha.xo (pa_cons hb.xo pa_nil hs2) (by rw [hs, hs2])) hn hdb (by rw [hs, hs2]) (by rw [hs2]; rfl)) fun σ H Q h => (red2 h).mono fun y H1 q => q.mono fun z H2 q => ⟨y, z, rfl, q⟩)
/-! ### methods of built-ins -/
theorem xr_meth1 {T id : String} {name : Str} {o : Op} {apos : Pos} (pa : PlainAttrs T) (slot : PySem.Slot T name id) (hty : typeOf (.builtin id) = pure (.type "method_descriptor")) (hm : MtR X id (rM N X o))
    (hr : ∀ φ F d x H, Le F H → PRep N X.K φ F H d x → recv o [d] = true → tyV X.K T x H) (ha : XR N W X a ia) (hb : XR N W X b ib)
    (hs : starEach [b] X.env = [(false, eval b X.env)]) (hbase : attributeBase a name X.env (eval a X.env) = eval a X.env) (hline : (apos.endLine == pos.line) = true) : XR N W X (.Call (.Attribute a name apos) [b] [] pos) (.meth o [ia] [ib]) :=
  .nv (PE.imp (pe_bm pa slot hty hm ha.xo (pa_cons hb.xo pa_nil hs) hbase (by rw [hs]; rfl) hline hs (by rfl)) fun σ H Q h => (redM h).mono fun y H1 ⟨⟨φ, F, d, sub, p, r⟩, q⟩ => ⟨hr φ F d y H1 sub p r, q.mono fun z H2 q => ⟨z, rfl, q⟩⟩)
theorem recv_str {o : Op} (ho : o = .split ∨ o = .join) : ∀ φ F d x H, Le F H → PRep N X.K φ F H d x → recv o [d] = true → tyV X.K "str" x H := fun φ F d x H _ p r => by
  obtain ⟨z, rfl⟩ : ∃ z, d = .str z := by
    rcases ho with rfl | rfl <;> (cases d <;> first | exact ⟨_, rfl⟩ | cases r)
  have := p.str
  subst this
  exact rfl
theorem recv_lst {o : Op} (ho : o = .count ∨ o = .index) : ∀ φ F d x H, Le F H → PRep N X.K φ F H d x → recv o [d] = true → tyV X.K "list" x H := fun φ F d x H s p r => by
  obtain ⟨z, rfl⟩ : ∃ z, d = .lst z := by
    rcases ho with rfl | rfl <;> (cases d <;> first | exact ⟨_, rfl⟩ | cases r)
  obtain ⟨a, xs, rfl, g1, _⟩ := p.lst s
  exact .inl ⟨rfl, xs, .of g1⟩
theorem xr_get2 (hu : X.A.units + 1 < cLine) {apos : Pos} (ha : XR N W X a ia) (hb : XR N W X b ib) (hc : XR N W X c ic) (m : M2 X a "get" apos b c pos) : XR N W X (.Call (.Attribute a "get" apos) [b, c] [] pos) (.dget [ia] [ib] ic) :=
  .nv (PE.imp (pe_dget2 hu ha.xo hb.xo hc.xd m) fun σ H Q h => by
    obtain ⟨Ω, ρ, st, S, q⟩ := h
    refine ⟨Ω, ρ, st, S, ?_⟩
    change Post N X.K W (RE N X.K σ) Ω ρ σ H Q ((runO [ia] ρ st).bind _) at q
    rw [runO_one] at q
    cases h1 : runO1 ia ρ st with
    | stuck => rw [h1] at q; exact q.elim
    | exc e1 ρ1 st1 => rw [h1] at q; exact q
    | ok ρ1 st1 o1 =>
      rw [h1] at q
      intro Ω1 H1 x S1 t1 r1
      change Post N X.K W (RE N X.K σ) Ω ρ σ H Q (match rezs ρ1 st1 [o1] with | some ds => if recv .get2 ds = true then (runO [ib] ρ1 st1).bind _ else .stuck | none => .stuck) at q
      unfold rezs at q
      cases g1 : PD.rez ρ1 st1 o1 with
      | none => rw [g1] at q; exact q.elim
      | some d =>
        rw [g1] at q
        change Post N X.K W (RE N X.K σ) Ω ρ σ H Q (if recv .get2 [d] = true then _ else .stuck) at q
        cases hr : recv .get2 [d] with
        | false => rw [hr] at q; exact q.elim
        | true =>
          rw [hr] at q
          have p := S1.rez r1 g1
          have sub := S1.sub
          have hd : ∃ a, x = .ref a ∧ IsD H1 a := by
            cases d <;> try (cases hr; done)
            · obtain ⟨a, kvs, e, g, _⟩ := p.dk sub
              exact ⟨a, e, .inl ⟨kvs, .inl g⟩⟩
            · obtain ⟨a, kvs, e, g, _⟩ := p.dt sub
              exact ⟨a, e, .inr ⟨kvs, .inl g⟩⟩
          obtain ⟨a, rfl, hd⟩ := hd
          refine ⟨a, rfl, hd, Ω1, ρ1, st1, S1, ?_⟩
          change Post N X.K W (RE N X.K σ) Ω ρ σ H Q ((runO [ib] ρ1 st1).bind _) at q
          rw [runO_one] at q
          cases h2 : runO1 ib ρ1 st1 with
          | stuck => rw [h2] at q; exact q.elim
          | exc e1 ρ2 st2 => rw [h2] at q; exact fun Ω' H' S' t' => q Ω' H' S' (t1.trans t')
          | ok ρ2 st2 o2 =>
            rw [h2] at q
            intro Ω2 H2 y S2 t2 r2
            refine ⟨Ω2, ρ2, st2, S2, ?_⟩
            change Post N X.K W (RE N X.K σ) Ω ρ σ H Q ((run ic ρ2 st2).bind fun ρ st p => match rezs ρ st [o1, o2] with | some [d, k] => ofOp ρ st (sv (get2 d k p.2)) | _ => .stuck) at q
            show Post N X.K W (RD N X.K) Ω2 ρ2 σ H2 _ ((run ic ρ2 st2).bind fun ρ st p => .ok ρ st p.2)
            cases h3 : run ic ρ2 st2 with
            | stuck => rw [h3] at q; exact q.elim
            | exc e1 ρ3 st3 => rw [h3] at q; exact fun Ω' H' S' t' => q Ω' H' S' ((t1.trans t2).trans t')
            | ok ρ3 st3 p3 =>
              rw [h3] at q
              intro Ω3 H3 z S3 t3 r3
              have r3' : Rep N X.K Ω3.φ Ω3.F p3.2 z := r3
              change Post N X.K W (RE N X.K σ) Ω ρ σ H Q (match rezs ρ3 st3 [o1, o2] with | some [d, k] => ofOp ρ3 st3 (sv (get2 d k p3.2)) | _ => .stuck) at q
              unfold rezs at q
              cases g1 : PD.rez ρ3 st3 o1 with
              | none => rw [g1] at q; exact q.elim
              | some d1 =>
                rw [g1] at q
                unfold rezs at q
                cases g2 : PD.rez ρ3 st3 o2 with
                | none => rw [g2] at q; exact q.elim
                | some d2 =>
                  rw [g2] at q
                  change Post N X.K W (RE N X.K σ) Ω ρ σ H Q (ofOp ρ3 st3 (sv (get2 d1 d2 p3.2))) at q
                  have p1 := S3.rez ((r1.step t2).step t3) g1
                  have p2 := S3.rez (r2.step t3) g2
                  have fin : ∀ {o : Option V} {oD : Option D}, Mat N X.K Ω3.φ Ω3.F oD o → get2 d1 d2 p3.2 = some (oD.getD p3.2) → Q (o.getD z) H3 := fun {o oD} m e => by
                    rw [e] at q
                    refine q Ω3 H3 _ S3 ((t1.trans t2).trans t3) (.inl ⟨rfl, ?_⟩)
                    cases o <;> cases oD
                    · exact r3'
                    · exact m.elim
                    · exact m.elim
                    · exact m
                  cases d1 <;> try exact q.elim
                  · exact (no_cdk p1).elim
                  · cases d2 <;> try exact q.elim
                    have hy := p2.str
                    subst hy
                    obtain ⟨a', o, e, g, m⟩ := d_dk (k := ‹Str›) S3.sub p1
                    cases e
                    exact ⟨o, g, fin m rfl⟩
                  · cases d2 <;> try exact q.elim
                    rename_i ks vs es
                    cases ek : kOfs es with
                    | none =>
                      have : get2 (.dt ks vs) (.tup es) p3.2 = none := by unfold get2; simp only [ek]
                      rw [this] at q
                      exact q.elim
                    | some k =>
                      obtain ⟨a', o, e, g, m⟩ := d_dt S3.sub p1 p2 ek
                      cases e
                      exact ⟨o, g, fin m (by unfold get2; simp only [ek])⟩)
end
end PD

set_option Elab.async false
set_option linter.all false
set_option maxRecDepth 100000
/-! PD9: displays, argument lists, calls of defs, attributes, instances. -/
namespace PD
open PySem PySem.Spec L2

section
variable {N : Nm} {W : WX} {X : Cx} {e a b c : Expr} {ia ib ic : E} {pos : Pos}
/-! ### several values -/
theorem xv_nil : XV N W X [] (runV []) := PA.imp pa_nil fun σ H Q ⟨Ω, ρ, st, S, q⟩ => q Ω H [] S (Step.refl _ _ _ _) .nil
theorem rdR {K : PySem.W.Frag} {H H1 : Hp} : ∀ (Ω' : Wd) (ρ' : List Slot) (H' : Hp) (a : List D) (b : List V), RV N K Ω' ρ' H1 H' a b → RV N K Ω' ρ' H H' a b := fun _ _ _ _ _ h => h
/-- one value ahead of the others -/
theorem tcons {K : PySem.W.Frag} {c1 : Sm D} {c2 : Sm (List D)} {σ : L2.St} {H : Hp} {Q : List V → Hp → Prop}
    (h : tX N K W (fun _ => RV N K) (fun ρ st => (c1 ρ st).bind fun ρ st d => (c2 ρ st).bind fun ρ st ds => .ok ρ st (d :: ds)) σ H Q) :
    tX N K W (fun _ => RD N K) c1 σ H fun x H1 => tX N K W (fun _ => RV N K) c2 σ H1 fun xs H2 => Q (x :: xs) H2 := by
  obtain ⟨Ω, ρ, st, S, q⟩ := h
  refine ⟨Ω, ρ, st, S, Post.bind q fun ρ1 st1 d Ω1 H1 x _ S1 t1 r1 q1 => ⟨Ω1, ρ1, st1, S1, ?_⟩⟩
  refine Post.bind (q1.shift t1 rdR) fun ρ2 st2 ds Ω2 H2 xs _ S2 t2 r2 q2 => ?_
  exact q2 Ω2 H2 (x :: xs) S2 t2 (.cons (Rep.step r1 t2) r2)
theorem bind_bind {α β γ : Type} {r : Out α} {f : List Slot → List D → α → Out β} {g : List Slot → List D → β → Out γ} : (r.bind f).bind g = r.bind fun ρ st a => (f ρ st a).bind g := by cases r <;> rfl
theorem xv_cons {es : List Expr} {is : List E} (h : XR N W X a ia) (g : XV N W X es (runV is)) (hs : starEach (a :: es) X.env = (false, eval a X.env) :: starEach es X.env) : XV N W X (a :: es) (runV (ia :: is)) :=
  PA.imp (pa_cons h.xd g hs) fun σ H Q ⟨Ω, ρ, st, S, q⟩ => tcons ⟨Ω, ρ, st, S, by
    show Post N X.K W (RV N X.K) Ω ρ σ H Q (((run ia ρ st).bind fun ρ st p => .ok ρ st p.2).bind fun ρ st d => (runV is ρ st).bind fun ρ st ds => .ok ρ st (d :: ds))
    rw [bind_bind]
    exact q⟩
theorem tx_new {K : PySem.W.Frag} {c : Sm (List D)} {mk : List D → D} {o : List V → HO} {fl : Bool} {σ : L2.St} {H : Hp} {Q : VK}
    (hm : ∀ {φ : List Addr} {F H : Hp} {ds : List D} {xs : List V} {p : Addr}, Le F H → H p = none → xs.length ≤ sizeLine → Reps N K φ F ds xs → ∃ F', OpRes N K φ F H F' (upd H p (o xs)) fl (mk ds) (.ref p))
    (h : tX N K W (RE N K) (fun ρ st => (c ρ st).bind fun ρ st ds => .ok ρ st (fl, mk ds)) σ H Q) (hl : ∀ ρ st ρ' st' ds, c ρ st = .ok ρ' st' ds → ds.length ≤ sizeLine) :
    tX N K W (fun _ => RV N K) c σ H fun xs H1 => xs.length ≤ sizeLine ∧ ∀ p, H1 p = none → Q (.ref p) (upd H1 p (o xs)) := by
  obtain ⟨Ω, ρ, st, S, q⟩ := h
  refine ⟨Ω, ρ, st, S, Post.bind q fun ρ1 st1 ds Ω1 H1 xs he S1 t1 r1 q1 => ?_⟩
  have hx : xs.length ≤ sizeLine := by rw [← r1.length]; exact hl _ _ _ _ _ he
  refine ⟨hx, fun p n => ?_⟩
  obtain ⟨F', g⟩ := hm S1.sub n hx r1
  obtain ⟨S2, t2, r2⟩ := S1.opres g
  exact q1 _ _ _ S2 (t1.trans t2) (RE.shift t1 _ _ _ (fl, mk ds) _ r2)
theorem runV_len : ∀ (is : List E) (ρ : List Slot) (st : List D) (ρ' : List Slot) (st' : List D) (ds : List D), runV is ρ st = .ok ρ' st' ds → ds.length = is.length
  | [], ρ, st, ρ', st', ds, h => by cases h; rfl
  | i :: is, ρ, st, ρ', st', ds, h => by
    change (run i ρ st).bind _ = _ at h
    cases h1 : run i ρ st with
    | stuck => rw [h1] at h; cases h
    | exc e1 ρ1 st1 => rw [h1] at h; cases h
    | ok ρ1 st1 p =>
      rw [h1] at h
      change (runV is ρ1 st1).bind _ = _ at h
      cases h2 : runV is ρ1 st1 with
      | stuck => rw [h2] at h; cases h
      | exc e1 ρ1 st1 => rw [h2] at h; cases h
      | ok ρ2 st2 ds2 =>
        rw [h2] at h
        cases h
        rw [List.length_cons, List.length_cons, runV_len is _ _ _ _ _ h2]
theorem xr_tup {es : List Expr} {is : List E} {k : Nat} (h : XV N W X es (runV is)) (hl : is.length ≤ 1000000) : XR N W X (.Tuple es k pos) (.tup is) :=
  .nv (PE.imp (pe_tup h) fun σ H Q h => tx_new (mk := .tup) (o := .tup) (fl := false) (fun s n l r => ⟨_, .newT s n l r⟩) h fun ρ st ρ' st' ds e => by rw [runV_len _ _ _ _ _ _ e, line_eq]; omega)
theorem xr_lst {es : List Expr} {is : List E} (h : XV N W X es (runV is)) (hl : is.length ≤ 1000000) : XR N W X (.List es pos) (.lst is) :=
  .nv (PE.imp (pe_lst h) fun σ H Q h => tx_new (mk := .lst) (o := .lst) (fl := true) (fun s n l r => ⟨_, .new1 s n rfl ⟨_, upd_same, l, r⟩⟩) h fun ρ st ρ' st' ds e => by rw [runV_len _ _ _ _ _ _ e, line_eq]; omega)
theorem xr_dict0 : XR N W X (.Dict [] [] pos) .dict0 :=
  .nv (PE.imp pe_dnewT fun σ H Q ⟨Ω, ρ, st, S, q⟩ p n => by
    obtain ⟨S2, t2, r2⟩ := S.opres (OpRes.new1 (N := N) (K := X.K) (φ := Ω.φ) (d := .dt [] []) (o := .dT []) S.sub n rfl ⟨[], upd_same, rfl, Nat.zero_le _, .nil⟩)
    exact q _ _ _ S2 t2 r2)
/-! ### arguments -/
theorem xd_box {i : Nat} (h : PE X e (tVar i)) : XD N W X e (boxV i) := by
  refine PE.imp h fun σ H Q ⟨Ω, ρ, st, S, q⟩ => ?_
  unfold boxV at q
  cases hs : ρ[i]? with
  | none => rw [hs] at q; exact q.elim
  | some s =>
    rw [hs] at q
    have sl := S.slot i s hs
    cases s with
    | un => exact q.elim
    | lent d => exact q.elim
    | sh d =>
      cases d <;> try exact q.elim
      obtain ⟨x, e1, r⟩ := sl
      exact ⟨x, e1, q Ω H x S (Step.refl _ _ _ _) r⟩
    | own d =>
      obtain ⟨k, p, e1, r, f, g⟩ := sl
      obtain ⟨hi, _⟩ := List.getElem?_eq_some_iff.mp hs
      have pm : Ph Ω.φ (Ω.φ ++ [p]) := ⟨[p], rfl⟩
      have rc : Rep N X.K (Ω.φ ++ [p]) Ω.F (.cell st.length) (.ref p) := .cell (by rw [S.stl, List.getElem?_append_right (Nat.le_refl _)]; simp)
      have old : ∀ {j : Nat} {s : Slot}, (ρ.set i (.sh (.cell st.length)))[j]? = some s → j ≠ i → ρ[j]? = some s := fun {j s} z ne => by rw [List.getElem?_set_ne (Ne.symm ne)] at z; exact z
      have noti : ∀ {j : Nat} {s : Slot}, (ρ.set i (.sh (.cell st.length)))[j]? = some s → held s = true → j ≠ i := fun {j s} z hs' ne => by
        subst ne
        rw [List.getElem?_set_self hi] at z
        cases z; cases hs'
      have np : ∀ {j : Nat} {s : Slot} {q : Addr}, (ρ.set i (.sh (.cell st.length)))[j]? = some s → held s = true → σ[j]? = some (some (V.ref q)) → q ≠ p := fun {j s q} z hs' w' z2 => by
        have ne := noti z hs'
        subst z2
        exact ne (S.dist j i s (.own d) q (old z ne) hs hs' rfl w' e1)
      refine ⟨_, e1, q ⟨Ω.F, Ω.φ ++ [p]⟩ H _ ⟨by rw [List.length_set]; exact S.len, S.sub, fun j s hj => ?_, fun a b s t q h1 h2 h3 h4 h5 h6 => S.dist a b s t q (old h1 (noti h1 h3)) (old h2 (noti h2 h4)) h3 h4 h5 h6, by rw [List.length_append, List.length_append, S.stl]; rfl, fun n a c h1 h2 => ?_, fun a ha => ?_, ?_⟩
        ⟨fun _ _ h => h, pm, fun _ h => .inl h, fun a ha => .inl ?_, fun a o ho _ => ho, fun _ h => h, fun j d' hj => ⟨(lent_set hj (fun _ z => nomatch z)).2, rfl⟩⟩ rc⟩
      · by_cases ej : j = i
        · subst ej
          rw [List.getElem?_set_self hi] at hj
          cases hj
          exact ⟨_, e1, rc⟩
        · have q := S.slot j s (old hj ej)
          cases s with
          | un => trivial
          | sh d => obtain ⟨x, e, q⟩ := q; exact ⟨x, e, Rep.le (fun _ _ h => h) pm _ _ q⟩
          | own d' =>
            obtain ⟨k', p', e', q, f', g'⟩ := q
            refine ⟨k', p', e', q.le (fun _ _ h => h) pm (fun o z => z), f', fun z => ?_⟩
            rcases List.mem_append.mp z with z | z
            · exact g' z
            · exact np hj rfl e' (by simpa using z)
          | lent d' =>
            obtain ⟨k', p', e', q, f', g'⟩ := q
            refine ⟨k', p', e', q.le (fun _ _ h => h) pm (fun o z => z), f', fun z => ?_⟩
            rcases List.mem_append.mp z with z | z
            · exact g' z
            · exact np hj rfl e' (by simpa using z)
      · by_cases hn : n < Ω.φ.length
        · rw [List.getElem?_append_left hn] at h1
          have h1' : n < st.length := by rw [S.stl]; exact hn
          rw [List.getElem?_append_left h1'] at h2
          exact (S.sto n a c h1 h2).le (fun _ _ h => h) pm (fun o z => z)
        · rw [List.getElem?_append_right (Nat.le_of_not_lt hn)] at h1
          rw [List.getElem?_append_right (by rw [S.stl]; exact Nat.le_of_not_lt hn), S.stl] at h2
          cases z : n - Ω.φ.length with
          | zero =>
            rw [z] at h1 h2
            cases h1; cases h2
            exact r.le (fun _ _ h => h) pm (fun o z => z)
          | succ m => rw [z] at h1; cases h1
      · rcases List.mem_append.mp ha with z | z
        · exact S.phF a z
        · have : a = p := by simpa using z
          subst this; exact f
      · refine List.nodup_append.mpr ⟨S.nd, by simp, fun a ha b hb z => ?_⟩
        have : b = p := by simpa using hb
        subst this
        exact g (z ▸ ha)
      · rcases ha with ha | ⟨j, d', h1, h2⟩
        · rcases List.mem_append.mp ha with z | z
          · exact .inl z
          · have : a = p := by simpa using z
            subst this
            exact .inr ⟨i, d, hs, e1⟩
        · exact .inr ⟨j, d', old h1 (noti h1 rfl), h2⟩
theorem xa_nil {rs : List Bool} : XV N W X [] (runA rs []) := PA.imp pa_nil fun σ H Q ⟨Ω, ρ, st, S, q⟩ => by
  have q' : Post N X.K W (RV N X.K) Ω ρ σ H Q (.ok ρ st []) := by cases rs <;> exact q
  exact q' Ω H [] S (Step.refl _ _ _ _) .nil
theorem xa_ref {es : List Expr} {is : List E} {rs : List Bool} {i : Nat} (h : PE X a (tVar i)) (g : XV N W X es (runA rs is)) (hs : starEach (a :: es) X.env = (false, eval a X.env) :: starEach es X.env) : XV N W X (a :: es) (runA (true :: rs) (.var i :: is)) :=
  PA.imp (pa_cons (xd_box (N := N) (W := W) h) g hs) fun σ H Q h => tcons h
theorem runA_val (i : E) (is : List E) (rs : List Bool) (ρ : List Slot) (st : List D) : runA (false :: rs) (i :: is) ρ st = (run i ρ st).bind fun ρ st p => (runA rs is ρ st).bind fun ρ st ds => .ok ρ st (p.2 :: ds) := by
  cases i <;> rfl
theorem xa_val {es : List Expr} {is : List E} {rs : List Bool} (h : XR N W X a ia) (g : XV N W X es (runA rs is)) (hs : starEach (a :: es) X.env = (false, eval a X.env) :: starEach es X.env) : XV N W X (a :: es) (runA (false :: rs) (ia :: is)) :=
  PA.imp (pa_cons h.xd g hs) fun σ H Q ⟨Ω, ρ, st, S, q⟩ => tcons ⟨Ω, ρ, st, S, by
    rw [runA_val] at q
    show Post N X.K W (RV N X.K) Ω ρ σ H Q (((run ia ρ st).bind fun ρ st p => .ok ρ st p.2).bind fun ρ st d => (runA rs is ρ st).bind fun ρ st ds => .ok ρ st (d :: ds))
    rw [bind_bind]
    exact q⟩
end
end PD

set_option Elab.async false
set_option linter.all false
set_option maxRecDepth 100000
/-! PD10: calls of defs and methods, attributes, new instances. -/
namespace PD
open PySem PySem.Spec L2

/-- what a call may let out -/
def Tk (X : Cx) (W : WX) : Prop := ∀ σ, PassesAt (L2.CX X.prog X.w) X σ (WE W σ)
theorem tk_of {X : Cx} {W : WX} (t : Takes X W) : Tk X W := fun σ => passAt t σ
/-- what a def promises: its run, on the arguments and the cells -/
def spF (N : Nm) (K : PySem.W.Frag) (n : Nat) (f : Fn) : Sp := fun vs H Q E => vs.length = n ∧ ∃ Ω ds st, StR N K Ω [] st [] H ∧ Reps N K Ω.φ Ω.F ds vs ∧ (match f ds st with
  | .stuck => False
  | .ok st' fl d => ∀ (Ω' : Wd) (H' : Hp) (v : V), StR N K Ω' [] st' [] H' → Step Ω [] [] H Ω' [] [] H' → ResR N K Ω' [] [] H H' fl d v → Q v H'
  | .exc e st' => ∀ (Ω' : Wd) (H' : Hp), StR N K Ω' [] st' [] H' → Step Ω [] [] H Ω' [] [] H' → E (.ref (N.ex e)) none H')
section
variable {N : Nm} {K : PySem.W.Frag} {Ω Ω' : Wd} {ρ : List Slot} {st st' : List D} {σ : L2.St} {H H' : Hp}
theorem own_nil {φ : List Addr} {p : Addr} (h : OwnA φ [] [] p) : p ∈ φ := by
  rcases h with h | ⟨i, d, h, _⟩
  · exact h
  · cases h
theorem held_nil {φ : List Addr} {p : Addr} (h : HeldA φ [] [] p) : p ∈ φ := by
  rcases h with h | ⟨i, d, h, _⟩
  · exact h
  · cases h
theorem StR.cells (S : StR N K Ω ρ st σ H) : StR N K Ω [] st [] H := ⟨rfl, S.sub, fun i s h => (by cases h), fun i j s t p h => (by cases h), S.stl, S.sto, S.phF, S.nd⟩
/-- behind a call -/
theorem StR.call (S : StR N K Ω ρ st σ H) (C : StR N K Ω' [] st' [] H') (t : Step Ω [] [] H Ω' [] [] H') : StR N K Ω' ρ st' σ H' ∧ Step Ω ρ σ H Ω' ρ σ H' := by
  have np : ∀ {p : Addr}, p ∉ Ω.φ → (∃ o, H p = some o) → p ∉ Ω'.φ := fun {p} h1 ⟨o, h2⟩ z => by
    rcases t.own p (.inl z) with z | z
    · exact h1 (own_nil z)
    · rw [h2] at z; cases z
  have nF : ∀ {p : Addr}, p ∉ Ω.φ → Ω.F p = none → (∃ o, H p = some o) → Ω'.F p = none := fun {p} h1 h3 ⟨o, h2⟩ => by
    cases e : Ω'.F p with
    | none => rfl
    | some u =>
      rcases t.new p (by rw [e]; exact fun z => nomatch z) with z | z | z
      · exact absurd h3 z
      · rw [h2] at z; cases z
      · exact absurd (own_nil z) h1
  have kp : ∀ {p : Addr} {o : HO}, p ∉ Ω.φ → H p = some o → H' p = some o := fun {p o} h1 h2 => t.keep p o h2 fun z => h1 (own_nil z)
  refine ⟨⟨S.len, C.sub, fun i s h => ?_, S.dist, C.stl, C.sto, C.phF, C.nd⟩, t.fm, t.pm, fun a h => ?_, fun p h => ?_, fun a o h1 h2 => kp (fun z => h2 (.inl z)) h1, t.dom, fun _ _ h => ⟨h, rfl⟩⟩
  · have q := S.slot i s h
    cases s with
    | un => trivial
    | sh d => obtain ⟨x, e, q⟩ := q; exact ⟨x, e, Rep.step q t⟩
    | own d =>
      obtain ⟨k, p, e, q, f, g⟩ := q
      exact ⟨k, p, e, q.le t.fm t.pm (fun o z => kp g z), nF g f q.some, np g q.some⟩
    | lent d =>
      obtain ⟨k, p, e, q, f, g⟩ := q
      exact ⟨k, p, e, q.le t.fm t.pm (fun o z => kp g z), nF g f q.some, np g q.some⟩
  · rcases t.new a h with z | z | z
    · exact .inl z
    · exact .inr (.inl z)
    · exact .inr (.inr (.inl (own_nil z)))
  · rcases h with h | h
    · rcases t.own p (.inl h) with z | z
      · exact .inl (.inl (own_nil z))
      · exact .inr z
    · exact .inl (.inr h)
theorem ResR.call (S : StR N K Ω ρ st σ H) (S' : StR N K Ω' ρ st' σ H') {fl : Bool} {d : D} {v : V} (r : ResR N K Ω' [] [] H H' fl d v) : ResR N K Ω' ρ σ H H' fl d v := by
  rcases r with r | ⟨e, k, p, e2, n, f, nh, q⟩
  · exact .inl r
  · refine .inr ⟨e, k, p, e2, n, f, fun z => ?_, q⟩
    rcases z with z | ⟨i, s, h1, h2, h3⟩
    · exact nh (.inl z)
    · have := S.heldF (.inr ⟨i, s, h1, h2, h3⟩)
      obtain ⟨_, o, h⟩ := this
      rw [n] at h; cases h
end
section
variable {N : Nm} {W : WX} {X : Cx} {e a b c : Expr} {ia ib ic : E} {pos : Pos}
/-- a call with the arguments' values in hand -/
theorem use_call {f : Fn} {n : Nat} {Ω Ω0 : Wd} {ρ ρ0 : List Slot} {st : List D} {σ : L2.St} {H H0 : Hp} {Q : VK} {ds : List D} {vs : List V} (S : StR N X.K Ω ρ st σ H) (t : Step Ω0 ρ0 σ H0 Ω ρ σ H) (r : Reps N X.K Ω.φ Ω.F ds vs) (hn : vs.length = n)
    (q : Post N X.K W (RE N X.K σ) Ω0 ρ0 σ H0 Q (ofFR ρ (f ds st))) : spF N X.K n f vs H Q (WE W σ) := by
  refine ⟨hn, Ω, ds, st, S.cells, r, ?_⟩
  cases h : f ds st with
  | stuck => rw [h] at q; exact q.elim
  | exc e1 st1 =>
    rw [h] at q
    exact fun Ω' H' S' t' => q Ω' H' (S.call S' t').1 (t.trans (S.call S' t').2)
  | ok st1 fl d =>
    rw [h] at q
    intro Ω' H' v S' t' r'
    obtain ⟨S2, t2⟩ := S.call S' t'
    exact q Ω' H' v S2 (t.trans t2) (RE.shift t _ _ _ (fl, d) _ (ResR.call S S2 r'))
theorem runA_len : ∀ (is : List E) (rs : List Bool) (ρ : List Slot) (st : List D) (ρ' : List Slot) (st' : List D) (ds : List D), runA rs is ρ st = .ok ρ' st' ds → ds.length = is.length
  | [], rs, ρ, st, ρ', st', ds, h => by
    have : runA rs [] ρ st = .ok ρ st [] := by cases rs <;> rfl
    rw [this] at h; cases h; rfl
  | i :: is, rs, ρ, st, ρ', st', ds, h => by
    have go : ∀ {c : Sm D} {rs' : List Bool}, ((c ρ st).bind fun ρ st d => (runA rs' is ρ st).bind fun ρ st ds => .ok ρ st (d :: ds)) = .ok ρ' st' ds → ds.length = (i :: is).length := fun {c rs'} h => by
      cases h1 : c ρ st with
      | stuck => rw [h1] at h; cases h
      | exc e1 ρ1 st1 => rw [h1] at h; cases h
      | ok ρ1 st1 p =>
        rw [h1] at h
        change (runA rs' is ρ1 st1).bind _ = _ at h
        cases h2 : runA rs' is ρ1 st1 with
        | stuck => rw [h2] at h; cases h
        | exc e1 ρ1 st1 => rw [h2] at h; cases h
        | ok ρ2 st2 ds2 =>
          rw [h2] at h
          cases h
          rw [List.length_cons, List.length_cons, runA_len is rs' _ _ _ _ _ h2]
    have val : ∀ rs', ((run i ρ st).bind fun ρ st p => (runA rs' is ρ st).bind fun ρ st ds => .ok ρ st (p.2 :: ds)) = .ok ρ' st' ds → ds.length = (i :: is).length := fun rs' h => by
      refine go (c := fun ρ st => (run i ρ st).bind fun ρ st p => .ok ρ st p.2) (rs' := rs') ?_
      rw [bind_bind]; exact h
    cases rs with
    | nil => exact val [] (by cases i <;> exact h)
    | cons r rs =>
      cases r with
      | false => rw [runA_val] at h; exact val rs h
      | true =>
        cases i with
        | var k => exact go (c := boxV k) (rs' := rs) h
        | _ => exact val rs h
/-- a def as the caller knows it -/
structure FnK (N : Nm) (X : Cx) (x : Str) (n : Nat) (f : Fn) : Prop where
  ex : ∃ (k : Nat) (a : Addr) (fd : FuncData) (ps : List Str), FnOk X.prog X.w X.K X.mg X.base (L2.CX X.prog X.w) k a fd ps (spF N X.K n f) ∧ Room k X.A ∧ X.mg x = some (.ref a) ∧ PySem.W.keepIn X.K (.ref a) = true ∧ Binds X.K fd ps []
theorem xr_call {x : Str} {p : Pos} {n : Nat} {f : Fn} {es : List Expr} {is : List E} {rs : List Bool} (F : FnK N X x n f) (tk : Tk X W) (hg : Gl X x) (ha : XV N W X (a :: es) (runA rs is)) (hl : is.length = n)
    (hdb : (x == ("__debug__" : Str)) = false) (he : starEach (a :: es) X.env = (false, eval a X.env) :: starEach es X.env) (hpl : (backTo pos (starEach es X.env)).any (·.1) = false) : XR N W X (.Call (.Name x p) (a :: es) [] pos) (.call f rs is) := by
  obtain ⟨k, ad, fd, ps, F, hr, hm, hk, hb⟩ := F.ex
  refine .nv (PE.imp (pe_callS F hr hg hm hk hb tk ha hdb he hpl) fun σ H Q ⟨Ω, ρ, st, S, q⟩ => ⟨Ω, ρ, st, S, ?_⟩)
  refine Post.bind q fun ρ1 st1 ds Ω1 H1 vs he S1 t1 r1 q1 => ?_
  exact use_call S1 t1 r1 (by rw [← r1.length, runA_len _ _ _ _ _ _ _ he, hl]) q1
/-! ### methods of own instances: the receiver is a cell -/
theorem methS {ap : Pos} {m : Str} {ta : TE} {t : TA} {CX : CXT} {k : Nat} {f C : Addr} {fd : FuncData} {ps : List Str} {sp : Sp} {E : L2.St → XK} {pl : Sem Bool} {es : List Expr} {o : Expr} (he : PE X o ta) (c : Cls X.K C) (hm : Meth X.K C m f) (F : FnOk X.prog X.w X.K X.mg X.base CX k f fd ps sp) (hr : Room k X.A) (hb : Binds X.K fd ps []) (hx : ∀ σ, PassesAt CX X σ (E σ)) (ha : PA X (e :: es) t)
    (hst : starEach (e :: es) X.env = (false, eval e X.env) :: starEach es X.env) (hpl : (backTo pos (starEach es X.env)).any (·.1) = false)
    (ht : eval (.Call (.Attribute o m ap) (e :: es) [] pos) X.env = (do
      let ov ← eval o X.env
      standAt ap.atName
      let (f, first) ← holding [ov] (getMethod ov m pl)
      callWith pos f first (backTo pos (starEach (e :: es) X.env)) (backToKw pos (keywordEach [] X.env)))) :
    PE X (.Call (.Attribute o m ap) (e :: es) [] pos) (fun σ H Q => ta σ H fun x H1 => ∃ a dx fs, x = .ref a ∧ H1 a = some (.ins C dx fs) ∧ fs.lookup m = none ∧ t σ H1 fun vs H2 => sp (x :: vs) H2 Q (E σ)) := by
  refine ⟨fun pins s σ H Q I h => ?_⟩
  refine PySem.W.methodCall_KW (pl := pl) (thn (he.run pins s σ H _ I h) fun u s1 ⟨x, H1, I1, rx, a, dx, fs, ex, ea, l, q⟩ => ?_) ht
  subst ex
  obtain rfl : u = Value.ref a := rx
  refine getmeth_ok I1 ea c hm l ?_
  refine PySem.W.callWith_K (first := [.ref a]) (h₀ := X.base) I.ok.mod.kin hm.kp (thn (ha.run pos pins s1 σ H1 _ I1 q) fun us s2 ⟨vs, H2, I2, r, q2⟩ => ⟨I2.kIn, ?_⟩) hst hpl
  exact run_fnS (us := .ref a :: us) (vs := .ref a :: vs) F hr hb (hx σ) I2 (.cons rfl r) q2
theorem methS0 {ap : Pos} {m : Str} {ta : TE} {CX : CXT} {k : Nat} {f C : Addr} {fd : FuncData} {ps : List Str} {sp : Sp} {E : L2.St → XK} {pl : Sem Bool} {o : Expr} (he : PE X o ta) (c : Cls X.K C) (hm : Meth X.K C m f) (F : FnOk X.prog X.w X.K X.mg X.base CX k f fd ps sp) (hr : Room k X.A) (hb : Binds X.K fd ps []) (hx : ∀ σ, PassesAt CX X σ (E σ))
    (ht : eval (.Call (.Attribute o m ap) [] [] pos) X.env = (do
      let ov ← eval o X.env
      standAt ap.atName
      let (f, first) ← holding [ov] (getMethod ov m pl)
      callWith pos f first (backTo pos (starEach [] X.env)) (backToKw pos (keywordEach [] X.env)))) :
    PE X (.Call (.Attribute o m ap) [] [] pos) (fun σ H Q => ta σ H fun x H1 => ∃ a dx fs, x = .ref a ∧ H1 a = some (.ins C dx fs) ∧ fs.lookup m = none ∧ sp [x] H1 Q (E σ)) := by
  refine ⟨fun pins s σ H Q I h => ?_⟩
  refine PySem.W.methodCall_KW (pl := pl) (thn (he.run pins s σ H _ I h) fun u s1 ⟨x, H1, I1, rx, a, dx, fs, ex, ea, l, q⟩ => ?_) ht
  subst ex
  obtain rfl : u = Value.ref a := rx
  refine getmeth_ok I1 ea c hm l ?_
  exact PySem.W.callWith_K0 (first := [.ref a]) I1.kIn hm.kp (run_fnS (us := [.ref a]) (vs := [.ref a]) F hr hb (hx σ) I1 (.cons rfl .nil) q)
theorem call_text {o : Expr} {m : Str} {ap : Pos} {es : List Expr} {env : Env} (hb : attributeBase o m env (eval o env) = eval o env) (hf : methodCallForm es.length (backTo pos (starEach es env)) (backToKw pos (keywordEach [] env)) = true) (hl : (ap.endLine == pos.line) = true) :
    eval (.Call (.Attribute o m ap) es [] pos) env = (do
      let ov ← eval o env
      standAt ap.atName
      let (f, first) ← holding [ov] (getMethod ov m (plainOf o env))
      callWith pos f first (backTo pos (starEach es env)) (backToKw pos (keywordEach [] env))) := by
  rw [eval, hb]
  simp only [List.length_nil, Nat.add_zero]
  congr 1
  funext ov
  congr 1
  funext _
  exact mcall_line hf hl
/-- a method as the caller knows it -/
structure MtK (N : Nm) (X : Cx) (m : Str) (n : Nat) (f : Fn) : Prop where
  ex : ∃ (k : Nat) (a : Addr) (fd : FuncData) (ps : List Str), FnOk X.prog X.w X.K X.mg X.base (L2.CX X.prog X.w) k a fd ps (spF N X.K n f) ∧ Room k X.A ∧ Cls X.K N.desk ∧ Meth X.K N.desk m a ∧ Binds X.K fd ps []
theorem lookup_none {m : Str} : ∀ (fs : List (Str × V)) (ns : List Str), fs.map (·.1) = ns → ns.contains m = false → fs.lookup m = none
  | [], _, _, _ => rfl
  | (x, v) :: r, ns, e, h => by
    subst e
    rw [List.map_cons, List.contains_cons, Bool.or_eq_false_iff] at h
    unfold List.lookup
    rw [h.1]
    exact lookup_none r _ rfl h.2
/-- what is known of the receiver ahead of the arguments -/
theorem use_recv {f : Fn} {m : Str} {ia : E} {n : Nat} {rs : List Bool} {is : List E} {σ : L2.St} {H : Hp} {Q : VK} (hl : is.length + 1 = n) (q : tX N X.K W (RE N X.K) (run (.mcall f m ia rs is)) σ H Q) :
    tX N X.K W (fun _ => RD N X.K) (fun ρ st => (run ia ρ st).bind fun ρ st p => .ok ρ st p.2) σ H fun x H1 => ∃ a dx fs, x = .ref a ∧ H1 a = some (.ins N.desk dx fs) ∧ fs.lookup m = none ∧
      tX N X.K W (fun _ => RV N X.K) (runA rs is) σ H1 fun vs H2 => spF N X.K n f (x :: vs) H2 Q (WE W σ) := by
  obtain ⟨Ω, ρ, st, S, q⟩ := q
  refine ⟨Ω, ρ, st, S, ?_⟩
  change Post N X.K W (RE N X.K σ) Ω ρ σ H Q ((run ia ρ st).bind _) at q
  show Post N X.K W (RD N X.K) Ω ρ σ H _ ((run ia ρ st).bind _)
  cases h1 : run ia ρ st with
  | stuck => rw [h1] at q; exact q.elim
  | exc e1 ρ1 st1 => rw [h1] at q; exact q
  | ok ρ1 st1 p =>
    rw [h1] at q
    obtain ⟨fl, d⟩ := p
    intro Ω1 H1 x S1 t1 r1
    replace r1 : Rep N X.K Ω1.φ Ω1.F d x := r1
    cases d <;> try exact q.elim
    rename_i n0
    cases r1 with
    | @cell _ ad hp =>
      change Post N X.K W (RE N X.K σ) Ω ρ σ H Q (match st1[n0]? with | some (.obj ns _) => if ns.contains m = true then .stuck else (runA rs is ρ1 st1).bind fun ρ st ds => ofFR ρ (f (.cell n0 :: ds) st) | _ => .stuck) at q
      cases h2 : st1[n0]? with
      | none => rw [h2] at q; exact q.elim
      | some c =>
        rw [h2] at q
        cases c <;> try exact q.elim
        rename_i ns cs
        have o := S1.sto n0 ad _ hp h2
        obtain ⟨dx, fs, e1, e2, e3⟩ := o
        change Post N X.K W (RE N X.K σ) Ω ρ σ H Q (if ns.contains m = true then .stuck else (runA rs is ρ1 st1).bind fun ρ st ds => ofFR ρ (f (.cell n0 :: ds) st)) at q
        cases hm : ns.contains m with
        | true => rw [hm] at q; exact q.elim
        | false =>
          rw [hm] at q
          refine ⟨ad, dx, fs, rfl, e1, lookup_none fs ns e2 hm, Ω1, ρ1, st1, S1, ?_⟩
          have q' : Post N X.K W (RE N X.K σ) Ω ρ σ H Q ((runA rs is ρ1 st1).bind fun ρ st ds => ofFR ρ (f (.cell n0 :: ds) st)) := q
          refine Post.bind (q'.shift t1 (RE.shift t1)) fun ρ2 st2 ds Ω2 H2 vs he S2 t2 r2 q2 => ?_
          refine use_call (ds := .cell n0 :: ds) S2 t2 (.cons (Rep.step (.cell hp) t2) r2) ?_ q2
          rw [List.length_cons, ← r2.length, runA_len _ _ _ _ _ _ _ he, hl]
theorem runA_nil (rs : List Bool) (ρ : List Slot) (st : List D) : runA rs [] ρ st = .ok ρ st [] := by cases rs <;> rfl
theorem xr_meth {m : Str} {ap : Pos} {n : Nat} {f : Fn} {es : List Expr} {is : List E} {rs : List Bool} {o : Expr} {io : E} (F : MtK N X m n f) (tk : Tk X W) (ho : XR N W X o io) (ha : XV N W X (a :: es) (runA rs is)) (hl : is.length + 1 = n)
    (hb : attributeBase o m X.env (eval o X.env) = eval o X.env) (hf : methodCallForm (a :: es).length (backTo pos (starEach (a :: es) X.env)) (backToKw pos (keywordEach [] X.env)) = true) (hline : (ap.endLine == pos.line) = true)
    (he : starEach (a :: es) X.env = (false, eval a X.env) :: starEach es X.env) (hpl : (backTo pos (starEach es X.env)).any (·.1) = false) : XR N W X (.Call (.Attribute o m ap) (a :: es) [] pos) (.mcall f m io rs is) := by
  obtain ⟨k, ad, fd, ps, F, hr, hc, hm, hbi⟩ := F.ex
  exact .nv (PE.imp (methS ho.xd hc hm F hr hbi tk ha he hpl (call_text hb hf hline)) fun σ H Q h => use_recv hl h)
theorem xr_meth0 {m : Str} {ap : Pos} {n : Nat} {f : Fn} {rs : List Bool} {o : Expr} {io : E} (F : MtK N X m n f) (tk : Tk X W) (ho : XR N W X o io) (hn : n = 1)
    (hb : attributeBase o m X.env (eval o X.env) = eval o X.env) (hf : methodCallForm ([] : List Expr).length (backTo pos (starEach [] X.env)) (backToKw pos (keywordEach [] X.env)) = true) (hline : (ap.endLine == pos.line) = true) : XR N W X (.Call (.Attribute o m ap) [] [] pos) (.mcall f m io rs []) := by
  obtain ⟨k, ad, fd, ps, F, hr, hc, hm, hbi⟩ := F.ex
  subst hn
  refine .nv (PE.imp (methS0 ho.xd hc hm F hr hbi tk (call_text hb hf hline)) fun σ H Q h => (use_recv (n := 1) (is := []) rfl h).mono fun x H1 ⟨a, dx, fs, e, e2, l, q⟩ => ⟨a, dx, fs, e, e2, l, ?_⟩)
  obtain ⟨Ω, ρ, st, S, q⟩ := q
  rw [runA_nil] at q
  exact q Ω H1 [] S (Step.refl _ _ _ _) .nil
/-! ### o.f, of a cell -/
theorem lookup_get {f : Str} {K : PySem.W.Frag} {φ : List Addr} {F : Hp} : ∀ (fs : List (Str × V)) (ns : List Str) (vs : List D) (d : D), fs.map (·.1) = ns → Reps N K φ F vs (fs.map (·.2)) → get1 ns vs f = some d → ∃ v, fs.lookup f = some v ∧ Rep N K φ F d v
  | [], _, _, _, e, r, h => by subst e; cases r; cases h
  | (x, v) :: rest, ns, vs, d, e, r, h => by
    subst e
    cases vs with
    | nil => cases r
    | cons z zs =>
      cases r with
      | cons r1 r2 =>
        unfold List.lookup
        by_cases hx : x = f
        · subst hx
          have : get1 (((x, v) :: rest).map (·.1)) (z :: zs) x = some z := by simp [get1, List.find?_cons]
          rw [this] at h
          cases h
          simp only [beq_self_eq_true]
          exact ⟨v, rfl, r1⟩
        · have hb : (f == x) = false := by
            cases q : f == x with
            | false => rfl
            | true => exact absurd (beq_iff_eq.mp q).symm hx
          have : get1 (((x, v) :: rest).map (·.1)) (z :: zs) f = get1 (rest.map (·.1)) zs f := by simp [get1, List.find?_cons, hx]
          rw [this] at h
          rw [hb]
          exact lookup_get rest _ zs d rfl r2 h
theorem xr_attr {f : Str} {io : E} {o : Expr} (ho : XR N W X o io) (hc : Cls X.K N.desk) (hn : NoAttr X.K N.desk f) (hb : attributeBase o f X.env (eval o X.env) = eval o X.env) : XR N W X (.Attribute o f pos) (.attr [io] f) :=
  .nv (PE.imp (pe_fld ho.xo hb) fun σ H Q ⟨Ω, ρ, st, S, q⟩ => by
    refine ⟨Ω, ρ, st, S, ?_⟩
    change Post N X.K W (RE N X.K σ) Ω ρ σ H Q ((runO [io] ρ st).bind _) at q
    rw [runO_one] at q
    cases h1 : runO1 io ρ st with
    | stuck => rw [h1] at q; exact q.elim
    | exc e1 ρ1 st1 => rw [h1] at q; exact q
    | ok ρ1 st1 o1 =>
      rw [h1] at q
      intro Ω1 H1 x S1 t1 r1
      change Post N X.K W (RE N X.K σ) Ω ρ σ H Q (match rezs ρ1 st1 [o1] with | some [.obj ns vs] => (match get1 ns vs f with | some d => .ok ρ1 st1 (false, d) | none => .stuck) | _ => .stuck) at q
      unfold rezs at q
      cases g1 : PD.rez ρ1 st1 o1 with
      | none => rw [g1] at q; exact q.elim
      | some d =>
        rw [g1] at q
        have p := S1.rez r1 g1
        cases d <;> try exact q.elim
        rename_i ns vs
        change Post N X.K W (RE N X.K σ) Ω ρ σ H Q (match get1 ns vs f with | some d => .ok ρ1 st1 (false, d) | none => .stuck) at q
        cases g2 : get1 ns vs f with
        | none => rw [g2] at q; exact q.elim
        | some d =>
          rw [g2] at q
          rcases p with p | ⟨ad, rfl, dx, fs, e1, e2, e3⟩
          · cases p
          · obtain ⟨v, l, r⟩ := lookup_get fs ns vs d e2 e3 g2
            exact ⟨ad, N.desk, dx, fs, v, rfl, e1, hc, hn, l, q Ω1 H1 v S1 t1 (.inl ⟨rfl, r⟩)⟩)
/-! ### C() -/
structure MkK (N : Nm) (X : Cx) (x : Str) (f : Fn) : Prop where
  ex : ∃ (k : Nat) (a : Addr) (fd : FuncData) (ps : List Str), FnOk X.prog X.w X.K X.mg X.base (L2.CX X.prog X.w) k a fd ps (spF N X.K 1 f) ∧ Room (k + 1) X.A ∧ Mk X.K N.desk a ∧ X.mg x = some (.ref N.desk) ∧ Binds X.K fd ps []
theorem StR.newObj {Ω : Wd} {ρ : List Slot} {st : List D} {σ : L2.St} {H : Hp} {K : PySem.W.Frag} {x dx : Addr} (S : StR N K Ω ρ st σ H) (n1 : H x = none) (n2 : H dx = none) (ne : dx ≠ x) :
    StR N K ⟨Ω.F, Ω.φ ++ [x]⟩ ρ (st ++ [.obj [] []]) σ (upd (upd H dx (.own x)) x (.ins N.desk dx [])) ∧ Step Ω ρ σ H ⟨Ω.F, Ω.φ ++ [x]⟩ ρ σ (upd (upd H dx (.own x)) x (.ins N.desk dx [])) := by
  have le : Le H (upd (upd H dx (.own x)) x (.ins N.desk dx [])) := fun a o h => by
    rw [upd_ne (ne_of_none h n1), upd_ne (ne_of_none h n2)]; exact h
  have pm : Ph Ω.φ (Ω.φ ++ [x]) := ⟨[x], rfl⟩
  have nx : ∀ {p : Addr}, (∃ o, H p = some o) → p ≠ x := fun {p} ⟨o, h⟩ => ne_of_none h n1
  have nF : Ω.F x = none := by
    cases e : Ω.F x with
    | none => rfl
    | some u => rw [S.sub _ _ e] at n1; cases n1
  refine ⟨⟨S.len, fun a o h => le _ _ (S.sub _ _ h), fun i s h => ?_, S.dist, by rw [List.length_append, List.length_append, S.stl]; rfl, fun n a c h1 h2 => ?_, fun a ha => ?_, ?_⟩, ⟨fun _ _ h => h, pm, fun a h => .inl h, fun p h => ?_, fun a o h _ => le a o h, fun a h => ?_, fun _ _ h => ⟨h, rfl⟩⟩⟩
  · have q := S.slot i s h
    cases s with
    | un => trivial
    | sh d => obtain ⟨y, e, q⟩ := q; exact ⟨y, e, Rep.le (fun _ _ h => h) pm _ _ q⟩
    | own d =>
      obtain ⟨k, p, e, q, f, g⟩ := q
      refine ⟨k, p, e, q.le (fun _ _ h => h) pm (fun o z => le _ _ z), f, fun z => ?_⟩
      rcases List.mem_append.mp z with z | z
      · exact g z
      · exact nx q.some (by simpa using z)
    | lent d =>
      obtain ⟨k, p, e, q, f, g⟩ := q
      refine ⟨k, p, e, q.le (fun _ _ h => h) pm (fun o z => le _ _ z), f, fun z => ?_⟩
      rcases List.mem_append.mp z with z | z
      · exact g z
      · exact nx q.some (by simpa using z)
  · by_cases hn : n < Ω.φ.length
    · rw [List.getElem?_append_left hn] at h1
      have h1' : n < st.length := by rw [S.stl]; exact hn
      rw [List.getElem?_append_left h1'] at h2
      exact (S.sto n a c h1 h2).le (fun _ _ h => h) pm (fun o z => le _ _ z)
    · rw [List.getElem?_append_right (Nat.le_of_not_lt hn)] at h1
      rw [List.getElem?_append_right (by rw [S.stl]; exact Nat.le_of_not_lt hn), S.stl] at h2
      cases z : n - Ω.φ.length with
      | zero =>
        rw [z] at h1 h2
        cases h1; cases h2
        exact ⟨dx, [], upd_same, rfl, .nil⟩
      | succ m => rw [z] at h1; cases h1
  · rcases List.mem_append.mp ha with z | z
    · exact S.phF a z
    · have : a = x := by simpa using z
      subst this; exact nF
  · refine List.nodup_append.mpr ⟨S.nd, by simp, fun a ha b hb z => ?_⟩
    have : b = x := by simpa using hb
    subst this
    exact nx (S.heldF (.inl ha)).2 z
  · rcases h with h | h
    · rcases List.mem_append.mp h with z | z
      · exact .inl (.inl z)
      · have : p = x := by simpa using z
        subst this; exact .inr n1
    · exact .inl (.inr h)
  · cases e : H a with
    | none => rfl
    | some o => rw [le _ _ e] at h; cases h
theorem xr_make {x : Str} {p : Pos} {f : Fn} (F : MkK N X x f) (hg : Gl X x) (hdb : (x == ("__debug__" : Str)) = false) : XR N W X (.Call (.Name x p) [] [] pos) (.make f) := by
  obtain ⟨k, ad, fd, ps, F, hr, M, hm, hb⟩ := F.ex
  refine .nv (PE.imp (pe_make0 M F hr hg hm hb .nil passL hdb) fun σ H Q ⟨Ω, ρ, st, S, q⟩ x dx n1 n2 ne => ?_)
  obtain ⟨S1, t1⟩ := S.newObj n1 n2 ne
  have rc : Rep N X.K (Ω.φ ++ [x]) Ω.F (.cell st.length) (.ref x) := .cell (by rw [S.stl, List.getElem?_append_right (Nat.le_refl _)]; simp)
  refine ⟨rfl, _, [.cell st.length], _, S1.cells, .cons rc .nil, ?_⟩
  change Post N X.K W (RE N X.K σ) Ω ρ σ H Q (match f [.cell st.length] (st ++ [.obj [] []]) with | .ok st' _ .non => .ok ρ st' (false, .cell st.length) | _ => .stuck) at q
  cases h : f [.cell st.length] (st ++ [.obj [] []]) with
  | stuck => rw [h] at q; exact q.elim
  | exc e1 st1 => rw [h] at q; exact q.elim
  | ok st1 fl d =>
    rw [h] at q
    cases d <;> try exact q.elim
    intro Ω' H' v S' t' r'
    obtain ⟨S2, t2⟩ := S1.call S' t'
    refine ⟨?_, q Ω' H' _ S2 (t1.trans t2) (.inl ⟨rfl, Rep.step rc t2⟩)⟩
    rcases r' with ⟨_, r'⟩ | ⟨_, r', _⟩
    · cases r'; rfl
    · cases r'
end
end PD

set_option Elab.async false
set_option linter.all false
set_option maxRecDepth 100000
/-! PD11: statements: blocks, stores, tests, returns, raising. -/
namespace PD
open PySem PySem.Spec L2

/-- what a return gives: a value, or a thing that is new or was one's own -/
def RetR (N : Nm) (K : PySem.W.Frag) (Ω0 : Wd) (ρ0 : List Slot) (σ0 : L2.St) (H0 : Hp) (Ω : Wd) (ρ : List Slot) (σ : L2.St) (H : Hp) (fl : Bool) (d : D) (v : V) : Prop :=
  (fl = false ∧ Rep N K Ω.φ Ω.F d v) ∨ (fl = true ∧ frzOk d = true ∧ ∃ p, v = .ref p ∧ (H0 p = none ∨ OwnA Ω0.φ ρ0 σ0 p) ∧ Ω.F p = none ∧ ¬ HeldA Ω.φ ρ σ p ∧ ORep N K Ω.φ Ω.F H d p)
def PostS (N : Nm) (K : PySem.W.Frag) (W : WX) (Ω : Wd) (ρ : List Slot) (σ : L2.St) (H : Hp) (D : Ends) : Out Fl → Prop
  | .stuck => False
  | .exc e ρ' st' => ∀ (Ω' : Wd) (σ' : L2.St) (H' : Hp), StR N K Ω' ρ' st' σ' H' → Step Ω ρ σ H Ω' ρ' σ' H' → W (.ref (N.ex e)) none σ' H'
  | .ok ρ' st' f => ∀ (Ω' : Wd) (σ' : L2.St) (H' : Hp), StR N K Ω' ρ' st' σ' H' → Step Ω ρ σ H Ω' ρ' σ' H' → (match f with
    | .next => D.nx σ' H'
    | .brk => D.bk σ' H'
    | .cont => D.ct σ' H'
    | .ret fl d => ∀ v, RetR N K Ω ρ σ H Ω' ρ' σ' H' fl d v → D.rt v H')
def tS (N : Nm) (K : PySem.W.Frag) (W : WX) (c : Sm Fl) : TS := fun D σ H => ∃ Ω ρ st, StR N K Ω ρ st σ H ∧ PostS N K W Ω ρ σ H D (c ρ st)
abbrev XS (N : Nm) (W : WX) (X : Cx) (s : Stmt) (i : S) : Prop := PS X s (tS N X.K W (runS i))
abbrev XB (N : Nm) (W : WX) (X : Cx) (s : List Stmt) (i : List S) : Prop := PSs X s (tS N X.K W (runB i))
section
variable {N : Nm} {K : PySem.W.Frag} {W : WX} {Ω Ω1 : Wd} {ρ ρ1 : List Slot} {st : List D} {σ σ1 : L2.St} {H H1 : Hp} {D D' : Ends}
theorem RetR.later {ρ' : List Slot} {σ' : L2.St} {Ω' : Wd} {H' : Hp} {fl : Bool} {d : PD.D} {v : V} (t : Step Ω ρ σ H Ω1 ρ1 σ1 H1) (r : RetR N K Ω1 ρ1 σ1 H1 Ω' ρ' σ' H' fl d v) : RetR N K Ω ρ σ H Ω' ρ' σ' H' fl d v := by
  rcases r with r | ⟨e, k, p, e2, n, r⟩
  · exact .inl r
  · refine .inr ⟨e, k, p, e2, ?_, r⟩
    rcases n with n | n
    · exact .inl (t.dom p n)
    · exact (t.own p n).symm
theorem ResR.ret {Ω' : Wd} {ρ' : List Slot} {σ' : L2.St} {H' : Hp} {fl : Bool} {d : PD.D} {v : V} (r : ResR N K Ω' ρ' σ' H H' fl d v) : RetR N K Ω ρ σ H Ω' ρ' σ' H' fl d v := by
  rcases r with r | ⟨e, k, p, e2, n, r⟩
  · exact .inl r
  · exact .inr ⟨e, k, p, e2, .inl n, r⟩
theorem PostS.shift {c : Out Fl} (t : Step Ω ρ σ H Ω1 ρ1 σ1 H1) (h : PostS N K W Ω ρ σ H D c) : PostS N K W Ω1 ρ1 σ1 H1 D c := by
  cases c with
  | stuck => exact h
  | exc e ρ' st' => exact fun Ω' σ' H' S t' => h Ω' σ' H' S (t.trans t')
  | ok ρ' st' f =>
    intro Ω' σ' H' S t'
    have q := h Ω' σ' H' S (t.trans t')
    cases f with
    | next => exact q
    | brk => exact q
    | cont => exact q
    | ret fl d => exact fun v r => q v (r.later t)
/-- the outcome behind another -/
theorem PostS.bind {α β : Type} {R : Wd → List Slot → Hp → Hp → α → β → Prop} {Q1 : β → Hp → Prop} {c : Out α} {f : List Slot → List PD.D → α → Out Fl} (h : PostS N K W Ω ρ σ H D (c.bind f))
    (k : ∀ ρ1 st1 a Ω1 H1 b, c = .ok ρ1 st1 a → StR N K Ω1 ρ1 st1 σ H1 → Step Ω ρ σ H Ω1 ρ1 σ H1 → R Ω1 ρ1 H H1 a b → PostS N K W Ω ρ σ H D (f ρ1 st1 a) → Q1 b H1) : Post N K W R Ω ρ σ H Q1 c := by
  cases c with
  | ok ρ1 st1 a => exact fun Ω1 H1 b S t r => k ρ1 st1 a Ω1 H1 b rfl S t r h
  | exc e ρ1 st1 => exact fun Ω' H' S t => h Ω' σ H' S t
  | stuck => exact h
/-- nothing behind but what comes next -/
theorem PostS.next {ρ' : List Slot} {st' : List PD.D} {Ω' : Wd} {σ' : L2.St} {H' : Hp} (h : PostS N K W Ω ρ σ H D (.ok ρ' st' .next)) (S : StR N K Ω' ρ' st' σ' H') (t : Step Ω ρ σ H Ω' ρ' σ' H') : D.nx σ' H' := h Ω' σ' H' S t
theorem getElem_set_some {α : Type} {l : List α} {i j : Nat} {x y : α} (h : (l.set i x)[j]? = some y) : (j = i ∧ y = x) ∨ (j ≠ i ∧ l[j]? = some y) := by
  by_cases e : j = i
  · subst e
    by_cases hl : j < l.length
    · rw [List.getElem?_set_self hl] at h
      exact .inl ⟨rfl, (Option.some.inj h).symm⟩
    · rw [List.getElem?_eq_none (by simpa using hl)] at h; cases h
  · rw [List.getElem?_set_ne (Ne.symm e)] at h
    exact .inr ⟨e, h⟩
/-- a slot gets a result -/
theorem StR.put {i : Nat} {fl : Bool} {d : PD.D} {v : V} {H0 : Hp} (S : StR N K Ω ρ st σ H) (r : ResR N K Ω ρ σ H0 H fl d v) (hi : i < ρ.length) :
    StR N K Ω (ρ.set i (if fl then .own d else .sh d)) st (σ.set i (some v)) H ∧ (∀ {Ω0 : Wd} {ρ0 : List Slot} {σ0 : L2.St}, Step Ω0 ρ0 σ0 H0 Ω ρ σ H → Step Ω0 ρ0 σ0 H0 Ω (ρ.set i (if fl then .own d else .sh d)) (σ.set i (some v)) H) := by
  have hi' : i < σ.length := by rw [← S.len]; exact hi
  have gv : (σ.set i (some v))[i]? = some (some v) := List.getElem?_set_self hi'
  have go : ∀ {j : Nat}, j ≠ i → (σ.set i (some v))[j]? = σ[j]? := fun {j} ne => List.getElem?_set_ne (Ne.symm ne)
  have np : ∀ {j : Nat} {s : Slot} {p : Addr}, ρ[j]? = some s → held s = true → σ[j]? = some (some (V.ref p)) → fl = true → v ≠ .ref p := fun {j s p} h1 h2 h3 h4 h5 => by
    rcases r with ⟨e, _⟩ | ⟨_, k, p', e2, n, f, nh, q⟩
    · rw [h4] at e; cases e
    · rw [h5] at e2
      cases e2
      exact nh (.inr ⟨j, s, h1, h2, h3⟩)
  refine ⟨⟨by rw [List.length_set, List.length_set]; exact S.len, S.sub, fun j s hj => ?_, fun a b s t p h1 h2 h3 h4 h5 h6 => ?_, S.stl, S.sto, S.phF, S.nd⟩, fun {Ω0 ρ0 σ0} t => ⟨t.fm, t.pm, t.new, fun p hp => ?_, t.keep, t.dom, fun j d' hj => ?_⟩⟩
  · rcases getElem_set_some hj with ⟨rfl, rfl⟩ | ⟨ne, hj⟩
    · rw [gv]
      rcases r with ⟨e, q⟩ | ⟨e, k, p, e2, n, f, nh, q⟩
      · subst e; exact ⟨v, rfl, q⟩
      · subst e e2
        exact ⟨k, p, rfl, q, f, fun z => nh (.inl z)⟩
    · rw [go ne]; exact S.slot j s hj
  · rcases getElem_set_some h1 with ⟨ea, es⟩ | ⟨n1, g1⟩
    · rcases getElem_set_some h2 with ⟨eb, et⟩ | ⟨n2, g2⟩
      · rw [ea, eb]
      · rw [ea, gv] at h5
        rw [go n2] at h6
        have hf : fl = true := by rw [es] at h3; cases fl <;> first | rfl | cases h3
        exact absurd (by cases h5; rfl) (np g2 h4 h6 hf)
    · rcases getElem_set_some h2 with ⟨eb, et⟩ | ⟨n2, g2⟩
      · rw [eb, gv] at h6
        rw [go n1] at h5
        have hf : fl = true := by rw [et] at h4; cases fl <;> first | rfl | cases h4
        exact absurd (by cases h6; rfl) (np g1 h3 h5 hf)
      · rw [go n1] at h5
        rw [go n2] at h6
        exact S.dist a b s t p g1 g2 h3 h4 h5 h6
  · rcases hp with hp | ⟨j, d', h1, h2⟩
    · exact t.own p (.inl hp)
    · rcases getElem_set_some h1 with ⟨rfl, e⟩ | ⟨ne, h1⟩
      · rw [gv] at h2
        cases h2
        rcases r with ⟨e', q⟩ | ⟨e', k, p', e2, n, _⟩
        · subst e'; cases e
        · cases e2; exact .inr n
      · rw [go ne] at h2
        exact t.own p (.inr ⟨j, d', h1, h2⟩)
  · obtain ⟨ne, h⟩ := lent_set hj (fun d => by cases fl <;> exact fun z => nomatch z)
    obtain ⟨h1, h2⟩ := t.ln j d' h
    exact ⟨h1, (go ne).trans h2⟩
end
/-! ### targets -/
mutual
def tgIn : Tg → List Nat → Bool
  | .name i, vs => vs.contains i
  | .tup ts, vs => tgsIn ts vs
def tgsIn : List Tg → List Nat → Bool
  | [], _ => true
  | t :: ts, vs => tgIn t vs && tgsIn ts vs
end
def tG (N : Nm) (K : PySem.W.Frag) (tg : Tg) : TG := fun v σ H Q => ∃ Ω ρ st d ρ', StR N K Ω ρ st σ H ∧ Rep N K Ω.φ Ω.F d v ∧ setT tg d ρ = some ρ' ∧
  ∀ σ', StR N K Ω ρ' st σ' H → Step Ω ρ σ H Ω ρ' σ' H → (∀ vs, tgIn tg vs = true → wipe σ' vs = wipe σ vs) → Q σ' H
def tGs (N : Nm) (K : PySem.W.Frag) (tg : List Tg) : TGs := fun us σ H Q => ∃ Ω ρ st ds ρ', StR N K Ω ρ st σ H ∧ Reps N K Ω.φ Ω.F ds us ∧ setTs tg ds ρ = some ρ' ∧
  ∀ σ', StR N K Ω ρ' st σ' H → Step Ω ρ σ H Ω ρ' σ' H → (∀ vs, tgsIn tg vs = true → wipe σ' vs = wipe σ vs) → Q σ' H
abbrev XG (N : Nm) (X : Cx) (e : Expr) (tg : Tg) : Prop := PG X e (tG N X.K tg)
abbrev XGs (N : Nm) (X : Cx) (es : List Expr) (tg : List Tg) : Prop := PGs X es (tGs N X.K tg)
theorem PG.imp {X : Cx} {e : Expr} {t t' : TG} (p : PG X e t) (h : ∀ v σ H Q, t' v σ H Q → t v σ H Q) : PG X e t' := ⟨fun pins s σ H v u Q I r q => p.run pins s σ H v u Q I r (h v σ H Q q)⟩
theorem PGs.imp {X : Cx} {e : List Expr} {t t' : TGs} (p : PGs X e t) (h : ∀ v σ H Q, t' v σ H Q → t v σ H Q) : PGs X e t' := ⟨fun pins s σ H v u Q I r q => p.run pins s σ H v u Q I r (h v σ H Q q)⟩
theorem wipe_set {σ : L2.St} {i : Nat} {o : Option V} : ∀ {vs : List Nat}, vs.contains i = true → wipe (σ.set i o) vs = wipe σ vs
  | [], h => by cases h
  | v :: vs, h => by
    unfold wipe
    by_cases e : v = i
    · subst e
      by_cases hc : vs.contains v = true
      · rw [wipe_set hc]
      · have : ∀ {vs : List Nat}, vs.contains v ≠ true → wipe (σ.set v o) vs = (wipe σ vs).set v o := fun {vs} hc => by
          induction vs with
          | nil => rfl
          | cons w ws ih =>
            have h1 : ws.contains v ≠ true := fun z => hc (by rw [List.contains_cons, z, Bool.or_true])
            have h2 : v ≠ w := fun z => hc (by rw [List.contains_cons, z, beq_self_eq_true, Bool.true_or])
            unfold wipe
            rw [ih h1, List.set_comm _ _ h2]
        rw [this hc, List.set_set]
    · have hc : vs.contains i = true := by
        rw [List.contains_cons, Bool.or_eq_true] at h
        rcases h with h | h
        · exact absurd (beq_iff_eq.mp h).symm e
        · exact h
      rw [wipe_set hc]
section
variable {N : Nm} {W : WX} {X : Cx} {e : Expr} {pos : Pos}
theorem xg_name {i : Nat} {x : Str} (hN : X.N.Nodup) (hi : X.N[i]? = some x) (hx : Loc X.env.scope x) (hf : X.fn x = true ∨ X.env.scope.names.lookup x = some .local) : XG N X (.Name x pos) (.name i) :=
  PG.imp (pg_name hN hi hx hf) fun v σ H Q ⟨Ω, ρ, st, d, ρ', S, r, e, q⟩ => by
    change (if i < ρ.length then some (ρ.set i (.sh d)) else none) = some ρ' at e
    split at e
    · rename_i hl
      cases e
      obtain ⟨S1, t1⟩ := S.put (fl := false) (H0 := H) (.inl ⟨rfl, r⟩) hl
      exact q _ S1 (t1 (Step.refl _ _ _ _)) fun vs h => wipe_set h
    · cases e
theorem xgs_nil : XGs N X [] [] := PGs.imp pgs_nil fun us σ H Q ⟨Ω, ρ, st, ds, ρ', S, r, e, q⟩ => by
  cases ds with
  | nil => cases r; cases e; exact ⟨rfl, q σ S (Step.refl _ _ _ _) fun vs _ => rfl⟩
  | cons d ds => cases e
theorem xgs_cons {es : List Expr} {t : Tg} {ts : List Tg} (h : XG N X e t) (g : XGs N X es ts) (hs : (assignEach (e :: es) X.env).map (·.2) = assign e X.env :: (assignEach es X.env).map (·.2)) : XGs N X (e :: es) (t :: ts) :=
  PGs.imp (pgs_cons h g hs) fun us σ H Q ⟨Ω, ρ, st, ds, ρ', S, r, e, q⟩ => by
    cases ds with
    | nil => cases e
    | cons d ds =>
      cases r with
      | @cons _ _ v vs r1 r2 =>
        change (match setT t d ρ with | some ρ' => setTs ts ds ρ' | none => none) = some ρ' at e
        cases h1 : setT t d ρ with
        | none => rw [h1] at e; cases e
        | some ρ1 =>
          rw [h1] at e
          refine ⟨v, vs, rfl, Ω, ρ, st, d, ρ1, S, r1, h1, fun σ1 S1 t1 w1 => ⟨Ω, ρ1, st, ds, ρ', S1, r2, e, fun σ2 S2 t2 w2 => q σ2 S2 (t1.trans t2) fun vs hv => ?_⟩⟩
          rw [tgsIn, Bool.and_eq_true] at hv
          rw [w2 vs hv.2, w1 vs hv.1]
theorem xg_tup {es : List Expr} {ts : List Tg} {k : Nat} (hc : X.calm = true) (h : XGs N X es ts) (hn : (assignEach es X.env).length = ts.length) (hst : (assignEach es X.env).findIdx? (·.1) = none) : XG N X (.Tuple es k pos) (.tup ts) :=
  PG.imp (pg_tup hc h hn hst) fun v σ H Q ⟨Ω, ρ, st, d, ρ', S, r, e, q⟩ => by
    change (match asTup d with | some ds => setTs ts ds ρ | none => none) = some ρ' at e
    have go : ∀ {a : Addr} {xs : List V} {ds : List D}, v = .ref a → SqT X.K H a xs → Reps N X.K Ω.φ Ω.F ds xs → setTs ts ds ρ = some ρ' → gTup X.K ts.length (tGs N X.K ts) v σ H Q := fun {a xs ds} e1 h1 h2 h3 => by
      have len : ∀ {ts : List Tg} {ds : List D} {ρ ρ' : List Slot}, setTs ts ds ρ = some ρ' → ds.length = ts.length := by
        intro ts
        induction ts with
        | nil => intro ds ρ ρ' h; cases ds <;> first | rfl | cases h
        | cons t ts ih =>
          intro ds ρ ρ' h
          cases ds with
          | nil => cases h
          | cons d ds =>
            change (match setT t d ρ with | some ρ' => setTs ts ds ρ' | none => none) = some ρ' at h
            cases h1 : setT t d ρ with
            | none => rw [h1] at h; cases h
            | some ρ1 => rw [h1] at h; rw [List.length_cons, List.length_cons, ih h]
      exact ⟨a, xs, e1, h1, by rw [← h2.length, len h3], Ω, ρ, st, ds, ρ', S, h2, h3, q⟩
    cases d <;> try (cases e; done)
    · cases r with | tup h1 h2 h3 => exact go rfl (.of (S.sub _ _ h1)) h3 e
    · cases r with | ctup h1 h2 h3 => exact go rfl (SqT.le S.sub h1) h3 e
/-! ### small statements -/
theorem xb_nil : XB N W X [] [] := PSs.imp pss_nil fun D σ H ⟨Ω, ρ, st, S, q⟩ => q Ω σ H S (Step.refl _ _ _ _)
theorem xb_cons {s : Stmt} {ss : List Stmt} {i : S} {is : List S} (h : XS N W X s i) (g : XB N W X ss is) : XB N W X (s :: ss) (i :: is) :=
  PSs.imp (pss_cons h g) fun D σ H ⟨Ω, ρ, st, S, q⟩ => by
    refine ⟨Ω, ρ, st, S, ?_⟩
    change PostS N X.K W Ω ρ σ H D ((runS i ρ st).bind _) at q
    cases h1 : runS i ρ st with
    | stuck => rw [h1] at q; exact q
    | exc e1 ρ1 st1 => rw [h1] at q; exact q
    | ok ρ1 st1 f =>
      rw [h1] at q
      cases f with
      | next =>
        intro Ω1 σ1 H1 S1 t1
        have q' : PostS N X.K W Ω ρ σ H D (runB is ρ1 st1) := q
        exact ⟨Ω1, ρ1, st1, S1, q'.shift t1⟩
      | brk => exact q
      | cont => exact q
      | ret fl d => exact q
theorem xs_expr {i : E} (h : XR N W X e i) (hs : swapsWith e none pos.line X.env = pure false) : XS N W X (.Expr e pos) (.expr i) :=
  PS.imp (ps_expr h.xe hs) fun D σ H ⟨Ω, ρ, st, S, q⟩ => ⟨Ω, ρ, st, S, PostS.bind q fun ρ1 st1 a Ω1 H1 b _ S1 t1 r1 q1 => q1.next S1 t1⟩
theorem xs_pass : XS N W X (.Pass pos) .pass := PS.imp ps_pass fun D σ H ⟨Ω, ρ, st, S, q⟩ => q Ω σ H S (Step.refl _ _ _ _)
theorem xs_break : XS N W X (.Break pos) .brk := PS.imp ps_break fun D σ H ⟨Ω, ρ, st, S, q⟩ => q Ω σ H S (Step.refl _ _ _ _)
theorem xs_continue : XS N W X (.Continue pos) .cont := PS.imp ps_continue fun D σ H ⟨Ω, ρ, st, S, q⟩ => q Ω σ H S (Step.refl _ _ _ _)
theorem xs_retN : XS N W X (.Return none pos) .retN := PS.imp ps_retN fun D σ H ⟨Ω, ρ, st, S, q⟩ => q Ω σ H S (Step.refl _ _ _ _) .non (.inl ⟨rfl, .non⟩)
theorem xs_set {i : Nat} {x : Str} {ie : E} {p : Pos} (hN : X.N.Nodup) (hi : X.N[i]? = some x) (hx : Loc X.env.scope x) (h : XR N W X e ie) (hs : swapsWith e (some (.Name x p)) pos.line X.env = pure false) (hf : X.fn x = true ∨ X.env.scope.names.lookup x = some .local) :
    XS N W X (.Assign [.Name x p] e pos) (.set i ie) :=
  PS.imp (ps_set hN hi hx h.xe hs hf) fun D σ H ⟨Ω, ρ, st, S, q⟩ => ⟨Ω, ρ, st, S, PostS.bind q fun ρ1 st1 a Ω1 H1 b _ S1 t1 r1 q1 => by
    obtain ⟨fl, d⟩ := a
    change PostS N X.K W Ω ρ σ H D (if i < ρ1.length then .ok (ρ1.set i (if fl = true then .own d else .sh d)) st1 .next else .stuck) at q1
    split at q1
    · rename_i hl
      obtain ⟨S2, t2⟩ := S1.put r1 hl
      exact q1.next S2 (t2 t1)
    · exact q1.elim⟩
theorem xs_asg {t : Expr} {ie : E} {tg : Tg} (h : XR N W X e ie) (g : XG N X t tg) (hs : swapsWithSole [t] e pos.line X.env = pure false) (hw : swappedStores [t] e X.env = pure none) (h1 : (assignEach [t] X.env).map (·.2) = [assign t X.env]) :
    XS N W X (.Assign [t] e pos) (.asg tg ie) :=
  PS.imp (ps_asg h.xe g hs hw h1) fun D σ H ⟨Ω, ρ, st, S, q⟩ => ⟨Ω, ρ, st, S, PostS.bind q fun ρ1 st1 a Ω1 H1 b _ S1 t1 r1 q1 => by
    obtain ⟨F', S2, t2, r2⟩ := S1.value t1 r1
    change PostS N X.K W Ω ρ σ H D (match setT tg a.2 ρ1 with | some ρ' => .ok ρ' st1 .next | none => .stuck) at q1
    cases h2 : setT tg a.2 ρ1 with
    | none => rw [h2] at q1; exact q1.elim
    | some ρ' =>
      rw [h2] at q1
      exact ⟨_, ρ1, st1, a.2, ρ', S2, r2, h2, fun σ' S3 t3 _ => q1.next S3 (t2.trans t3)⟩⟩
theorem xs_if {c : Expr} {ss tt : List Stmt} {ic : E} {is js : List S} (hc : XTi N W X c ic) (ha : XB N W X ss is) (hb : XB N W X tt js) : XS N W X (.If c ss tt pos) (.ifs ic is js) :=
  PS.imp (ps_if hc ha hb) fun D σ H ⟨Ω, ρ, st, S, q⟩ => ⟨Ω, ρ, st, S, PostS.bind q fun ρ1 st1 a Ω1 H1 b _ S1 t1 r1 q1 => by
    subst r1
    have q2 := q1.shift t1
    cases a with
    | true => exact ⟨Ω1, ρ1, st1, S1, q2⟩
    | false => exact ⟨Ω1, ρ1, st1, S1, q2⟩⟩
end
end PD

set_option Elab.async false
set_option linter.all false
set_option maxRecDepth 100000
/-! PD12: statements that change a thing of one's own. -/
namespace PD
open PySem PySem.Spec L2

section
variable {N : Nm} {K : PySem.W.Frag} {W : WX} {Ω : Wd} {ρ ρ' : List Slot} {st st' : List D} {σ : L2.St} {H : Hp}
theorem StR.mod {i : Nat} {f : D → Option D} (S : StR N K Ω ρ st σ H) (hm : modV i f ρ st = .ok ρ' st' ()) :
    ∃ p d d', σ[i]? = some (some (V.ref p)) ∧ ORep N K Ω.φ Ω.F H d p ∧ f d = some d' ∧ ∀ o', ORep N K Ω.φ Ω.F (upd H p o') d' p → (frzOk d = true → frzOk d' = true) →
      StR N K Ω ρ' st' σ (upd H p o') ∧ Step Ω ρ σ H Ω ρ' σ (upd H p o') := by
  have base : ∀ {p : Addr} {o' : HO}, Ω.F p = none → Le Ω.F (upd H p o') := fun {p o'} f a o h => by
    rw [upd_ne (ne_of_none h f)]; exact S.sub _ _ h
  have dm : ∀ {p : Addr} {o' : HO} (a : Addr), upd H p o' a = none → H a = none := fun {p o'} a h => by
    by_cases e : a = p
    · subst e; rw [upd_same] at h; cases h
    · rw [upd_ne e] at h; exact h
  unfold modV at hm
  cases hs : ρ[i]? with
  | none => rw [hs] at hm; cases hm
  | some s =>
    rw [hs] at hm
    have sl := S.slot i s hs
    cases s with
    | un => cases hm
    | lent d => cases hm
    | own d =>
      obtain ⟨k, p, e1, r, fp, g⟩ := sl
      obtain ⟨hi, _⟩ := List.getElem?_eq_some_iff.mp hs
      change (match f d with | some d' => Out.ok (ρ.set i (.own d')) st () | none => .stuck) = _ at hm
      cases hf : f d with
      | none => rw [hf] at hm; cases hm
      | some d' =>
        rw [hf] at hm
        cases hm
        refine ⟨p, d, d', e1, r, hf, fun o' r' kk => ?_⟩
        have old : ∀ {j : Nat} {s : Slot}, (ρ.set i (.own d'))[j]? = some s → j ≠ i → ρ[j]? = some s := fun {j s} z ne => by rw [List.getElem?_set_ne (Ne.symm ne)] at z; exact z
        have np : ∀ {j : Nat} {s : Slot} {q : Addr}, ρ[j]? = some s → j ≠ i → held s = true → σ[j]? = some (some (V.ref q)) → q ≠ p := fun {j s q} z ne hs' w' z2 => by
          subst z2
          exact ne (S.dist j i s (.own d) q z hs hs' rfl w' e1)
        have up : ∀ {q : Addr} {o : HO}, q ≠ p → H q = some o → upd H p o' q = some o := fun {q o} ne h => by rw [upd_ne ne]; exact h
        refine ⟨⟨by rw [List.length_set]; exact S.len, base fp, fun j s hj => ?_, fun a b s t q h1 h2 h3 h4 h5 h6 => ?_, S.stl, fun n q c h1 h2 => ?_, S.phF, S.nd⟩, ⟨fun _ _ h => h, Ph.refl _, fun _ h => .inl h, fun q hq => .inl ?_, fun a o ho hn => ?_, dm, fun j d' hj => ⟨(lent_set hj (fun _ z => nomatch z)).2, rfl⟩⟩⟩
        · rcases getElem_set_some hj with ⟨rfl, rfl⟩ | ⟨ne, hj⟩
          · exact ⟨kk k, p, e1, r', fp, g⟩
          · have q := S.slot j s hj
            cases s with
            | un => trivial
            | sh d => exact q
            | own d2 =>
              obtain ⟨k', p', e', q, f', g'⟩ := q
              exact ⟨k', p', e', q.le (fun _ _ h => h) (Ph.refl _) (fun o z => up (np hj ne rfl e') z), f', g'⟩
            | lent d2 =>
              obtain ⟨k', p', e', q, f', g'⟩ := q
              exact ⟨k', p', e', q.le (fun _ _ h => h) (Ph.refl _) (fun o z => up (np hj ne rfl e') z), f', g'⟩
        · have s1 : ∃ s', ρ[a]? = some s' ∧ held s' = true := by
            rcases getElem_set_some h1 with ⟨e, es⟩ | ⟨ne, h1⟩
            · exact ⟨_, e ▸ hs, rfl⟩
            · exact ⟨s, h1, h3⟩
          have s2 : ∃ s', ρ[b]? = some s' ∧ held s' = true := by
            rcases getElem_set_some h2 with ⟨e, es⟩ | ⟨ne, h1⟩
            · exact ⟨_, e ▸ hs, rfl⟩
            · exact ⟨t, h1, h4⟩
          obtain ⟨s', g1, g2⟩ := s1
          obtain ⟨t', g3, g4⟩ := s2
          exact S.dist a b s' t' q g1 g3 g2 g4 h5 h6
        · have ne : q ≠ p := fun z => g (by rw [← z]; exact List.mem_of_getElem? h1)
          exact (S.sto n q c h1 h2).le (fun _ _ h => h) (Ph.refl _) (fun o z => up ne z)
        · rcases hq with hq | ⟨j, d2, h1, h2⟩
          · exact .inl hq
          · rcases getElem_set_some h1 with ⟨e, es⟩ | ⟨ne, h1⟩
            · exact .inr ⟨i, d, hs, e ▸ h2⟩
            · exact .inr ⟨j, d2, h1, h2⟩
        · exact up (fun z => hn (.inr ⟨i, d, hs, z ▸ e1⟩)) ho
    | sh d =>
      cases d <;> try (cases hm; done)
      rename_i n
      obtain ⟨x, e1, rx⟩ := sl
      cases rx with
      | @cell _ p hp =>
        change (match st[n]? with | some d => (match f d with | some d' => Out.ok ρ (st.set n d') () | none => .stuck) | none => .stuck) = _ at hm
        cases hst : st[n]? with
        | none => rw [hst] at hm; cases hm
        | some d =>
          rw [hst] at hm
          change (match f d with | some d' => Out.ok ρ (st.set n d') () | none => .stuck) = _ at hm
          cases hf : f d with
          | none => rw [hf] at hm; cases hm
          | some d' =>
            rw [hf] at hm
            cases hm
            have hpm : p ∈ Ω.φ := List.mem_of_getElem? hp
            refine ⟨p, d, d', e1, S.sto n p d hp hst, hf, fun o' r' _ => ?_⟩
            have up : ∀ {q : Addr} {o : HO}, q ≠ p → H q = some o → upd H p o' q = some o := fun {q o} ne h => by rw [upd_ne ne]; exact h
            refine ⟨⟨S.len, base (S.phF p hpm), fun j s hj => ?_, S.dist, by rw [List.length_set]; exact S.stl, fun m q c h1 h2 => ?_, S.phF, S.nd⟩, ⟨fun _ _ h => h, Ph.refl _, fun _ h => .inl h, fun q hq => .inl hq, fun a o ho hn => ?_, dm, fun _ _ h => ⟨h, rfl⟩⟩⟩
            · have q := S.slot j s hj
              cases s with
              | un => trivial
              | sh d => exact q
              | own d2 =>
                obtain ⟨k', p', e', q, f', g'⟩ := q
                exact ⟨k', p', e', q.le (fun _ _ h => h) (Ph.refl _) (fun o z => up (fun z => g' (z ▸ hpm)) z), f', g'⟩
              | lent d2 =>
                obtain ⟨k', p', e', q, f', g'⟩ := q
                exact ⟨k', p', e', q.le (fun _ _ h => h) (Ph.refl _) (fun o z => up (fun z => g' (z ▸ hpm)) z), f', g'⟩
            · rcases getElem_set_some h2 with ⟨rfl, rfl⟩ | ⟨ne, h2⟩
              · rw [hp] at h1; cases h1; exact r'
              · have neq : q ≠ p := fun z => by
                  subst z
                  obtain ⟨b1, c1⟩ := List.getElem?_eq_some_iff.mp h1
                  obtain ⟨b2, c2⟩ := List.getElem?_eq_some_iff.mp hp
                  exact ne ((List.getElem_inj S.nd).mp (c1.trans c2.symm))
                exact (S.sto m q c h1 h2).le (fun _ _ h => h) (Ph.refl _) (fun o z => up neq z)
            · exact up (fun z => hn (.inl (z ▸ hpm))) ho
theorem StR.lstAt {i : Nat} (S : StR N K Ω ρ st σ H) (h : lstAt ρ st i = true) : ∃ v, σ[i]? = some (some v) ∧ tyV K "list" v H := by
  unfold PD.lstAt at h
  have hu : isUn ρ[i]? = false := by
    unfold PD.rez at h
    dsimp only at h
    cases q : ρ[i]? with
    | none => rw [q] at h; cases h
    | some s => rw [q] at h; cases s <;> first | rfl | cases h
  obtain ⟨v, e⟩ := S.there hu
  refine ⟨v, e, ?_⟩
  cases q : PD.rez ρ st (.inl i) with
  | none => rw [q] at h; cases h
  | some d =>
    rw [q] at h
    cases d <;> try (cases h; done)
    have p := S.rez (o := .inl i) (v := v) e q
    obtain ⟨a, xs, rfl, g, _⟩ := p.lst S.sub
    exact .inl ⟨rfl, xs, .of g⟩
end
section
variable {N : Nm} {W : WX} {X : Cx} {e : Expr} {pos : Pos}
theorem PostS.noFl {Ω : Wd} {ρ : List Slot} {σ : L2.St} {H : Hp} {D : Ends} {r : Out Unit} (h : PostS N X.K W Ω ρ σ H D (noFl r)) : (∃ ρ' st', r = .ok ρ' st' () ∧ PostS N X.K W Ω ρ σ H D (.ok ρ' st' .next)) ∨ (∃ e ρ' st', r = .exc e ρ' st') := by
  cases r with
  | ok ρ' st' u => exact .inl ⟨ρ', st', rfl, h⟩
  | exc e ρ' st' => exact .inr ⟨e, ρ', st', rfl⟩
  | stuck => exact h.elim
theorem modV_exc {i : Nat} {f : D → Option D} {ρ : List Slot} {st : List D} {e : Ex} {ρ' : List Slot} {st' : List D} (h : modV i f ρ st = .exc e ρ' st') : False := by
  unfold modV at h
  split at h
  · split at h <;> cases h
  · split at h
    · split at h <;> cases h
    · cases h
  · cases h
/-- the store behind the argument -/
theorem use_mod {Ω Ω0 : Wd} {ρ ρ0 : List Slot} {st : List D} {σ σ0 : L2.St} {H H0 : Hp} {D : Ends} {i : Nat} {f : PD.D → Option PD.D} (S : StR N X.K Ω ρ st σ H) (t : Step Ω0 ρ0 σ0 H0 Ω ρ σ H) (h : PostS N X.K W Ω0 ρ0 σ0 H0 D (noFl (modV i f ρ st))) :
    ∃ p d d', σ[i]? = some (some (V.ref p)) ∧ ORep N X.K Ω.φ Ω.F H d p ∧ f d = some d' ∧ ∀ o', ORep N X.K Ω.φ Ω.F (upd H p o') d' p → (frzOk d = true → frzOk d' = true) → D.nx σ (upd H p o') := by
  rcases PostS.noFl (X := X) h with ⟨ρ', st', e, q⟩ | ⟨e, ρ', st', z⟩
  · obtain ⟨p, d, d', h1, h2, h3, h4⟩ := S.mod e
    exact ⟨p, d, d', h1, h2, h3, fun o' r k => q.next (h4 o' r k).1 (t.trans (h4 o' r k).2)⟩
  · exact (modV_exc z).elim
/-- x.m(e), a change of the list at x -/
theorem xs_mut1 {i : Nat} {x : Str} {name : Str} {id : String} {ie : E} {p ap cp : Pos} {f : D → D → Option D} {s : S} {r : V → List V → Hp → VK → Prop} (hN : X.N[i]? = some x) (hv : Vis X.env.scope x) (hd : (x == ("__debug__" : Str)) = false) (hcd : (x == ("__classdict__" : Str)) = false)
    (slot : PySem.Slot "list" name id) (hty : typeOf (.builtin id) = pure (.type "method_descriptor")) (hm : MtR X id r) (h : XR N W X e ie)
    (hs : ∀ ρ st, runS s ρ st = if lstAt ρ st i = false then .stuck else (run ie ρ st).bind fun ρ st p => noFl (modV i (f p.2) ρ st))
    (use : ∀ {Ω : Wd} {H : Hp} {y : V} {d d' d0 : D} {p : Addr} {R : Hp → Prop}, Le Ω.F H → Rep N X.K Ω.φ Ω.F d0 y → Ω.F p = none ∨ True → ORep N X.K Ω.φ Ω.F H d p → f d0 d = some d' → (∀ o', ORep N X.K Ω.φ Ω.F (upd H p o') d' p → (frzOk d = true → frzOk d' = true) → R (upd H p o')) → r (.ref p) [y] H (fun _ H2 => R H2))
    (hst : starEach [e] X.env = [(false, eval e X.env)]) (hline : (ap.endLine == cp.line) = true) (hsw : swapsWith (.Call (.Attribute (.Name x p) name ap) [e] [] cp) none pos.line X.env = pure false) : XS N W X (.Expr (.Call (.Attribute (.Name x p) name ap) [e] [] cp) pos) s :=
  PS.imp (ps_expr (pe_bm F.plainAttrs_list slot hty hm (pe_var (pos := p) hN hv hd hcd) (pa_cons h.xd pa_nil hst) rfl (by rw [hst]; rfl) hline hst (by rfl)) hsw) fun D σ H ⟨Ω, ρ, st, S, q⟩ => by
    rw [hs] at q
    cases hl : lstAt ρ st i with
    | false => rw [hl] at q; exact q.elim
    | true =>
      rw [hl] at q
      obtain ⟨v, ev, ty⟩ := S.lstAt hl
      refine ⟨v, ev, ty, Ω, ρ, st, S, ?_⟩
      have q' : PostS N X.K W Ω ρ σ H D ((run ie ρ st).bind fun ρ st p => noFl (modV i (f p.2) ρ st)) := q
      show Post N X.K W (RD N X.K) Ω ρ σ H _ ((run ie ρ st).bind fun ρ st p => .ok ρ st p.2)
      cases h1 : run ie ρ st with
      | stuck => rw [h1] at q'; exact q'.elim
      | exc e1 ρ1 st1 => rw [h1] at q'; exact fun Ω' H' S' t' => q' Ω' σ H' S' t'
      | ok ρ1 st1 p1 =>
        rw [h1] at q'
        intro Ω1 H1 y S1 t1 r1
        have q2 : PostS N X.K W Ω ρ σ H D (noFl (modV i (f p1.2) ρ1 st1)) := q'
        obtain ⟨p, d, d', h3, h4, h5, h6⟩ := use_mod S1 t1 q2
        rw [ev] at h3
        cases h3
        exact use (R := D.nx σ) S1.sub r1 (.inr trivial) h4 h5 h6
theorem xs_append {i : Nat} {x : Str} {ie : E} {p ap cp : Pos} (hN : X.N[i]? = some x) (hv : Vis X.env.scope x) (hd : (x == ("__debug__" : Str)) = false) (hcd : (x == ("__classdict__" : Str)) = false) (h : XR N W X e ie)
    (hst : starEach [e] X.env = [(false, eval e X.env)]) (hline : (ap.endLine == cp.line) = true) (hsw : swapsWith (.Call (.Attribute (.Name x p) "append" ap) [e] [] cp) none pos.line X.env = pure false) : XS N W X (.Expr (.Call (.Attribute (.Name x p) "append" ap) [e] [] cp) pos) (.append i ie) :=
  xs_mut1 (f := mApp) hN hv hd hcd F.slot_list_append F.type_list_append mt_append h (fun _ _ => rfl) (fun {Ω H y d d' d0 p R} sub r0 _ o e k => by
    cases d <;> try exact o.elim
    · rename_i ds
      obtain ⟨xs, h1, h2, h3⟩ := o
      have e' : (if ds.length < 16777216 then some (D.lst (ds ++ [d0])) else none) = some d' := e
      split at e'
      · rename_i hl
        cases e'
        exact ⟨p, xs, y, rfl, rfl, h1, by rw [← h3.length]; exact hl, k _ ⟨_, upd_same, by rw [List.length_append, ← h3.length]; exact hl, h3.append (.cons r0 .nil)⟩ (fun _ => rfl)⟩
      · cases e'
    all_goals cases e) hst hline hsw
end
end PD

set_option Elab.async false
set_option linter.all false
set_option maxRecDepth 100000
/-! PD13: more statements that change a thing of one's own; returns; raising. -/
namespace PD
open PySem PySem.Spec L2
section
variable {N : Nm} {W : WX} {X : Cx} {e a b : Expr} {pos : Pos}
theorem xs_extend {i : Nat} {x : Str} {ie : E} {p ap cp : Pos} (hN : X.N[i]? = some x) (hv : Vis X.env.scope x) (hd : (x == ("__debug__" : Str)) = false) (hcd : (x == ("__classdict__" : Str)) = false) (h : XR N W X e ie)
    (hst : starEach [e] X.env = [(false, eval e X.env)]) (hline : (ap.endLine == cp.line) = true) (hsw : swapsWith (.Call (.Attribute (.Name x p) "extend" ap) [e] [] cp) none pos.line X.env = pure false) : XS N W X (.Expr (.Call (.Attribute (.Name x p) "extend" ap) [e] [] cp) pos) (.extend i ie) :=
  xs_mut1 (f := mExt) hN hv hd hcd F.slot_list_extend F.type_list_extend mt_extend h (fun _ _ => rfl) (fun {Ω H y d d' d0 p R} sub r0 _ o e k => by
    cases d <;> try exact o.elim
    · rename_i ds
      obtain ⟨xs, h1, h2, h3⟩ := o
      cases d0 <;> try (cases e; done)
      rename_i es
      cases r0 with
      | @lst b zs _ g1 g2 g3 =>
        have e' : (if ds.length + es.length ≤ 16777216 then some (D.lst (ds ++ es)) else none) = some d' := e
        split at e'
        · rename_i hl
          cases e'
          have hz : xs.length + zs.length ≤ sizeLine := by rw [← h3.length, ← g3.length]; exact hl
          exact ⟨p, _, xs, zs, rfl, rfl, h1, sub _ _ g1, hz, k _ ⟨_, upd_same, by rw [List.length_append]; exact hz, h3.append g3⟩ (fun _ => rfl)⟩
        · cases e'
    all_goals (cases d0 <;> cases e)) hst hline hsw
theorem xs_popAt {i : Nat} {x : Str} {ie : E} {p ap cp : Pos} (hN : X.N[i]? = some x) (hv : Vis X.env.scope x) (hd : (x == ("__debug__" : Str)) = false) (hcd : (x == ("__classdict__" : Str)) = false) (h : XR N W X e ie)
    (hst : starEach [e] X.env = [(false, eval e X.env)]) (hline : (ap.endLine == cp.line) = true) (hsw : swapsWith (.Call (.Attribute (.Name x p) "pop" ap) [e] [] cp) none pos.line X.env = pure false) : XS N W X (.Expr (.Call (.Attribute (.Name x p) "pop" ap) [e] [] cp) pos) (.popAt i ie) :=
  xs_mut1 (f := mPop) hN hv hd hcd F.slot_list_pop F.type_list_pop mt_popAt h (fun _ _ => rfl) (fun {Ω H y d d' d0 p R} sub r0 _ o e k => by
    cases d <;> try exact o.elim
    · rename_i ds
      obtain ⟨xs, h1, h2, h3⟩ := o
      cases d0 <;> try (cases e; done)
      rename_i m
      cases r0
      have e' : (if 0 ≤ m ∧ m < ds.length ∧ ds.length < 1000000 then some (D.lst (ds.eraseIdx m.toNat)) else none) = some d' := e
      split at e'
      · rename_i hl
        cases e'
        have hx : ds.length = xs.length := h3.length
        have hm : m.toNat < xs.length := by omega
        have hs : seqIndex? m xs.length = some m.toNat := by
          have n1 : ¬ m < 0 := by omega
          have n2 : m < (xs.length : Int) := by omega
          simp only [seqIndex?, if_neg n1, decide_eq_true hl.1, decide_eq_true n2, Bool.and_self, if_true]
        exact ⟨p, xs, m, m.toNat, xs[m.toNat], rfl, rfl, h1, by omega, by omega, hs, List.getElem?_eq_getElem hm, k _ ⟨_, upd_same, Nat.le_trans (List.length_eraseIdx_le ..) h2, h3.erase _⟩ (fun _ => rfl)⟩
      · cases e'
    all_goals (cases d0 <;> cases e)) hst hline hsw
theorem xs_clear {i : Nat} {x : Str} {p ap cp : Pos} (hN : X.N[i]? = some x) (hv : Vis X.env.scope x) (hd : (x == ("__debug__" : Str)) = false) (hcd : (x == ("__classdict__" : Str)) = false)
    (hline : (ap.endLine == cp.line) = true) (hsw : swapsWith (.Call (.Attribute (.Name x p) "clear" ap) [] [] cp) none pos.line X.env = pure false) : XS N W X (.Expr (.Call (.Attribute (.Name x p) "clear" ap) [] [] cp) pos) (.clear i) :=
  PS.imp (ps_expr (pe_bm0 F.plainAttrs_list F.slot_list_clear F.type_list_clear mt_clear (pe_var (pos := p) hN hv hd hcd) rfl hline) hsw) fun D σ H ⟨Ω, ρ, st, S, q⟩ => by
    change PostS N X.K W Ω ρ σ H D (if lstAt ρ st i = false then .stuck else noFl (modV i mClear ρ st)) at q
    cases hl : lstAt ρ st i with
    | false => rw [hl] at q; exact q.elim
    | true =>
      rw [hl] at q
      obtain ⟨v, ev, ty⟩ := S.lstAt hl
      refine ⟨v, ev, ty, ?_⟩
      have q' : PostS N X.K W Ω ρ σ H D (noFl (modV i mClear ρ st)) := q
      obtain ⟨p, d, d', h3, h4, h5, h6⟩ := use_mod S (Step.refl _ _ _ _) q'
      rw [ev] at h3
      cases h3
      cases d <;> try (cases h5; done)
      cases h5
      obtain ⟨xs, h1, h2, h3⟩ := h4
      exact ⟨p, xs, rfl, rfl, h1, h6 _ ⟨[], upd_same, Nat.zero_le _, .nil⟩ (fun _ => rfl)⟩
theorem xs_insert {i : Nat} {x : Str} {ia ib : E} {p ap cp : Pos} (hN : X.N[i]? = some x) (hv : Vis X.env.scope x) (hd : (x == ("__debug__" : Str)) = false) (hcd : (x == ("__classdict__" : Str)) = false) (ha : XR N W X a ia) (hb : XR N W X b ib)
    (hst : starEach [a, b] X.env = [(false, eval a X.env), (false, eval b X.env)]) (hst2 : starEach [b] X.env = [(false, eval b X.env)]) (hline : (ap.endLine == cp.line) = true) (hsw : swapsWith (.Call (.Attribute (.Name x p) "insert" ap) [a, b] [] cp) none pos.line X.env = pure false) : XS N W X (.Expr (.Call (.Attribute (.Name x p) "insert" ap) [a, b] [] cp) pos) (.insert i ia ib) :=
  PS.imp (ps_expr (pe_bm F.plainAttrs_list F.slot_list_insert F.type_list_insert mt_insert (pe_var (pos := p) hN hv hd hcd) (pa_cons ha.xd (pa_cons hb.xd pa_nil hst2) (by rw [hst, hst2])) rfl (by rw [hst]; rfl) hline (by rw [hst, hst2]) (by rw [hst2]; rfl)) hsw) fun D σ H ⟨Ω, ρ, st, S, q⟩ => by
    change PostS N X.K W Ω ρ σ H D (if lstAt ρ st i = false then .stuck else (run ia ρ st).bind fun ρ st p => (run ib ρ st).bind fun ρ st q => noFl (modV i (mIns p.2 q.2) ρ st)) at q
    cases hl : lstAt ρ st i with
    | false => rw [hl] at q; exact q.elim
    | true =>
      rw [hl] at q
      obtain ⟨v, ev, ty⟩ := S.lstAt hl
      refine ⟨v, ev, ty, Ω, ρ, st, S, ?_⟩
      have q' : PostS N X.K W Ω ρ σ H D ((run ia ρ st).bind fun ρ st p => (run ib ρ st).bind fun ρ st q => noFl (modV i (mIns p.2 q.2) ρ st)) := q
      show Post N X.K W (RD N X.K) Ω ρ σ H _ ((run ia ρ st).bind fun ρ st p => .ok ρ st p.2)
      cases h1 : run ia ρ st with
      | stuck => rw [h1] at q'; exact q'.elim
      | exc e1 ρ1 st1 => rw [h1] at q'; exact fun Ω' H' S' t' => q' Ω' σ H' S' t'
      | ok ρ1 st1 p1 =>
        rw [h1] at q'
        intro Ω1 H1 y1 S1 t1 r1
        refine ⟨Ω1, ρ1, st1, S1, ?_⟩
        have q2 : PostS N X.K W Ω ρ σ H D ((run ib ρ1 st1).bind fun ρ st q => noFl (modV i (mIns p1.2 q.2) ρ st)) := q'
        show Post N X.K W (RD N X.K) Ω1 ρ1 σ H1 _ ((run ib ρ1 st1).bind fun ρ st p => .ok ρ st p.2)
        cases h2 : run ib ρ1 st1 with
        | stuck => rw [h2] at q2; exact q2.elim
        | exc e1 ρ2 st2 => rw [h2] at q2; exact fun Ω' H' S' t' => q2 Ω' σ H' S' (t1.trans t')
        | ok ρ2 st2 p2 =>
          rw [h2] at q2
          intro Ω2 H2 y2 S2 t2 r2
          have q3 : PostS N X.K W Ω ρ σ H D (noFl (modV i (mIns p1.2 p2.2) ρ2 st2)) := q2
          obtain ⟨p, d, d', h3, h4, h5, h6⟩ := use_mod S2 (t1.trans t2) q3
          rw [ev] at h3
          cases h3
          have r1' := Rep.step r1 t2
          obtain ⟨f1, d1⟩ := p1
          obtain ⟨f2, d2⟩ := p2
          change mIns d1 d2 d = some d' at h5
          replace r1' : Rep N X.K Ω2.φ Ω2.F d1 y1 := r1'
          replace r2 : Rep N X.K Ω2.φ Ω2.F d2 y2 := r2
          cases d <;> try (cases h5; done)
          rename_i ds
          cases d1 <;> try (cases h5; done)
          rename_i m
          obtain ⟨xs, g1, g2, g3⟩ := h4
          cases r1'
          have e' : (if 0 ≤ m ∧ m ≤ ds.length ∧ ds.length < 1000000 then some (PD.D.lst (ds.take m.toNat ++ d2 :: ds.drop m.toNat)) else none) = some d' := h5
          have hx : ds.length = xs.length := g3.length
          split at e'
          · rename_i hl
            cases e'
            have hz : xs.length < sizeLine := by rw [sizeLine_eq]; omega
            refine ⟨p, xs, m, y2, rfl, rfl, g1, hz, hl.1, by omega, h6 _ ⟨_, upd_same, ?_, ?_⟩ (fun _ => rfl)⟩
            · rw [List.append_assoc, List.length_append, List.length_append, List.length_take, List.length_drop, List.length_singleton]; omega
            · rw [List.append_assoc]
              exact (g3.take _).append (.cons r2 (g3.drop _))
          · cases e'
end
end PD

set_option Elab.async false
set_option linter.all false
set_option maxRecDepth 100000
/-! PD14: x[k] = e, x.f = e; returns; raising. -/
namespace PD
open PySem PySem.Spec L2
section
variable {N : Nm} {K : PySem.W.Frag} {φ : List Addr} {F : Hp}
theorem kOfs_some {ds : List D} {k : List Key} {vs : List V} (h : Reps N K φ F ds vs) (e : kOfs ds = some k) : vs = k.map kV := by
  induction ds generalizing k vs with
  | nil => cases h; cases e; rfl
  | cons d ds ih =>
    cases h with
    | cons h1 h2 =>
      unfold kOfs at e
      cases hk : kOf d with
      | none => rw [hk] at e; cases e
      | some k1 =>
        cases hks : kOfs ds with
        | none => rw [hk, hks] at e; cases e
        | some ks =>
          rw [hk, hks] at e
          cases e
          rw [ih h2 hks]
          cases d <;> try (cases hk; done)
          · cases hk; cases h1; rfl
          · cases hk; cases h1; rfl
theorem putK_rep {kvs : List (List Key × V)} {vs : List D} {k : List Key} {d : D} {v : V} (h : Reps N K φ F vs (kvs.map (·.2))) (r : Rep N K φ F d v) :
    (putK kvs k v).map (·.1) = (putA (kvs.map (·.1)) vs k d).1 ∧ Reps N K φ F (putA (kvs.map (·.1)) vs k d).2 ((putK kvs k v).map (·.2)) := by
  have ea : ((kvs.map (·.1)).any fun k' => decide (k' = k)) = kvs.any fun kv => decide (kv.1 = k) := by rw [List.any_map]; rfl
  unfold putA putK
  rw [ea]
  split
  · constructor
    · rw [List.map_map]
      refine List.map_congr_left fun p _ => ?_
      show (if p.1 = k then (p.1, v) else p).1 = p.1
      split <;> rfl
    · rename_i hh
      clear hh ea
      induction kvs generalizing vs with
      | nil => cases vs <;> exact .nil
      | cons p kvs ih =>
        cases vs with
        | nil => cases h
        | cons d' vs =>
          cases h with
          | cons h1 h2 =>
            refine .cons ?_ (ih h2)
            show Rep N K φ F (if p.1 = k then d else d') (if p.1 = k then (p.1, v) else p).2
            split
            · exact r
            · exact h1
  · constructor
    · rw [List.map_append]; rfl
    · rw [List.map_append]; exact h.append (.cons r .nil)
theorem put1_len {κ : Type} [DecidableEq κ] {ks : List κ} {vs : List D} {k : κ} {d : D} : True := trivial
theorem putF_rep {f : Str} {d : D} {v : V} (r : Rep N K φ F d v) : ∀ {fs : List (Str × V)} {vs : List D}, Reps N K φ F vs (fs.map (·.2)) →
    (putF f v fs).map (·.1) = (put1 (fs.map (·.1)) vs f d).1 ∧ Reps N K φ F (put1 (fs.map (·.1)) vs f d).2 ((putF f v fs).map (·.2))
  | [], vs, h => by cases h; exact ⟨rfl, .cons r .nil⟩
  | (g, x) :: fs, vs, h => by
    cases h with
    | @cons d1 ds _ _ h1 h2 =>
      obtain ⟨e1, e2⟩ := putF_rep r h2
      unfold putF
      show (if g = f then (g, v) :: fs else (g, x) :: putF f v fs).map (·.1) = (if g = f then (g :: fs.map (·.1), d :: ds) else (g :: (put1 (fs.map (·.1)) ds f d).1, d1 :: (put1 (fs.map (·.1)) ds f d).2)).1 ∧
        Reps N K φ F (if g = f then (g :: fs.map (·.1), d :: ds) else (g :: (put1 (fs.map (·.1)) ds f d).1, d1 :: (put1 (fs.map (·.1)) ds f d).2)).2 ((if g = f then (g, v) :: fs else (g, x) :: putF f v fs).map (·.2))
      split
      · exact ⟨rfl, .cons r h2⟩
      · exact ⟨by rw [List.map_cons, e1], .cons h1 e2⟩
end
section
variable {N : Nm} {W : WX} {X : Cx} {e a b : Expr} {pos : Pos}
/-- both kinds of things whose items are set -/
def rSet : TSet := fun o i v H Q => rSetL o i v H Q ∨ rSetD o i v H Q
theorem set_any (hu : X.A.units + 1 < cLine) : PSet X rSet := by
  intro pins s σ H o i v ov iv u Q I ro ri rv h
  rcases h with h | h
  · exact set_list pins s σ H o i v ov iv u Q I ro ri rv h
  · exact set_dict hu pins s σ H o i v ov iv u Q I ro ri rv h
theorem xs_setItem {i : Nat} {x : Str} {k : Expr} {ik ie : E} {p sp : Pos} (hu : X.A.units + 1 < cLine) (hN : X.N[i]? = some x) (hv : Vis X.env.scope x) (hd : (x == ("__debug__" : Str)) = false) (hcd : (x == ("__classdict__" : Str)) = false) (hk : XR N W X k ik) (he : XR N W X e ie)
    (ha : ∀ v, assign (.Subscript (.Name x p) k sp) X.env v = (do
      let ov ← holding [v] (eval (.Name x p) X.env)
      let iv ← holding [v, ov] (eval k X.env)
      standAt sp
      holding [v, ov, iv] (setItem ov iv v)
      release [v, ov, iv] []))
    (hs : swapsWithSole [.Subscript (.Name x p) k sp] e pos.line X.env = pure false) (hw : swappedStores [.Subscript (.Name x p) k sp] e X.env = pure none) (h1 : (assignEach [.Subscript (.Name x p) k sp] X.env).map (·.2) = [assign (.Subscript (.Name x p) k sp) X.env]) : XS N W X (.Assign [.Subscript (.Name x p) k sp] e pos) (.setItem i ik ie) :=
  PS.imp (ps_asg he.xd (pg_sub (xo_var (N := N) (W := W) (pe_var (pos := p) hN hv hd hcd)) hk.xd (set_any hu) ha) hs hw h1) fun D σ H ⟨Ω, ρ, st, S, q⟩ => by
    refine ⟨Ω, ρ, st, S, ?_⟩
    change PostS N X.K W Ω ρ σ H D ((run ie ρ st).bind fun ρ st p => if isUn ρ[i]? then .stuck else (run ik ρ st).bind fun ρ st q => noFl (modV i (mPut q.2 p.2) ρ st)) at q
    show Post N X.K W (RD N X.K) Ω ρ σ H _ ((run ie ρ st).bind fun ρ st p => .ok ρ st p.2)
    cases h1 : run ie ρ st with
    | stuck => rw [h1] at q; exact q.elim
    | exc e1 ρ1 st1 => rw [h1] at q; exact fun Ω' H' S' t' => q Ω' σ H' S' t'
    | ok ρ1 st1 p1 =>
      rw [h1] at q
      intro Ω1 H1 y S1 t1 r1
      have q1 : PostS N X.K W Ω ρ σ H D (if isUn ρ1[i]? then .stuck else (run ik ρ1 st1).bind fun ρ st q => noFl (modV i (mPut q.2 p1.2) ρ st)) := q
      refine ⟨Ω1, ρ1, st1, S1, ?_⟩
      cases hu : isUn ρ1[i]? with
      | true => rw [hu] at q1; exact q1.elim
      | false =>
        rw [hu] at q1
        have q2 : PostS N X.K W Ω ρ σ H D ((run ik ρ1 st1).bind fun ρ st q => noFl (modV i (mPut q.2 p1.2) ρ st)) := q1
        show Post N X.K W (RO N X.K σ) Ω1 ρ1 σ H1 _ (if isUn ρ1[i]? = true then _ else _)
        rw [hu]
        intro Ω2 H2 o S2 t2 r2
        refine ⟨Ω2, ρ1, st1, S2, ?_⟩
        show Post N X.K W (RD N X.K) Ω2 ρ1 σ H2 _ ((run ik ρ1 st1).bind fun ρ st p => .ok ρ st p.2)
        cases h3 : run ik ρ1 st1 with
        | stuck => rw [h3] at q2; exact q2.elim
        | exc e1 ρ2 st2 => rw [h3] at q2; exact fun Ω' H' S' t' => q2 Ω' σ H' S' ((t1.trans t2).trans t')
        | ok ρ2 st2 p2 =>
          rw [h3] at q2
          intro Ω3 H3 kv S3 t3 r3
          have q3 : PostS N X.K W Ω ρ σ H D (noFl (modV i (mPut p2.2 p1.2) ρ2 st2)) := q2
          obtain ⟨p, d, d', g1, g2, g3, g4⟩ := use_mod S3 ((t1.trans t2).trans t3) q3
          have r2' : σ[i]? = some (some o) := r2
          rw [r2'] at g1
          cases g1
          have r1' := Rep.step (Rep.step r1 t2) t3
          obtain ⟨f1, d1⟩ := p1
          obtain ⟨f2, d2⟩ := p2
          change mPut d2 d1 d = some d' at g3
          replace r1' : Rep N X.K Ω3.φ Ω3.F d1 y := r1'
          replace r3 : Rep N X.K Ω3.φ Ω3.F d2 kv := r3
          cases d <;> try (cases g3; done)
          · rename_i ds
            cases d2 <;> try (cases g3; done)
            rename_i m
            obtain ⟨xs, k1, k2, k3⟩ := g2
            cases r3
            have e' : ((ixN ds.length m).map fun j => PD.D.lst (ds.set j d1)) = some d' := g3
            cases hj : ixN ds.length m with
            | none => rw [hj] at e'; cases e'
            | some j =>
              rw [hj] at e'
              cases e'
              refine .inl ⟨p, xs, m, j, rfl, rfl, k1, by rw [← k3.length]; exact hj, g4 _ ⟨_, upd_same, by rw [List.length_set]; exact k2, k3.set j r1'⟩ (fun _ => rfl)⟩
          · rename_i ks vs
            cases d2 <;> try (cases g3; done)
            rename_i es
            obtain ⟨kvs, k1, k2, k3, k4⟩ := g2
            subst k2
            cases r3 with
            | @tup b zs _ z1 z2 z3 =>
              have e' : (match kOfs es with | some k => if (kvs.map (·.1)).length < 16777216 then some (PD.D.dt (putA (kvs.map (·.1)) vs k d1).1 (putA (kvs.map (·.1)) vs k d1).2) else none | none => none) = some d' := g3
              cases hk : kOfs es with
              | none => rw [hk] at e'; cases e'
              | some kk =>
                rw [hk] at e'
                simp only [] at e'
                split at e'
                · rename_i hl
                  cases e'
                  rw [List.length_map] at hl
                  have ez := kOfs_some z3 hk
                  subst ez
                  obtain ⟨w1, w2⟩ := putK_rep (k := kk) k4 r1'
                  refine .inr ⟨p, _, rfl, .inr ⟨kvs, kk, b, k1, rfl, S3.sub _ _ z1, hl, rfl⟩, g4 _ ⟨_, upd_same, w1, ?_, w2⟩ (fun _ => rfl)⟩
                  unfold putK
                  split
                  · rw [List.length_map]; exact k3
                  · rw [List.length_append]; exact hl
                · cases e'
theorem xs_setAttr {i : Nat} {x f : Str} {ie : E} {p pos' : Pos} (hN : X.N[i]? = some x) (hv : Vis X.env.scope x) (hd : (x == ("__debug__" : Str)) = false) (hcd : (x == ("__classdict__" : Str)) = false) (he : XR N W X e ie) (hc : Cls X.K N.desk) (hn : NoAttr X.K N.desk f)
    (hs : swapsWith e (some (.Attribute (.Name x p) f pos')) pos.line X.env = pure false) : XS N W X (.Assign [.Attribute (.Name x p) f pos'] e pos) (.setAttr i f ie) :=
  PS.imp (ps_fld (pe_var (pos := p) hN hv hd hcd) he.xd hs) fun D σ H ⟨Ω, ρ, st, S, q⟩ => by
    refine ⟨Ω, ρ, st, S, ?_⟩
    change PostS N X.K W Ω ρ σ H D ((run ie ρ st).bind fun ρ st p => noFl (modV i (mFld f p.2) ρ st)) at q
    show Post N X.K W (RD N X.K) Ω ρ σ H _ ((run ie ρ st).bind fun ρ st p => .ok ρ st p.2)
    cases h1 : run ie ρ st with
    | stuck => rw [h1] at q; exact q.elim
    | exc e1 ρ1 st1 => rw [h1] at q; exact fun Ω' H' S' t' => q Ω' σ H' S' t'
    | ok ρ1 st1 p1 =>
      rw [h1] at q
      intro Ω1 H1 y S1 t1 r1
      have q1 : PostS N X.K W Ω ρ σ H D (noFl (modV i (mFld f p1.2) ρ1 st1)) := q
      obtain ⟨p, d, d', g1, g2, g3, g4⟩ := use_mod S1 t1 q1
      refine ⟨.ref p, g1, ?_⟩
      obtain ⟨f1, d1⟩ := p1
      change mFld f d1 d = some d' at g3
      replace r1 : Rep N X.K Ω1.φ Ω1.F d1 y := r1
      cases d <;> try (cases g3; done)
      rename_i ns vs
      obtain ⟨dx, fs, k1, k2, k3⟩ := g2
      subst k2
      have e' : (if (fs.map (·.1)).length < 100 then some (PD.D.obj (put1 (fs.map (·.1)) vs f d1).1 (put1 (fs.map (·.1)) vs f d1).2) else none) = some d' := g3
      split at e'
      · rename_i hl
        cases e'
        rw [List.length_map] at hl
        obtain ⟨w1, w2⟩ := putF_rep (f := f) r1 k3
        exact ⟨p, N.desk, dx, fs, rfl, k1, hc, hn, by omega, g4 _ ⟨dx, _, upd_same, w1, w2⟩ (fun z => z)⟩
      · cases e'
/-! ### return -/
theorem xs_ret {ie : E} (h : XR N W X e ie) (hv : ∀ k, ie ≠ .var k) : XS N W X (.Return (some e) pos) (.ret ie) :=
  PS.imp (ps_ret h.xe) fun D σ H ⟨Ω, ρ, st, S, q⟩ => ⟨Ω, ρ, st, S, by
    have q' : PostS N X.K W Ω ρ σ H D ((run ie ρ st).bind fun ρ st p => .ok ρ st (.ret p.1 p.2)) := by
      cases ie with
      | var k => exact absurd rfl (hv k)
      | _ => exact q
    exact PostS.bind q' fun ρ1 st1 a Ω1 H1 b _ S1 t1 r1 q1 => q1 Ω1 σ H1 S1 t1 b r1.ret⟩
/-- a slot is forgotten -/
theorem StR.forget {K : PySem.W.Frag} {Ω : Wd} {ρ : List Slot} {st : List D} {σ : L2.St} {H : Hp} {i : Nat} (S : StR N K Ω ρ st σ H) : StR N K Ω (ρ.set i .un) st σ H ∧ Step Ω ρ σ H Ω (ρ.set i .un) σ H := by
  have old : ∀ {j : Nat} {s : Slot}, (ρ.set i .un)[j]? = some s → s = .un ∨ ρ[j]? = some s := fun {j s} h => by
    rcases getElem_set_some h with ⟨_, e⟩ | ⟨_, e⟩
    · exact .inl e
    · exact .inr e
  refine ⟨⟨by rw [List.length_set]; exact S.len, S.sub, fun j s hj => ?_, fun a b s t p h1 h2 h3 h4 h5 h6 => ?_, S.stl, S.sto, S.phF, S.nd⟩, ⟨fun _ _ h => h, Ph.refl _, fun _ h => .inl h, fun p hp => ?_, fun _ _ h _ => h, fun _ h => h, fun j d' hj => ⟨(lent_set hj (fun _ z => nomatch z)).2, rfl⟩⟩⟩
  · rcases old hj with e | e
    · subst e; trivial
    · exact S.slot j s e
  · rcases old h1 with e | e
    · subst e; cases h3
    · rcases old h2 with e2 | e2
      · subst e2; cases h4
      · exact S.dist a b s t p e e2 h3 h4 h5 h6
  · rcases hp with hp | ⟨j, d, h1, h2⟩
    · exact .inl (.inl hp)
    · rcases old h1 with e | e
      · cases e
      · exact .inl (.inr ⟨j, d, e, h2⟩)
theorem xs_retV {i : Nat} (h : PE X e (tVar i)) : XS N W X (.Return (some e) pos) (.ret (.var i)) :=
  PS.imp (ps_ret h) fun D σ H ⟨Ω, ρ, st, S, q⟩ => by
    change PostS N X.K W Ω ρ σ H D (match ρ[i]? with | some (.sh d) => .ok ρ st (.ret false d) | some (.own d) => .ok (ρ.set i .un) st (.ret true d) | _ => .stuck) at q
    cases hs : ρ[i]? with
    | none => rw [hs] at q; exact q.elim
    | some s =>
      rw [hs] at q
      have sl := S.slot i s hs
      cases s with
      | un => exact q.elim
      | lent d => exact q.elim
      | sh d =>
        obtain ⟨x, e1, r⟩ := sl
        exact ⟨x, e1, q Ω σ H S (Step.refl _ _ _ _) x (.inl ⟨rfl, r⟩)⟩
      | own d =>
        obtain ⟨k, p, e1, r, f, g⟩ := sl
        obtain ⟨hi, _⟩ := List.getElem?_eq_some_iff.mp hs
        obtain ⟨S1, t1⟩ := S.forget (i := i)
        refine ⟨.ref p, e1, q Ω σ H S1 t1 (.ref p) (.inr ⟨rfl, k, p, rfl, .inr (.inr ⟨i, d, hs, e1⟩), f, fun z => ?_, r⟩)⟩
        rcases z with z | ⟨j, s, h1, h2, h3⟩
        · exact g z
        · rcases getElem_set_some h1 with ⟨_, e⟩ | ⟨ne, e⟩
          · subst e; cases h2
          · exact ne (S.dist j i s (.own d) p e hs h2 rfl h3 e1)
end
end PD

set_option Elab.async false
set_option linter.all false
set_option maxRecDepth 100000
/-! PD15: raising; while; for. -/
namespace PD
open PySem PySem.Spec L2
/-- an own class of exceptions, as a def knows it -/
structure ExK (N : Nm) (X : Cx) (x : Str) (e : Ex) : Prop where
  ex : ∃ (bmB : List Value) (B newId initId : String), ExcBaseFacts B newId initId bmB ∧ PySem.W.excIn X.K (N.ex e) bmB newId = true ∧ PySem.W.keepIn X.K (.ref (N.ex e)) = true ∧ Raises X (.ref (N.ex e))
  mg : X.mg x = some (.ref (N.ex e))
section
variable {N : Nm} {W : WX} {X : Cx} {e a b : Expr} {pos : Pos}
theorem xs_raise {x m : Str} {c : Ex} {j : Nat} {p p2 pos' : Pos} (hc : X.calm = true) (tk : Takes X W) (F : ExK N X x c) (hg : Gl X x) (hdb : (x == ("__debug__" : Str)) = false) : XS N W X (.Raise (some (.Call (.Name x p) [.Constant (.str m) j p2] [] pos')) none pos) (.raise c) := by
  obtain ⟨bmB, B, n1, n2, F1, q1, k1, r1⟩ := F.ex
  exact PS.imp (ps_raise hc tk (pmk_own F1 q1 F.mg k1 r1 hg hdb)) fun D σ H ⟨Ω, ρ, st, S, q⟩ => q Ω σ H S (Step.refl _ _ _ _)
/-! ### while -/
theorem xs_while {c : Expr} {body : List Stmt} {ic : E} {is : List S} {n : Nat} (hp : PassesOwn (model X.prog X.w) X.A X.env X.xe) (hc : XTi N W X c ic) (hb : XB N W X body is) : XS N W X (.While c body [] pos) (.while_ n ic is) :=
  PS.imp (ps_while hp hc hb) fun D σ H ⟨Ω, ρ, st, S, q⟩ => by
    refine ⟨fun m σ' H' => ∃ Ω' ρ' st', StR N X.K Ω' ρ' st' σ' H' ∧ Step Ω ρ σ H Ω' ρ' σ' H' ∧ PostS N X.K W Ω ρ σ H D (whileLoop (fun ρ st => asB (run ic ρ st)) (fun ρ st => runB is ρ st) m ρ' st'), ⟨n, Ω, ρ, st, S, Step.refl _ _ _ _, q⟩, ?_⟩
    rintro m σ0 H0 ⟨Ω0, ρ0, st0, S0, t0, q0⟩
    cases m with
    | zero => exact q0.elim
    | succ m =>
      refine ⟨Ω0, ρ0, st0, S0, ?_⟩
      have q1 : PostS N X.K W Ω ρ σ H D ((asB (run ic ρ0 st0)).bind fun ρ1 st1 b => if b then (runB is ρ1 st1).bind fun ρ2 st2 f => match f with
        | .next => whileLoop (fun ρ st => asB (run ic ρ st)) (fun ρ st => runB is ρ st) m ρ2 st2
        | .cont => whileLoop (fun ρ st => asB (run ic ρ st)) (fun ρ st => runB is ρ st) m ρ2 st2
        | .brk => .ok ρ2 st2 .next
        | .ret fl d => .ok ρ2 st2 (.ret fl d)
      else .ok ρ1 st1 .next) := q0
      show Post N X.K W RB Ω0 ρ0 σ0 H0 _ (asB (run ic ρ0 st0))
      cases h1 : asB (run ic ρ0 st0) with
      | stuck => rw [h1] at q1; exact q1.elim
      | exc e1 ρ1 st1 => rw [h1] at q1; exact fun Ω' H' S' t' => q1 Ω' σ0 H' S' (t0.trans t')
      | ok ρ1 st1 b =>
        rw [h1] at q1
        intro Ω1 H1 b' S1 t1 eb
        have eb' : b = b' := eb
        subst eb'
        cases b with
        | false => exact q1 Ω1 σ0 H1 S1 (t0.trans t1)
        | true =>
          have q2 : PostS N X.K W Ω ρ σ H D ((runB is ρ1 st1).bind fun ρ2 st2 f => match f with
            | .next => whileLoop (fun ρ st => asB (run ic ρ st)) (fun ρ st => runB is ρ st) m ρ2 st2
            | .cont => whileLoop (fun ρ st => asB (run ic ρ st)) (fun ρ st => runB is ρ st) m ρ2 st2
            | .brk => .ok ρ2 st2 .next
            | .ret fl d => .ok ρ2 st2 (.ret fl d)) := q1
          refine ⟨fun σ' H' => ∃ Ω' ρ' st', StR N X.K Ω' ρ' st' σ' H' ∧ Step Ω ρ σ H Ω' ρ' σ' H' ∧ PostS N X.K W Ω ρ σ H D (whileLoop (fun ρ st => asB (run ic ρ st)) (fun ρ st => runB is ρ st) m ρ' st'), fun σ' H' h => ⟨m, Nat.lt_succ_self m, h⟩, Ω1, ρ1, st1, S1, ?_⟩
          have tt := t0.trans t1
          cases h2 : runB is ρ1 st1 with
          | stuck => rw [h2] at q2; exact q2.elim
          | exc e1 ρ2 st2 => rw [h2] at q2; exact fun Ω' σ' H' S' t' => q2 Ω' σ' H' S' (tt.trans t')
          | ok ρ2 st2 f =>
            rw [h2] at q2
            cases f with
            | next => exact fun Ω' σ' H' S' t' => ⟨Ω', ρ2, st2, S', tt.trans t', q2⟩
            | cont => exact fun Ω' σ' H' S' t' => ⟨Ω', ρ2, st2, S', tt.trans t', q2⟩
            | brk => exact fun Ω' σ' H' S' t' => q2 Ω' σ' H' S' (tt.trans t')
            | ret fl d => exact fun Ω' σ' H' S' t' v r => q2 Ω' σ' H' S' (tt.trans t') v (r.later tt)
end
end PD

set_option Elab.async false
set_option linter.all false
set_option maxRecDepth 100000
/-! PD16: what a loop walks; lent slots; for. -/
namespace PD
open PySem PySem.Spec L2
/-! ### lent slots -/
def toLent : Slot → Slot
  | .own d => .lent d
  | s => s
def toOwn : Slot → Slot
  | .lent d => .own d
  | s => s
theorem lend_get : ∀ (L : List Nat) (ρ : List Slot) (j : Nat), (lend L ρ)[j]? = (ρ[j]?).map fun s => if j ∈ L then toLent s else s
  | [], ρ, j => by simp [lend]
  | i :: is, ρ, j => by
    unfold lend
    cases h : ρ[i]? with
    | none =>
      show (lend is ρ)[j]? = _
      rw [lend_get is ρ j]
      by_cases e : j = i
      · subst e; rw [h]; rfl
      · congr 1; funext s; simp [e]
    | some s =>
      by_cases ho : ∃ d, s = .own d
      · obtain ⟨d, rfl⟩ := ho
        show (lend is (ρ.set i (.lent d)))[j]? = _
        rw [lend_get is _ j]
        by_cases e : j = i
        · subst e
          rw [List.getElem?_set_self (List.getElem?_eq_some_iff.mp h).1, h]
          simp [toLent]
        · rw [List.getElem?_set_ne (Ne.symm e)]
          congr 1; funext s; simp [e]
      · have key : (lend is ρ)[j]? = (ρ[j]?).map fun s => if j ∈ i :: is then toLent s else s := by
          rw [lend_get is ρ j]
          by_cases e : j = i
          · subst e
            rw [h]
            have : toLent s = s := by cases s <;> first | rfl | exact absurd ⟨_, rfl⟩ ho
            simp [this]
          · congr 1; funext s; simp [e]
        cases s <;> first | exact key | exact absurd ⟨_, rfl⟩ ho
theorem unlend_get : ∀ (L : List Nat) (ρ : List Slot) (j : Nat), (unlend L ρ)[j]? = (ρ[j]?).map fun s => if j ∈ L then toOwn s else s
  | [], ρ, j => by simp [unlend]
  | i :: is, ρ, j => by
    unfold unlend
    cases h : ρ[i]? with
    | none =>
      show (unlend is ρ)[j]? = _
      rw [unlend_get is ρ j]
      by_cases e : j = i
      · subst e; rw [h]; rfl
      · congr 1; funext s; simp [e]
    | some s =>
      by_cases ho : ∃ d, s = .lent d
      · obtain ⟨d, rfl⟩ := ho
        show (unlend is (ρ.set i (.own d)))[j]? = _
        rw [unlend_get is _ j]
        by_cases e : j = i
        · subst e
          rw [List.getElem?_set_self (List.getElem?_eq_some_iff.mp h).1, h]
          simp [toOwn]
        · rw [List.getElem?_set_ne (Ne.symm e)]
          congr 1; funext s; simp [e]
      · have key : (unlend is ρ)[j]? = (ρ[j]?).map fun s => if j ∈ i :: is then toOwn s else s := by
          rw [unlend_get is ρ j]
          by_cases e : j = i
          · subst e
            rw [h]
            have : toOwn s = s := by cases s <;> first | rfl | exact absurd ⟨_, rfl⟩ ho
            simp [this]
          · congr 1; funext s; simp [e]
        cases s <;> first | exact key | exact absurd ⟨_, rfl⟩ ho
theorem lend_len : ∀ (L : List Nat) (ρ : List Slot), (lend L ρ).length = ρ.length
  | [], ρ => rfl
  | i :: is, ρ => by
    unfold lend
    split
    · rw [lend_len is, List.length_set]
    · rw [lend_len is]
theorem unlend_len : ∀ (L : List Nat) (ρ : List Slot), (unlend L ρ).length = ρ.length
  | [], ρ => rfl
  | i :: is, ρ => by
    unfold unlend
    split
    · rw [unlend_len is, List.length_set]
    · rw [unlend_len is]
theorem lends_own : ∀ (ρ : List Slot) (os : List (Nat ⊕ D)) (j : Nat), j ∈ lends ρ os → ∃ d, ρ[j]? = some (.own d)
  | ρ, [], j, h => by cases h
  | ρ, .inr d :: os, j, h => lends_own ρ os j h
  | ρ, .inl i :: os, j, h => by
    unfold lends at h
    cases e : ρ[i]? with
    | none => rw [e] at h; exact lends_own ρ os j h
    | some s =>
      rw [e] at h
      cases s <;> try exact lends_own ρ os j h
      rcases List.mem_cons.mp h with z | z
      · exact ⟨_, z ▸ e⟩
      · exact lends_own ρ os j z
section
variable {N : Nm} {K : PySem.W.Frag} {Ω Ω' : Wd} {ρ ρ' ρ2 : List Slot} {st st' : List D} {σ σ' : L2.St} {H H' : Hp}
/-- slots that stand otherwise -/
theorem StR.remap (S : StR N K Ω ρ st σ H) (hl : ρ2.length = ρ.length) (h : ∀ (j : Nat) (s2 : Slot), ρ2[j]? = some s2 → ∃ s : Slot, ρ[j]? = some s ∧ (s2 = s ∨ s2 = toLent s ∨ s2 = toOwn s)) : StR N K Ω ρ2 st σ H := by
  refine ⟨hl.trans S.len, S.sub, fun j s2 hj => ?_, fun a b s t p h1 h2 h3 h4 h5 h6 => ?_, S.stl, S.sto, S.phF, S.nd⟩
  · obtain ⟨s, e, r⟩ := h j s2 hj
    have q := S.slot j s e
    rcases r with rfl | rfl | rfl
    · exact q
    · cases s <;> exact q
    · cases s <;> exact q
  · obtain ⟨s', e, r⟩ := h a s h1
    obtain ⟨t', e', r'⟩ := h b t h2
    refine S.dist a b s' t' p e e' ?_ ?_ h5 h6
    · rcases r with rfl | rfl | rfl
      · exact h3
      · cases s' <;> first | exact h3 | rfl
      · cases s' <;> first | exact h3 | rfl
    · rcases r' with rfl | rfl | rfl
      · exact h4
      · cases t' <;> first | exact h4 | rfl
      · cases t' <;> first | exact h4 | rfl
theorem StR.lend (L : List Nat) (S : StR N K Ω ρ st σ H) : StR N K Ω (PD.lend L ρ) st σ H := S.remap (lend_len L ρ) fun j s2 hj => by
  rw [lend_get] at hj
  obtain ⟨s, e, q⟩ := Option.map_eq_some_iff.mp hj
  refine ⟨s, e, ?_⟩
  split at q
  · exact .inr (.inl q.symm)
  · exact .inl q.symm
theorem StR.unlend (L : List Nat) (S : StR N K Ω ρ st σ H) : StR N K Ω (PD.unlend L ρ) st σ H := S.remap (unlend_len L ρ) fun j s2 hj => by
  rw [unlend_get] at hj
  obtain ⟨s, e, q⟩ := Option.map_eq_some_iff.mp hj
  refine ⟨s, e, ?_⟩
  split at q
  · exact .inr (.inr q.symm)
  · exact .inl q.symm
theorem own_lend {L : List Nat} {p : Addr} {φ : List Addr} (h : OwnA φ (PD.lend L ρ) σ p) : OwnA φ ρ σ p := by
  rcases h with h | ⟨j, d, h1, h2⟩
  · exact .inl h
  · rw [lend_get] at h1
    obtain ⟨s, e, q⟩ := Option.map_eq_some_iff.mp h1
    refine .inr ⟨j, d, ?_, h2⟩
    split at q
    · cases s <;> first | (exact nomatch q) | skip
    · exact q ▸ e
theorem step_unlend {L : List Nat} (hL : ∀ j ∈ L, ∃ d, ρ[j]? = some (.own d)) (t : Step Ω (PD.lend L ρ) σ H Ω' ρ' σ' H') : Step Ω ρ σ H Ω' (PD.unlend L ρ') σ' H' := by
  refine ⟨t.fm, t.pm, fun a h => ?_, fun p hp => ?_, fun a o h n => t.keep a o h fun z => n (own_lend z), t.dom, fun j d hj => ?_⟩
  · rcases t.new a h with z | z | z
    · exact .inl z
    · exact .inr (.inl z)
    · exact .inr (.inr (own_lend z))
  · have own' : OwnA Ω'.φ ρ' σ' p → OwnA Ω.φ ρ σ p ∨ H p = none := fun z => (t.own p z).imp own_lend id
    rcases hp with hp | ⟨j, d, h1, h2⟩
    · exact own' (.inl hp)
    · rw [unlend_get] at h1
      obtain ⟨s, e, q⟩ := Option.map_eq_some_iff.mp h1
      split at q
      · rename_i hj
        cases s with
        | un => cases q
        | sh d => cases q
        | own d2 => cases q; exact own' (.inr ⟨j, d, e, h2⟩)
        | lent d2 =>
          cases q
          obtain ⟨_, e2⟩ := t.ln j d e
          obtain ⟨d3, e3⟩ := hL j hj
          exact .inl (.inr ⟨j, d3, e3, e2 ▸ h2⟩)
      · exact own' (.inr ⟨j, d, q ▸ e, h2⟩)
  · rw [unlend_get] at hj
    obtain ⟨s, e, q⟩ := Option.map_eq_some_iff.mp hj
    split at q
    · cases s <;> cases q
    · rename_i hn
      subst q
      obtain ⟨e1, e2⟩ := t.ln j d e
      refine ⟨?_, e2⟩
      rw [lend_get] at e1
      obtain ⟨s', e', q'⟩ := Option.map_eq_some_iff.mp e1
      rw [if_neg hn] at q'
      exact q' ▸ e'
theorem held_unlend {L : List Nat} {p : Addr} {φ : List Addr} (h : HeldA φ (PD.unlend L ρ) σ p) : HeldA φ ρ σ p := by
  rcases h with h | ⟨j, s, h1, h2, h3⟩
  · exact .inl h
  · rw [unlend_get] at h1
    obtain ⟨s', e, q⟩ := Option.map_eq_some_iff.mp h1
    refine .inr ⟨j, s', e, ?_, h3⟩
    subst q
    split at h2
    · cases s' <;> first | exact h2 | rfl
    · exact h2
/-- the iterator J walks the data its, as long as what was not one's own stays -/
def Src (N : Nm) (K : PySem.W.Frag) (Ω0 : Wd) (ρ0 : List Slot) (σ0 : L2.St) (H0 : Hp) (J : It) (its : List D) : Prop :=
  ∀ (Ω : Wd) (ρ : List Slot) (st : List D) (σ : L2.St) (H : Hp), StR N K Ω ρ st σ H → Step Ω0 ρ0 σ0 H0 Ω ρ σ H → ∀ i, (its.length ≤ i → J.stop i H) ∧ (∀ d, its[i]? = some d → J.go i H ∧ ∀ x H', J.yld i H x H' → ∃ F', OpRes N K Ω.φ Ω.F H F' H' false d x)
def PostI (N : Nm) (K : PySem.W.Frag) (W : WX) (k : Nat) (Ω : Wd) (ρ : List Slot) (σ : L2.St) (H : Hp) (R : It → Hp → Prop) : Out (List (Nat ⊕ D)) → Prop
  | .stuck => False
  | .exc e ρ' st' => ∀ (Ω' : Wd) (H' : Hp), StR N K Ω' ρ' st' σ H' → Step Ω ρ σ H Ω' ρ' σ H' → W (.ref (N.ex e)) none σ H'
  | .ok ρ' st' os => ∃ ds its, rezs ρ' [] os = some ds ∧ items k ds = some its ∧ ∀ (Ω' : Wd) (H' : Hp) (J : It), StR N K Ω' ρ' st' σ H' → Step Ω ρ σ H Ω' ρ' σ H' → Src N K Ω' (PD.lend (lends ρ' os) ρ') σ H' J its → its.length ≤ sizeLine → R J H'
def tI (N : Nm) (K : PySem.W.Frag) (W : WX) (k : Nat) (src : List E) : TI := fun σ H R => ∃ Ω ρ st, StR N K Ω ρ st σ H ∧ PostI N K W k Ω ρ σ H R (runO src ρ st)
end
abbrev XI (N : Nm) (W : WX) (X : Cx) (tg e : Expr) (k : Nat) (src : List E) : Prop := PI X tg e (tI N X.K W k src)
section
variable {N : Nm} {W : WX} {X : Cx} {e a b tg : Expr} {pos : Pos}
theorem xs_for {iter : Expr} {body : List Stmt} {k : Nat} {src : List E} {t : Tg} {is : List S} (hp : PassesOwn (model X.prog X.w) X.A X.env X.xe) (hc : X.calm = true) (hi : XI N W X tg iter k src) (hg : XG N X tg t) (hb : XB N W X body is)
    (hs : ∀ x, foldedSetIterable iter X.env x = pure x) : XS N W X (.For tg iter body [] pos) (.for_ k src t is) :=
  PS.imp (ps_for hp hc hi hg hb hs) fun D σ H ⟨Ω, ρ, st, S, q⟩ => by
    refine ⟨Ω, ρ, st, S, ?_⟩
    change PostS N X.K W Ω ρ σ H D ((runO src ρ st).bind fun ρ st os => match rezs ρ [] os with
      | some ds => match items k ds with
        | some its => (forLoop t (fun ρ st => runB is ρ st) its (PD.lend (lends ρ os) ρ) st).bindX (PD.unlend (lends ρ os)) fun ρ' st' f => .ok ρ' st' f
        | none => .stuck
      | none => .stuck) at q
    cases h1 : runO src ρ st with
    | stuck => rw [h1] at q; exact q.elim
    | exc e1 ρ1 st1 => rw [h1] at q; exact fun Ω' H' S' t' => q Ω' σ H' S' t'
    | ok ρ1 st1 os =>
      rw [h1] at q
      change PostS N X.K W Ω ρ σ H D (match rezs ρ1 [] os with
      | some ds => match items k ds with
        | some its => (forLoop t (fun ρ st => runB is ρ st) its (PD.lend (lends ρ1 os) ρ1) st1).bindX (PD.unlend (lends ρ1 os)) fun ρ' st' f => .ok ρ' st' f
        | none => .stuck
      | none => .stuck) at q
      cases h2 : rezs ρ1 [] os with
      | none => rw [h2] at q; exact q.elim
      | some ds =>
        rw [h2] at q
        change PostS N X.K W Ω ρ σ H D (match items k ds with
          | some its => (forLoop t (fun ρ st => runB is ρ st) its (PD.lend (lends ρ1 os) ρ1) st1).bindX (PD.unlend (lends ρ1 os)) fun ρ' st' f => .ok ρ' st' f
          | none => .stuck) at q
        cases h3 : items k ds with
        | none => rw [h3] at q; exact q.elim
        | some its =>
          rw [h3] at q
          change PostS N X.K W Ω ρ σ H D ((forLoop t (fun ρ st => runB is ρ st) its (PD.lend (lends ρ1 os) ρ1) st1).bindX (PD.unlend (lends ρ1 os)) fun ρ' st' f => .ok ρ' st' f) at q
          refine ⟨ds, its, h2, h3, fun Ω1 H1 J S1 t1 src _ => ?_⟩
          have hL := lends_own ρ1 os
          generalize hLe : lends ρ1 os = L at q src hL
          -- the invariant
          let P : Nat → L2.St → Hp → Prop := fun i σ' H' => ∃ Ωc ρc stc, StR N X.K Ωc ρc stc σ' H' ∧ Step Ω1 (PD.lend L ρ1) σ H1 Ωc ρc σ' H' ∧ PostS N X.K W Ω ρ σ H D ((forLoop t (fun ρ st => runB is ρ st) (its.drop i) ρc stc).bindX (PD.unlend L) fun ρ' st' f => .ok ρ' st' f)
          refine ⟨fun i m σ' H' => m = its.length - i ∧ i ≤ its.length ∧ P i σ' H', ⟨its.length, by simp, Nat.zero_le _, Ω1, PD.lend L ρ1, st1, S1.lend L, Step.refl _ _ _ _, q⟩, ?_⟩
          rintro i m σ2 H2 ⟨rfl, hi, Ω2, ρ2, st2, S2, t2, q2⟩
          have out : ∀ {Ω' : Wd} {ρ' : List Slot} {σ' : L2.St} {H' : Hp}, Step Ω1 (PD.lend L ρ1) σ H1 Ω' ρ' σ' H' → Step Ω ρ σ H Ω' (PD.unlend L ρ') σ' H' := fun tt => t1.trans (step_unlend hL tt)
          obtain ⟨sstop, sgo⟩ := src Ω2 ρ2 st2 σ2 H2 S2 t2 i
          by_cases hlt : i < its.length
          · refine .inr ?_
            obtain ⟨go, yl⟩ := sgo its[i] (List.getElem?_eq_getElem hlt)
            refine ⟨go, P (i + 1), fun σ' H' p => ⟨its.length - (i + 1), by omega, rfl, hlt, p⟩, fun x H3 hy => ?_⟩
            obtain ⟨F', or⟩ := yl x H3 hy
            obtain ⟨S3, t3, r3⟩ := S2.opres or
            have r3' : Rep N X.K Ω2.φ F' its[i] x := by
              rcases r3 with ⟨_, r⟩ | ⟨z, _⟩
              · exact r
              · cases z
            rw [List.drop_eq_getElem_cons hlt] at q2
            change PostS N X.K W Ω ρ σ H D ((match setT t its[i] ρ2 with
              | none => .stuck
              | some ρ1 => (runB is ρ1 st2).bind fun ρ2 st2 f => match f with
                | .next => forLoop t (fun ρ st => runB is ρ st) (its.drop (i + 1)) ρ2 st2
                | .cont => forLoop t (fun ρ st => runB is ρ st) (its.drop (i + 1)) ρ2 st2
                | .brk => .ok ρ2 st2 .next
                | .ret fl d => .ok ρ2 st2 (.ret fl d) : Out Fl).bindX (PD.unlend L) fun ρ' st' f => .ok ρ' st' f) at q2
            cases h4 : setT t its[i] ρ2 with
            | none => rw [h4] at q2; exact q2.elim
            | some ρ3 =>
              rw [h4] at q2
              change PostS N X.K W Ω ρ σ H D (((runB is ρ3 st2).bind fun ρ2 st2 f => match f with
                | .next => forLoop t (fun ρ st => runB is ρ st) (its.drop (i + 1)) ρ2 st2
                | .cont => forLoop t (fun ρ st => runB is ρ st) (its.drop (i + 1)) ρ2 st2
                | .brk => .ok ρ2 st2 .next
                | .ret fl d => .ok ρ2 st2 (.ret fl d) : Out Fl).bindX (PD.unlend L) fun ρ' st' f => .ok ρ' st' f) at q2
              refine ⟨⟨F', Ω2.φ⟩, ρ2, st2, its[i], ρ3, S3, r3', h4, fun σ4 S4 t4 _ => ⟨⟨F', Ω2.φ⟩, ρ3, st2, S4, ?_⟩⟩
              have T := (t2.trans t3).trans t4
              cases h5 : runB is ρ3 st2 with
              | stuck => rw [h5] at q2; exact q2.elim
              | exc e5 ρ5 st5 => rw [h5] at q2; exact fun Ω' σ' H' S' t' => q2 Ω' σ' H' (S'.unlend L) (out (T.trans t'))
              | ok ρ5 st5 f =>
                rw [h5] at q2
                cases f with
                | next => exact fun Ω' σ' H' S' t' => ⟨Ω', ρ5, st5, S', T.trans t', q2⟩
                | cont => exact fun Ω' σ' H' S' t' => ⟨Ω', ρ5, st5, S', T.trans t', q2⟩
                | brk => exact fun Ω' σ' H' S' t' => q2 Ω' σ' H' (S'.unlend L) (out (T.trans t'))
                | ret fl d =>
                  intro Ω' σ' H' S' t' v r
                  refine q2 Ω' σ' H' (S'.unlend L) (out (T.trans t')) v ?_
                  rcases r.later T with r | ⟨r1, r2, p, r3, r4, r5, r6, r7⟩
                  · exact .inl r
                  · refine .inr ⟨r1, r2, p, r3, ?_, r5, fun z => r6 (held_unlend z), r7⟩
                    rcases r4 with r4 | r4
                    · exact .inl (t1.dom p r4)
                    · exact (t1.own p (own_lend r4)).symm
          · have e : i = its.length := by omega
            subst e
            rw [List.drop_length] at q2
            exact .inl ⟨sstop (Nat.le_refl _), q2 Ω2 σ2 H2 (S2.unlend L) (out t2)⟩
end
end PD

set_option Elab.async false
set_option linter.all false
set_option maxRecDepth 100000
/-! PD17: the sources of loops. -/
namespace PD
open PySem PySem.Spec L2
section
variable {N : Nm} {K : PySem.W.Frag} {W : WX} {Ω : Wd} {ρ : List Slot} {st : List D} {σ : L2.St} {H : Hp}
/-- what is walked stays -/
def Stay (N : Nm) (K : PySem.W.Frag) (Ω0 : Wd) (ρ0 : List Slot) (σ0 : L2.St) (H0 : Hp) (d : D) (v : V) : Prop :=
  Rep N K Ω0.φ Ω0.F d v ∨ ∃ p, v = .ref p ∧ ORep N K Ω0.φ Ω0.F H0 d p ∧ ¬ OwnA Ω0.φ ρ0 σ0 p
theorem deref_nil {d d' : D} (h : deref [] d = some d') : d' = d := by
  cases d <;> first | (cases h; rfl) | cases h
theorem StR.stay {os : List (Nat ⊕ D)} {o : Nat ⊕ D} {d : D} {v : V} (S : StR N K Ω ρ st σ H) (ho : o ∈ os) (r : OpdR N K σ Ω o v) (e : PD.rez ρ [] o = some d) : Stay N K Ω (PD.lend (lends ρ os) ρ) σ H d v := by
  cases o with
  | inr d0 =>
    have : d = d0 := deref_nil e
    subst this
    exact .inl r
  | inl i =>
    have r' : σ[i]? = some (some v) := r
    unfold PD.rez at e
    dsimp only at e
    have inL : ∀ {os : List (Nat ⊕ D)} {d : D}, .inl i ∈ os → ρ[i]? = some (.own d) → i ∈ lends ρ os := fun {os d} hm hq => by
      induction os with
      | nil => cases hm
      | cons o os ih =>
        rcases List.mem_cons.mp hm with z | z
        · subst z; unfold lends; rw [hq]; exact List.mem_cons_self
        · cases o with
          | inr _ => exact ih z
          | inl j =>
            unfold lends
            split
            · exact List.mem_cons_of_mem _ (ih z)
            · exact ih z
    have notOwn : ∀ {p : Addr} {s : Slot}, ρ[i]? = some s → held s = true → v = .ref p → p ∉ Ω.φ → ((∃ d, s = .own d) → i ∈ lends ρ os) → (∀ d, s = .lent d → True) → ¬ OwnA Ω.φ (PD.lend (lends ρ os) ρ) σ p := fun {p s} hq hs ev np hL _ z => by
      rcases z with z | ⟨j, d', h1, h2⟩
      · exact np z
      · rw [lend_get] at h1
        obtain ⟨s', e', q'⟩ := Option.map_eq_some_iff.mp h1
        subst ev
        have hs' : ∃ d, s' = .own d := by
          split at q'
          · cases s' <;> first | (exact nomatch q') | skip
          · exact ⟨d', q'⟩
        obtain ⟨d2, hs'⟩ := hs'
        have eij : i = j := S.dist i j s s' p hq e' hs (by rw [hs']; rfl) r' h2
        subst eij
        rw [hq] at e'
        have ess : s = s' := Option.some.inj e'
        rw [if_pos (hL ⟨d2, ess.trans hs'⟩), hs'] at q'
        exact nomatch q'
    cases q : ρ[i]? with
    | none => rw [q] at e; cases e
    | some s =>
      rw [q] at e
      have sl := S.slot i s q
      cases s with
      | un => cases e
      | sh d0 =>
        obtain ⟨x, e1, r1⟩ := sl
        rw [r'] at e1
        cases e1
        have : d = d0 := deref_nil e
        subst this
        exact .inl r1
      | own d0 =>
        obtain ⟨_, p, e1, r1, _, np⟩ := sl
        rw [r'] at e1
        cases e1
        cases e
        exact .inr ⟨p, rfl, r1, notOwn q rfl rfl np (fun _ => inL ho q) (fun _ _ => trivial)⟩
      | lent d0 =>
        obtain ⟨_, p, e1, r1, _, np⟩ := sl
        rw [r'] at e1
        cases e1
        cases e
        exact .inr ⟨p, rfl, r1, notOwn q rfl rfl np (fun ⟨_, z⟩ => nomatch z) (fun _ _ => trivial)⟩
variable {Ω1 : Wd} {ρ1 : List Slot} {st1 : List D} {σ1 : L2.St} {H1 : Hp} {v : V} {ds : List D}
theorem Stay.lst (h : Stay N K Ω ρ σ H (.lst ds) v) : ∃ a, v = .ref a ∧ (Le Ω.F H → ∃ xs, H a = some (.lst xs)) ∧ ∀ {Ω1 : Wd} {ρ1 : List Slot} {st1 : List D} {σ1 : L2.St} {H1 : Hp}, StR N K Ω1 ρ1 st1 σ1 H1 → Step Ω ρ σ H Ω1 ρ1 σ1 H1 → ∃ xs, H1 a = some (.lst xs) ∧ Reps N K Ω1.φ Ω1.F ds xs := by
  rcases h with h | ⟨p, rfl, ⟨xs, h1, h2, h3⟩, n⟩
  · cases h with
    | @lst a xs _ h1 h2 h3 => exact ⟨a, rfl, fun s => ⟨xs, s _ _ h1⟩, fun S t => ⟨xs, S.sub _ _ (t.fm _ _ h1), Reps.le t.fm t.pm _ _ h3⟩⟩
  · exact ⟨p, rfl, fun _ => ⟨xs, h1⟩, fun S t => ⟨xs, t.keep _ _ h1 n, Reps.le t.fm t.pm _ _ h3⟩⟩
theorem Stay.tup (h : Stay N K Ω ρ σ H (.tup ds) v) : ∃ a, v = .ref a ∧ (Le Ω.F H → ∃ xs, SqT K H a xs) ∧ ∀ {Ω1 : Wd} {ρ1 : List Slot} {st1 : List D} {σ1 : L2.St} {H1 : Hp}, StR N K Ω1 ρ1 st1 σ1 H1 → Step Ω ρ σ H Ω1 ρ1 σ1 H1 → ∃ xs, SqT K H1 a xs ∧ Reps N K Ω1.φ Ω1.F ds xs := by
  rcases h with h | ⟨p, rfl, h, n⟩
  · cases h with
    | @tup a xs _ h1 h2 h3 => exact ⟨a, rfl, fun s => ⟨xs, .of (s _ _ h1)⟩, fun S t => ⟨xs, .of (S.sub _ _ (t.fm _ _ h1)), Reps.le t.fm t.pm _ _ h3⟩⟩
  · exact h.elim
theorem Stay.ctup (h : Stay N K Ω ρ σ H (.ctup ds) v) : ∃ a, v = .ref a ∧ (Le Ω.F H → ∃ xs, SqT K H a xs) ∧ ∀ {Ω1 : Wd} {ρ1 : List Slot} {st1 : List D} {σ1 : L2.St} {H1 : Hp}, StR N K Ω1 ρ1 st1 σ1 H1 → Step Ω ρ σ H Ω1 ρ1 σ1 H1 → ∃ xs, SqT K H1 a xs ∧ Reps N K Ω1.φ Ω1.F ds xs := by
  rcases h with h | ⟨p, rfl, h, n⟩
  · cases h with
    | @ctup a xs _ h1 h2 h3 => exact ⟨a, rfl, fun s => ⟨xs, SqT.le s h1⟩, fun S t => ⟨xs, SqT.le S.sub (SqT.le t.fm h1), Reps.le t.fm t.pm _ _ h3⟩⟩
  · exact h.elim
theorem Stay.len {d : D} (h : Stay N K Ω ρ σ H d v) : (match d with | .lst ds => ds.length ≤ sizeLine | .tup ds => ds.length ≤ sizeLine | .ctup ds => ds.length ≤ sizeLine | _ => True) := by
  rcases h with h | ⟨p, rfl, h, n⟩
  · cases h with
    | tup h1 h2 h3 => show _ ≤ _; rw [h3.length]; exact h2
    | ctup h1 h2 h3 => show _ ≤ _; rw [h3.length]; exact h2
    | lst h1 h2 h3 => show _ ≤ _; rw [h3.length]; exact h2
    | _ => trivial
  · cases d <;> first | trivial | exact h.elim | skip
    obtain ⟨xs, h1, h2, h3⟩ := h
    show _ ≤ _
    rw [h3.length]; exact h2
theorem src_list {a : Addr} (h : ∀ {Ω1 : Wd} {ρ1 : List Slot} {st1 : List D} {σ1 : L2.St} {H1 : Hp}, StR N K Ω1 ρ1 st1 σ1 H1 → Step Ω ρ σ H Ω1 ρ1 σ1 H1 → ∃ xs, H1 a = some (.lst xs) ∧ Reps N K Ω1.φ Ω1.F ds xs) : Src N K Ω ρ σ H (Itl K a) ds := fun Ω1 ρ1 st1 σ1 H1 S t i => by
  obtain ⟨xs, e, r⟩ := h S t
  refine ⟨fun hl => ⟨xs, .of e, by rw [← r.length]; exact hl⟩, fun d hd => ?_⟩
  obtain ⟨x, ex, rx⟩ := r.get hd
  refine ⟨⟨xs, x, .of e, ex⟩, fun y H' ⟨eH, hy⟩ => ?_⟩
  subst eH
  have := hy xs (.of e)
  rw [ex] at this
  cases this
  exact ⟨_, OpRes.val S.sub rx⟩
theorem src_tup {a : Addr} (h : ∀ {Ω1 : Wd} {ρ1 : List Slot} {st1 : List D} {σ1 : L2.St} {H1 : Hp}, StR N K Ω1 ρ1 st1 σ1 H1 → Step Ω ρ σ H Ω1 ρ1 σ1 H1 → ∃ xs, SqT K H1 a xs ∧ Reps N K Ω1.φ Ω1.F ds xs) : Src N K Ω ρ σ H (Itt K a) ds := fun Ω1 ρ1 st1 σ1 H1 S t i => by
  obtain ⟨xs, e, r⟩ := h S t
  refine ⟨fun hl => ⟨xs, e, by rw [← r.length]; exact hl⟩, fun d hd => ?_⟩
  obtain ⟨x, ex, rx⟩ := r.get hd
  refine ⟨⟨xs, x, e, ex⟩, fun y H' ⟨eH, hy⟩ => ?_⟩
  subst eH
  have := hy xs e
  rw [ex] at this
  cases this
  exact ⟨_, OpRes.val S.sub rx⟩
theorem src_range {lo : Int} {n : Nat} : Src N K Ω ρ σ H (Itr lo n) ((List.range n).map fun i => .int (lo + (i : Nat))) := fun Ω1 ρ1 st1 σ1 H1 S t i => by
  refine ⟨fun hl => (by show n ≤ i; simpa using hl), fun d hd => ?_⟩
  rw [List.getElem?_map] at hd
  obtain ⟨j, e1, e2⟩ := Option.map_eq_some_iff.mp hd
  obtain ⟨hi, e3⟩ := List.getElem?_eq_some_iff.mp e1
  rw [List.getElem_range] at e3
  rw [List.length_range] at hi
  subst e3
  refine ⟨hi, fun y H' ⟨eH, hy⟩ => ?_⟩
  subst eH hy e2
  exact ⟨_, OpRes.val S.sub (.int _)⟩
theorem src_str {x : Str} : Src N K Ω ρ σ H (Its x) (x.cps.toList.map fun c => .str ⟨#[c]⟩) := fun Ω1 ρ1 st1 σ1 H1 S t i => by
  refine ⟨fun hl => (by show x.cps.size ≤ i; simpa using hl), fun d hd => ?_⟩
  rw [List.getElem?_map] at hd
  obtain ⟨c, e1, e2⟩ := Option.map_eq_some_iff.mp hd
  have e1' : x.cps[i]? = some c := by rw [← Array.getElem?_toList]; exact e1
  obtain ⟨hi, _⟩ := Array.getElem?_eq_some_iff.mp e1'
  refine ⟨hi, fun y H' ⟨eH, c', hc, hy⟩ => ?_⟩
  rw [e1'] at hc
  cases hc
  subst eH hy e2
  exact ⟨_, OpRes.val S.sub (.str _)⟩
theorem src_enum {a : Addr} (h : ∀ {Ω1 : Wd} {ρ1 : List Slot} {st1 : List D} {σ1 : L2.St} {H1 : Hp}, StR N K Ω1 ρ1 st1 σ1 H1 → Step Ω ρ σ H Ω1 ρ1 σ1 H1 → ∃ xs, H1 a = some (.lst xs) ∧ Reps N K Ω1.φ Ω1.F ds xs) : Src N K Ω ρ σ H (Ite K a) ((List.range ds.length).zip ds |>.map fun p => .tup [.int (p.1 : Nat), p.2]) := fun Ω1 ρ1 st1 σ1 H1 S t i => by
  obtain ⟨xs, e, r⟩ := h S t
  refine ⟨fun hl => ⟨xs, .of e, by rw [← r.length]; simpa using hl⟩, fun d hd => ?_⟩
  rw [List.getElem?_map] at hd
  obtain ⟨⟨j, d0⟩, e1, e2⟩ := Option.map_eq_some_iff.mp hd
  obtain ⟨e3, e4⟩ := List.getElem?_zip_eq_some.mp e1
  obtain ⟨hi, e5⟩ := List.getElem?_eq_some_iff.mp e3
  rw [List.getElem_range] at e5
  subst e5
  obtain ⟨x, ex, rx⟩ := r.get e4
  refine ⟨⟨xs, x, .of e, ex⟩, fun y H' ⟨T, x', ey, n, eH, hy⟩ => ?_⟩
  have := hy xs (.of e)
  rw [ex] at this
  cases this
  subst eH ey e2
  exact ⟨_, OpRes.newT S.sub n (by show 2 ≤ sizeLine; decide) (.cons (.int _) (.cons rx .nil))⟩
theorem src_zip {a b : Addr} {es : List D} (h : ∀ {Ω1 : Wd} {ρ1 : List Slot} {st1 : List D} {σ1 : L2.St} {H1 : Hp}, StR N K Ω1 ρ1 st1 σ1 H1 → Step Ω ρ σ H Ω1 ρ1 σ1 H1 → ∃ xs, H1 a = some (.lst xs) ∧ Reps N K Ω1.φ Ω1.F ds xs)
    (g : ∀ {Ω1 : Wd} {ρ1 : List Slot} {st1 : List D} {σ1 : L2.St} {H1 : Hp}, StR N K Ω1 ρ1 st1 σ1 H1 → Step Ω ρ σ H Ω1 ρ1 σ1 H1 → ∃ xs, H1 b = some (.lst xs) ∧ Reps N K Ω1.φ Ω1.F es xs) : Src N K Ω ρ σ H (Itz K a b) ((ds.zip es).map fun p => .tup [p.1, p.2]) := fun Ω1 ρ1 st1 σ1 H1 S t i => by
  obtain ⟨xs, e, r⟩ := h S t
  obtain ⟨ys, e', r'⟩ := g S t
  refine ⟨fun hl => ⟨xs, ys, .of e, .of e', by rw [List.length_map, List.length_zip] at hl; rw [← r.length, ← r'.length]; omega⟩, fun d hd => ?_⟩
  rw [List.getElem?_map] at hd
  obtain ⟨⟨d0, d1⟩, e1, e2⟩ := Option.map_eq_some_iff.mp hd
  obtain ⟨e3, e4⟩ := List.getElem?_zip_eq_some.mp e1
  obtain ⟨x, ex, rx⟩ := r.get e3
  obtain ⟨x2, ex2, rx2⟩ := r'.get e4
  refine ⟨⟨xs, ys, x, x2, .of e, .of e', ex, ex2⟩, fun y H' ⟨T, x', y', ey, n, eH, hy, hy'⟩ => ?_⟩
  have := hy xs (.of e)
  rw [ex] at this
  cases this
  have := hy' ys (.of e')
  rw [ex2] at this
  cases this
  subst eH ey e2
  exact ⟨_, OpRes.newT S.sub n (by show 2 ≤ sizeLine; decide) (.cons rx (.cons rx2 .nil))⟩
end
/-! ### from expressions -/
def iSeq (K : PySem.W.Frag) (tl : TE) : TI := fun σ H R => tl σ H fun x H1 => ∃ a, x = .ref a ∧ (((∃ xs, SqL K H1 a xs) ∧ R (Itl K a) H1) ∨ ((∃ xs, SqT K H1 a xs) ∧ R (Itt K a) H1))
theorem PI.imp {X : Cx} {tg e : Expr} {t t' : TI} (p : PI X tg e t) (h : ∀ σ H R, t' σ H R → t σ H R) : PI X tg e t' := ⟨fun pins s σ H R I q => p.run pins s σ H R I (h σ H R q)⟩
section
variable {N : Nm} {W : WX} {X : Cx} {e a b tg : Expr} {pos : Pos}
theorem pi_seq {l : Expr} {tl : TE} (hl : PE X l tl) : PI X tg l (iSeq X.K tl) := by
  refine ⟨fun pins s σ H R I h => ?_⟩
  refine thn (hl.run pins s σ H _ I h) fun v s1 ⟨x, H1, I1, r1, q1⟩ => ?_
  obtain ⟨a, e, q⟩ := q1
  subst e
  cases r1
  have fp : ∀ b ∈ [s1.heap.objs.size], FpOk X pins H1 b := fun b hb => by
    have e : b = s1.heap.objs.size := by simpa using hb
    subst e
    exact I1.fpOk (Nat.le_refl _) (I1.hok.fresh (Nat.le_refl _))
  rcases q with ⟨⟨xs, hq⟩, q⟩ | ⟨⟨xs, hq⟩, q⟩
  · obtain ⟨its, rv, p, hz⟩ := I1.list hq
    refine wpAny_pyIter_list p.isList ?_
    exact ⟨s1.heap.objs.size, [s1.heap.objs.size], _, _, H1, rfl, I1.kept (t' := s1.toks) fun b o e => Heap.get?_push_of_some _ e, turn_list a _, ⟨_, Heap.get?_push_size _ rfl, rfl, rfl⟩, fp, q⟩
  · obtain ⟨its, rv, p, hz⟩ := I1.tuple hq
    refine wpAny_pyIter_tuple (show s1.heap.IsTuple a its.toArray from p) ?_
    exact ⟨s1.heap.objs.size, [s1.heap.objs.size], _, _, H1, rfl, I1.kept (t' := s1.toks) fun b o e => Heap.get?_push_of_some _ e, turn_tuple a _, ⟨_, Heap.get?_push_size _ rfl, rfl, rfl⟩, fp, q⟩
/-- one operand -/
theorem use_src1 {K : PySem.W.Frag} {k : Nat} {ia : E} {σ : L2.St} {H : Hp} {R : It → Hp → Prop} (h : tI N K W k [ia] σ H R) :
    tX N K W (RO N K) (runO1 ia) σ H fun x H1 => ∃ Ω ρ st os d its, StR N K Ω ρ st σ H1 ∧ Stay N K Ω (PD.lend (lends ρ os) ρ) σ H1 d x ∧ items k [d] = some its ∧ ∀ J, Src N K Ω (PD.lend (lends ρ os) ρ) σ H1 J its → its.length ≤ sizeLine → R J H1 := by
  obtain ⟨Ω, ρ, st, S, q⟩ := h
  refine ⟨Ω, ρ, st, S, ?_⟩
  rw [runO_one] at q
  cases h1 : runO1 ia ρ st with
  | stuck => rw [h1] at q; exact q.elim
  | exc e1 ρ1 st1 => rw [h1] at q; exact q
  | ok ρ1 st1 o1 =>
    rw [h1] at q
    intro Ω1 H1 x S1 t1 r1
    obtain ⟨ds, its, e1, e2, q⟩ := q
    unfold rezs at e1
    cases g1 : PD.rez ρ1 [] o1 with
    | none => rw [g1] at e1; cases e1
    | some d =>
      rw [g1] at e1
      cases e1
      exact ⟨Ω1, ρ1, st1, [o1], d, its, S1, S1.stay (os := [o1]) List.mem_cons_self r1 g1, e2, fun J hJ hl => q Ω1 H1 J S1 t1 hJ hl⟩
theorem use_src2 {K : PySem.W.Frag} {k : Nat} {ia ib : E} {σ : L2.St} {H : Hp} {R : It → Hp → Prop} (h : tI N K W k [ia, ib] σ H R) :
    tX N K W (RO N K) (runO1 ia) σ H fun x H1 => tX N K W (RO N K) (runO1 ib) σ H1 fun y H1 => ∃ Ω ρ st os d d2 its, StR N K Ω ρ st σ H1 ∧ Stay N K Ω (PD.lend (lends ρ os) ρ) σ H1 d x ∧ Stay N K Ω (PD.lend (lends ρ os) ρ) σ H1 d2 y ∧ items k [d, d2] = some its ∧ ∀ J, Src N K Ω (PD.lend (lends ρ os) ρ) σ H1 J its → its.length ≤ sizeLine → R J H1 := by
  obtain ⟨Ω, ρ, st, S, q⟩ := h
  refine ⟨Ω, ρ, st, S, ?_⟩
  rw [runO_one] at q
  cases h1 : runO1 ia ρ st with
  | stuck => rw [h1] at q; exact q.elim
  | exc e1 ρ1 st1 => rw [h1] at q; exact q
  | ok ρ1 st1 o1 =>
    rw [h1] at q
    intro Ω1 H1 x S1 t1 r1
    refine ⟨Ω1, ρ1, st1, S1, ?_⟩
    change PostI N K W k Ω ρ σ H R ((runO [ib] ρ1 st1).bind fun ρ st os => .ok ρ st (o1 :: os)) at q
    rw [runO_one] at q
    cases h2 : runO1 ib ρ1 st1 with
    | stuck => rw [h2] at q; exact q.elim
    | exc e1 ρ2 st2 => rw [h2] at q; exact fun Ω' H' S' t' => q Ω' H' S' (t1.trans t')
    | ok ρ2 st2 o2 =>
      rw [h2] at q
      intro Ω2 H2 y S2 t2 r2
      obtain ⟨ds, its, e1, e2, q⟩ := q
      unfold rezs at e1
      cases g1 : PD.rez ρ2 [] o1 with
      | none => rw [g1] at e1; cases e1
      | some d =>
        rw [g1] at e1
        unfold rezs at e1
        cases g2 : PD.rez ρ2 [] o2 with
        | none => rw [g2] at e1; cases e1
        | some d2 =>
          rw [g2] at e1
          cases e1
          exact ⟨Ω2, ρ2, st2, [o1, o2], d, d2, its, S2, S2.stay (os := [o1, o2]) List.mem_cons_self (r1.step t2) g1, S2.stay (os := [o1, o2]) (List.mem_cons_of_mem _ List.mem_cons_self) r2 g2, e2, fun J hJ hl => q Ω2 H2 J S2 (t1.trans t2) hJ hl⟩
theorem xi_seq {ie : E} (h : XR N W X e ie) : XI N W X tg e 0 [ie] := PI.imp (pi_seq h.xo) fun σ H R q =>
  (use_src1 q).mono fun x H1 ⟨Ω, ρ, st, os, d, its, S, sy, e1, q⟩ => by
    cases d <;> try (cases e1; done)
    · cases e1
      obtain ⟨a, ea, h1, h2⟩ := sy.tup
      exact ⟨a, ea, .inr ⟨h1 S.sub, q _ (src_tup h2) sy.len⟩⟩
    · cases e1
      obtain ⟨a, ea, h1, h2⟩ := sy.ctup
      exact ⟨a, ea, .inr ⟨h1 S.sub, q _ (src_tup h2) sy.len⟩⟩
    · cases e1
      obtain ⟨a, ea, h1, h2⟩ := sy.lst
      obtain ⟨xs, hx⟩ := h1 S.sub
      exact ⟨a, ea, .inl ⟨⟨xs, .of hx⟩, q _ (src_list h2) sy.len⟩⟩
theorem stay_int {K : PySem.W.Frag} {Ω : Wd} {ρ : List Slot} {σ : L2.St} {H : Hp} {n : Int} {v : V} (h : Stay N K Ω ρ σ H (.int n) v) : v = .int n := by
  rcases h with h | ⟨p, _, h, _⟩
  · cases h; rfl
  · exact h.elim
theorem xi_str {ie : E} (h : XR N W X e ie) : XI N W X tg e 5 [ie] := PI.imp (pi_str h.xo) fun σ H R q =>
  (use_src1 q).mono fun x H1 ⟨Ω, ρ, st, os, d, its, S, sy, e1, q⟩ => by
    cases d <;> try (cases e1; done)
    rename_i s
    have e' : (if s.length ≤ 16777216 then some (s.cps.toList.map fun c => D.str ⟨#[c]⟩) else none) = some its := e1
    split at e'
    · rename_i hl
      cases e'
      have : x = .str s := by
        rcases sy with h | ⟨p, _, h, _⟩
        · cases h; rfl
        · exact h.elim
      exact ⟨s, this, q _ src_str (by rw [List.length_map]; exact hl)⟩
    · cases e'
theorem xi_range1 {ie : E} {p : Pos} (hg : Gl X "range") (hm : X.mg "range" = none) (h : XR N W X e ie) (hs : starEach [e] X.env = [(false, eval e X.env)]) : XI N W X tg (.Call (.Name "range" p) [e] [] pos) 1 [ie] :=
  PI.imp (pi_range1 hg hm (pa_cons h.xo pa_nil hs) hs) fun σ H R q => (use_src1 q).mono fun x H1 ⟨Ω, ρ, st, os, d, its, S, sy, e1, q⟩ => by
    cases d <;> try (cases e1; done)
    rename_i n
    have e' : (if n ≤ 16777216 ∧ -(2 ^ 62) ≤ n then some ((List.range n.toNat).map fun i => D.int (i : Nat)) else none) = some its := e1
    split at e'
    · rename_i hc
      cases e'
      refine ⟨n, by rw [stay_int sy], hc.2, by have := hc.1; omega, q _ ?_ (by rw [List.length_map, List.length_range, sizeLine_eq]; omega)⟩
      have e : ((List.range n.toNat).map fun i => D.int (i : Nat)) = (List.range n.toNat).map fun i => D.int (0 + (i : Nat)) := by congr 1; funext i; rw [Int.zero_add]
      rw [e]
      exact src_range
    · cases e'
theorem xi_range2 {ia ib : E} {p : Pos} (hg : Gl X "range") (hm : X.mg "range" = none) (ha : XR N W X a ia) (hb : XR N W X b ib) (hs : starEach [a, b] X.env = [(false, eval a X.env), (false, eval b X.env)]) (hs2 : starEach [b] X.env = [(false, eval b X.env)]) : XI N W X tg (.Call (.Name "range" p) [a, b] [] pos) 2 [ia, ib] :=
  PI.imp (pi_range2 hg hm (pa_cons ha.xo (pa_cons hb.xo pa_nil hs2) (by rw [hs, hs2])) hs hs2) fun σ H R q => (use_src2 q).mono fun x H1 q => q.mono fun y H2 ⟨Ω, ρ, st, os, d, d2, its, S, sy, sy2, e1, q⟩ => by
    cases d <;> try (cases e1; done)
    cases d2 <;> try (cases e1; done)
    rename_i m n
    have e' : (if n - m ≤ 16777216 ∧ -(2 ^ 62) ≤ m ∧ m < 2 ^ 62 ∧ -(2 ^ 62) ≤ n ∧ n < 2 ^ 62 then some ((List.range (n - m).toNat).map fun i => D.int (m + (i : Nat))) else none) = some its := e1
    split at e'
    · rename_i hc
      cases e'
      exact ⟨m, n, by rw [stay_int sy, stay_int sy2], hc.2, q _ src_range (by rw [List.length_map, List.length_range, sizeLine_eq]; omega)⟩
    · cases e'
theorem xi_enum {ie : E} {elts : List Expr} {kk : Nat} {p tpos : Pos} (hg : Gl X "enumerate") (hm : X.mg "enumerate" = none) (h : XR N W X e ie) (hs : starEach [e] X.env = [(false, eval e X.env)]) : XI N W X (.Tuple elts kk tpos) (.Call (.Name "enumerate" p) [e] [] pos) 3 [ie] :=
  PI.imp (pi_enum hg hm (pa_cons h.xo pa_nil hs) hs) fun σ H R q => (use_src1 q).mono fun x H1 ⟨Ω, ρ, st, os, d, its, S, sy, e1, q⟩ => by
    cases d <;> try (cases e1; done)
    cases e1
    obtain ⟨a, ea, h1, h2⟩ := sy.lst
    obtain ⟨xs, hx⟩ := h1 S.sub
    exact ⟨a, xs, by rw [ea], .of hx, q _ (src_enum h2) (by rw [List.length_map, List.length_zip, List.length_range, Nat.min_self]; exact sy.len)⟩
theorem xi_zip {ia ib : E} {elts : List Expr} {kk : Nat} {p tpos : Pos} (hg : Gl X "zip") (hm : X.mg "zip" = none) (ha : XR N W X a ia) (hb : XR N W X b ib) (hs : starEach [a, b] X.env = (false, eval a X.env) :: starEach [b] X.env) (hs2 : starEach [b] X.env = [(false, eval b X.env)]) (hpl : (backTo pos (starEach [b] X.env)).any (·.1) = false) : XI N W X (.Tuple elts kk tpos) (.Call (.Name "zip" p) [a, b] [] pos) 4 [ia, ib] :=
  PI.imp (pi_zip hg hm (pa_cons ha.xo (pa_cons hb.xo pa_nil hs2) hs) hs hpl) fun σ H R q => (use_src2 q).mono fun x H1 q => q.mono fun y H2 ⟨Ω, ρ, st, os, d, d2, its, S, sy, sy2, e1, q⟩ => by
    cases d <;> try (cases e1; done)
    cases d2 <;> try (cases e1; done)
    cases e1
    obtain ⟨a, ea, h1, h2⟩ := sy.lst
    obtain ⟨xs, hx⟩ := h1 S.sub
    obtain ⟨b, eb, g1, g2⟩ := sy2.lst
    obtain ⟨ys, hy⟩ := g1 S.sub
    exact ⟨a, b, xs, ys, by rw [ea, eb], .of hx, .of hy, q _ (src_zip h2 g2) (by rw [List.length_map, List.length_zip]; exact Nat.le_trans (Nat.min_le_left _ _) sy.len)⟩
end
end PD

set_option Elab.async false
set_option linter.all false
set_option maxRecDepth 100000
/-! PD18: an exception that leaves a comprehension's block. -/
namespace PD
open PySem PySem.Spec PyProof.Rows L2
/-- the error's way out of a block whose names stand at C -/
def outErr (M : Model) (A : Around) (E : Value → Shared → Prop) (C : Addr) (fr : Option Addr) (x : Value) (s' : Shared) : Prop :=
  ∃ m, s'.heap.Ns C m ∧ ∀ h', Heap.SameBut C s'.heap h' → ∀ ce : Env, ce.frame = fr →
    wpAny M A (passOn "comprehension.variables-let-go" x ce : Sem Value) (fun _ _ => False) E { s' with heap := h' }
theorem note_env {x : Value} {ce env : Env} (h : ce.frame = env.frame) : noteFrame x ce = noteFrame x env := by
  unfold noteFrame PySem.frameOf
  rw [h]
section
variable {X : Cx} {pins : List (Addr × Obj)} {σ : L2.St} {H : Hp} {s s' : Shared} {W : WX} {E : XK}
theorem comp_air (hs : X.stack = X.env :: X.outer) (hf : X.env.frame = some X.env.locals) (tk : Takes X W) (I : Inv X pins σ H s) {C : Addr} {m : Str → Option Value} (hn : s.heap.Ns C m) (hC : FpOk X pins H C) (nfr : C ∉ frs X.stack)
    (hW : ∀ cls d H', E cls d H' → W cls d σ H') {u : Value} (c : CX X.prog X.w X.stack H s E u s') {ce : Env} (hce : ce.frame = X.env.frame) {E' : Value → Shared → Prop} :
    wpAny (model X.prog X.w) X.A (noteFrame u ce) (fun _ s2 => outErr (model X.prog X.w) X.A X.xe C X.env.frame u s2) E' s' := by
  obtain ⟨a, B, H', cls, d, rfl, fl, hok, ub, na, os, ag, hE⟩ := c
  obtain ⟨oC, es, ep, hoC, hdC, hrest⟩ := id hn
  obtain ⟨c0, c1, c2, c3, c4, c5⟩ := hC
  have bC : B.get? C = some oC := ub.keep C oC hoC c0 nfr
  have fC : H' C = none := ub.free C oC hoC c0
  have hfr : X.A.frames = some (X.env :: X.outer) := by rw [I.ok.frames, hs]
  rw [note_env hce]
  rw [hs] at fl
  refine HandSPX.looks_onZ Zc.steady hfr hf fl fun h1 hh up1 => ?_
  have st1 : B.StaysIn h1 := hh.1
  have aC : a ≠ C := fun z => by have := hh.2.1; rw [z, bC] at this; cases this
  refine ⟨m, hn.at fun o e => st1 C o (by rw [hoC] at e; cases e; exact bC), fun h' sb ce' hf' => ?_⟩
  obtain ⟨B', b1, b2⟩ := restrict B fun b => decide (b ≠ C)
  have B'of : ∀ b o, B'.get? b = some o → b ≠ C ∧ B.get? b = some o := fun b o e => by
    by_cases z : b = C
    · rw [b2 b (by simp [z])] at e; cases e
    · exact ⟨z, by rw [b1 b (by simp [z])] at e; exact e⟩
  have B'to : ∀ b o, b ≠ C → B.get? b = some o → B'.get? b = some o := fun b o z e => by rw [b1 b (by simp [z])]; exact e
  have toH' : ∀ b o, b ≠ C → h1.get? b = some o → h'.get? b = some o := fun b o z e => (sb.2 b z).trans e
  have funs : ∀ l : List Env, (∀ L ∈ frs l, L ≠ C) → h1.FunFrames B l → h'.FunFrames B' l := by
    intro l
    induction l with
    | nil => intro _ _; trivial
    | cons env r ih =>
      intro hl ⟨k1, ⟨L, o, f1, f2, f3, f4⟩, hr⟩
      have neL : L ≠ C := hl L (by unfold frs; rw [List.filterMap_cons, f1]; exact List.mem_cons_self)
      refine ⟨k1, ⟨L, o, f1, ?_, toH' L o neL f3, f4⟩, ih (fun b hb => hl b (by unfold frs; rw [List.filterMap_cons, f1]; exact List.mem_cons_of_mem _ hb)) hr⟩
      rw [b1 L (by simp [neL])]; exact f2
  have hh' : HandSPX.HeldZ B' (X.env :: X.outer) a (Zc cls d) X.env.locals h' := by
    obtain ⟨g1, g2, g3, oe, vs, T, oT, ts, he, hz, hd, hv1, hnT, hTe, hT, hdT, hv3⟩ := hh
    have TC : T ≠ C := fun z => by
      rw [z] at hnT
      rw [bC] at hnT; cases hnT
    refine ⟨fun b o e => toH' b o (B'of b o e).1 (g1 b o (B'of b o e).2), ?_, funs _ (fun L hL z => nfr (by rw [hs, ← z]; exact hL)) g3, oe, vs, T, oT, ts, toH' a oe aC he, hz, hd, hv1, ?_, hTe, toH' T oT TC hT, hdT, hv3⟩
    · rw [b1 a (by simp [aC])]; exact g2
    · rw [b1 T (by simp [TC])]; exact hnT
  obtain ⟨g1, g2, g3, oe, vs, T, oT, ts, he, hz, hd, hv1, hnT, hTe, hT, hdT, hv3⟩ := id hh'
  unfold PySem.passOn
  refine wpAny_bind (wpAny_field (s := { s' with heap := h' }) he hd hv1 ?_)
  rw [if_neg (show ¬ ((Value.ref T == Value.none) = true) from by simp)]
  have fin : wpAny (model X.prog X.w) X.A (setFlight (.ref a) ce'.frame) (fun _ s4 => wpAny (model X.prog X.w) X.A (throw (.ref a) : Sem Value) (fun _ _ => False) X.xe s4) X.xe { s' with heap := h' } := by
    rw [hf', hf]
    refine HandSPX.setFlight_onZ (s := { s' with heap := h' }) hh' fun h4 hh4 up4 => wpAny_throw (tk _ _ ?_)
    -- the state without the exception, and without the block's names
    obtain ⟨G, q1, q2⟩ := restrict s'.heap fun b => decide (b ≠ C) && ((B.get? b).isSome || decide (b ∈ frs X.stack))
    have gB : ∀ b o, b ≠ C → B.get? b = some o → G.get? b = some o := fun b o z e => by
      rw [q1 b (by simp [e, z])]
      exact fl.1 b o e
    have gF : ∀ b, b ∈ frs X.stack → G.get? b = s'.heap.get? b := fun b hb => q1 b (by simp [hb]; exact fun z => nfr (z ▸ hb))
    have og : ∀ b o, G.get? b = some o → s'.heap.get? b = some o ∧ b ≠ C ∧ ((B.get? b).isSome = true ∨ b ∈ frs X.stack) := fun b o e => by
      cases q : (decide (b ≠ C) && ((B.get? b).isSome || decide (b ∈ frs X.stack))) with
      | false => rw [q2 b q] at e; cases e
      | true =>
        rw [q1 b q] at e
        rw [Bool.and_eq_true, Bool.or_eq_true] at q
        exact ⟨e, of_decide_eq_true q.1, q.2.imp id of_decide_eq_true⟩
    have isB : ∀ b o, G.get? b = some o → b ∉ frs X.stack → B.get? b = some o := fun b o e hb => by
      obtain ⟨e', _, h⟩ := og b o e
      rcases h with h | h
      · obtain ⟨o', q⟩ := Option.isSome_iff_exists.mp h
        have z := fl.1 b o' q
        rw [e'] at z; cases z
        exact q
      · exact absurd h hb
    refine ⟨a, B', { s with heap := G, gens := s'.gens, drawn := s'.drawn, toks := s'.toks }, pins, σ, H', cls, d, rfl, ?_, fun b o e hb => B'to b o (og b o e).2.1 (isB b o e hb), ?_, .inr (.inr (by rw [hs]; exact hh4)), na, os, ag, hW _ _ _ hE⟩
    · refine I.call (ch := [C]) ⟨fun b o e n hb hc => gB b o (by simpa using hc) (ub.keep b o e n hb), fun b o e n hb hc => ?_, fun b o e n _ => ub.free b o e n, fun b o e hc => ?_, ub.tups, ub.frzs, ub.tbls⟩ (fun b ob e => ?_) ag (fun b hb => ?_)
      · obtain ⟨sl, q⟩ := ub.slot b o e hb
        exact ⟨sl, by rw [gF b hb]; exact q⟩
      · by_cases hb : b ∈ frs X.stack
        · obtain ⟨sl, q⟩ := ub.slot b o e hb
          exact ⟨_, by rw [gF b hb]; exact q⟩
        · obtain ⟨o', q⟩ := ub.there b o e hb
          exact ⟨o', gB b o' (by simpa using hc) q⟩
      · refine (hok b ob e).stay (fun c v hc q => gB c v ?_ q) (fun _ q => q) fun _ _ q => q
        intro z
        subst z
        rcases hc with hc | hc
        · rw [← hc, fC] at e; cases e
        · rw [fC] at hc; cases hc
      · have e : b = C := by simpa using hb
        subst e
        exact ⟨c3, c1, c4, c5⟩
    · refine Heap.UpToSlots.trans (fun b o e hnf => ?_) up4
      obtain ⟨e', ne, _⟩ := og b o e
      obtain ⟨sl, z⟩ := up1 b o e' hnf
      exact ⟨sl, toH' b _ ne z⟩
  first
    | exact wpAny_bind (wpAny_pure (wpAny_bind fin))
    | exact wpAny_bind fin
end
end PD

set_option Elab.async false
set_option linter.all false
set_option maxRecDepth 100000
/-! PD19: list comprehensions whose tests and items may raise. -/
namespace PD
open PySem PySem.Spec PyProof.Rows L2
/-- behind the block -/
def postX (M : Model) (A : Around) (E : Value → Shared → Prop) (use : Option (Value → Sem Unit)) (Q : Value → Shared → Prop) (acc : Value) (C : Addr) (fr : Option Addr) : Result → Shared → Prop
  | .ok _, s' => compPost M A E use Q acc C (.ok .next) s'
  | .error x, s' => outErr M A E C fr x s'
section
variable {M : Model} {A : Around} {E : Value → Shared → Prop} {env : Env} {s : Shared}
theorem comp_freeX {e : Expr} {scope : Scope} {pos : Pos} {newAcc first : Sem Value} {g : Comprehension} {gs : List Comprehension} {cl : List (Str × Addr)} {use : Option (Value → Sem Unit)} {Q : Value → Shared → Prop}
    (hcl : clausesOf e = g :: gs) (hs : ∀ x, foldedSetIterable g.iter env x = pure x) (hclos : closureFor scope env = pure cl) (hkind : scope.kind = .function) (hnames : ∀ x ∈ scope.names, x.2 = .local → scope.names.lookup x.1 = some .local)
    (h : wpAny M A first (fun x s₁ => wpAny M A (pyIter x) (fun it s₂ => wpAny M A newAcc (fun acc s₃ => wpAny M A (newFunctionEnv scope env.globals cl [] env.qual none .none (some env)) (fun cenv s₄ => cenv.frame = env.frame ∧
        codeAny M A (.compStart e 0 it acc { cenv with scope := relabel scope env }) (postX M A E use Q acc cenv.locals env.frame) s₄) E s₃) E s₂) E s₁) E s) : wpAny M A (comprehension e scope env pos newAcc false first use) Q E s := by
  unfold comprehension
  rw [hclos, hcl]
  have m : ∀ {α : Type} {t : Sem α} {Q Q' : α → Shared → Prop} {s : Shared}, wpAny M A t Q E s → (∀ a s', Q a s' → Q' a s') → wpAny M A t Q' E s := fun a b => wpAny_mono a b fun _ _ z => z
  refine wpAny_bind (m h fun x s₁ h₁ => ?_)
  refine wpAny_bind (wpAny_standAt (wpAny_bind (wpAny_of_eq (hs x) ?_)))
  refine wpAny_bind (wpAny_holding (m h₁ fun it s₂ h₂ => ?_))
  refine wpAny_standIf (wpAny_bind (m h₂ fun acc s₃ h₃ => ?_))
  refine wpAny_bind (wpAny_pure (wpAny_bind (m h₃ fun cenv s₄ h₄ => ?_)))
  obtain ⟨hfr, h₄⟩ := h₄
  dsimp only
  let own := (scope.names.filter fun x => (x.2 == .local || x.2 == .cell) && x.1 != (".0" : Str)).reverse
  have hv : ∀ x ∈ own, x.2 = .local → Env.kindOf { cenv with scope := relabel scope env } x.1 = some .local := fun x hx hl =>
    lookup_relabel_local (hnames x (List.mem_filter.mp (List.mem_reverse.mp hx)).1 hl)
  have hv' : ∀ x ∈ own.drop 1 ++ own.take 1, x.2 = .local → Env.kindOf { cenv with scope := relabel scope env } x.1 = some .local := fun x hx hl =>
    (List.mem_append.mp hx).elim (fun z => hv x (List.mem_of_mem_drop z) hl) fun z => hv x (List.mem_of_mem_take z) hl
  refine wpAny_holding (wpAny_bind (wpAny_attempt (wpAny_holding (wpAny_run (codeAny_mono h₄ fun r s' hr => ?_)))))
  cases r with
  | ok f =>
    cases use with
    | none =>
      obtain ⟨m, hn, hr⟩ := hr
      refine wpAny_bind (wpAny_holding ?_)
      exact wpAny_comp_letGo (cenv := { cenv with scope := relabel scope env }) hkind _ s' m hv hn fun h' m' _ hs' => wpAny_pure (hr h' hs')
    | some u =>
      refine wpAny_bind (wpAny_rule (wpAny_bind (wpAny_holding (m hr fun _ s'' hr' => ?_))))
      obtain ⟨m, hn, hr'⟩ := hr'
      refine wpAny_bind ?_
      exact wpAny_comp_letGo (cenv := { cenv with scope := relabel scope env }) hkind _ s'' m hv' hn fun h' m' _ hs' => wpAny_pure (hr' h' hs')
  | error x =>
    obtain ⟨m, hn, hr⟩ := hr
    refine wpAny_bind (wpAny_holding ?_)
    exact wpAny_comp_letGo (cenv := { cenv with scope := relabel scope env }) hkind _ s' m hv hn fun h' m' _ hs' => wpAny_mono (hr h' hs' _ hfr) (fun _ _ f => f.elim) fun _ _ y => y
end
/-- the context of a block, with what it lets out -/
abbrev blkX (X : Cx) (s : Shared) (H : Hp) (scope : Scope) (ce : Env) (fp : List Addr) (xe : Value → Shared → Prop) : Cx := { X.blk s H scope ce fp with xe := xe }
theorem inv_xe {X : Cx} {xe : Value → Shared → Prop} {pins : List (Addr × Obj)} {σ : L2.St} {H : Hp} {s : Shared} (I : Inv X pins σ H s) : Inv { X with xe := xe } pins σ H s :=
  ⟨⟨I.ok.mod, I.ok.kind, I.ok.glob, I.ok.blt, I.ok.above, I.ok.inj, I.ok.has, I.ok.cab, I.ok.hd, I.ok.frames, I.ok.stk, I.ok.exf, I.ok.bs, I.ok.bsz, I.ok.noex, I.ok.exfs, I.ok.funs, I.ok.frf⟩, I.os, I.bare, I.base, I.loc, I.cell, I.free, I.freeC, I.pin, I.hok, I.len⟩
section
variable {X : Cx} {W : WX}
/-- [elt for target in iter if ..] -/
theorem lc_coreX {pins : List (Addr × Obj)} {s : Shared} {σ : L2.St} {H : Hp} {Q : VK} {elt tg iter : Expr} {ifs : List Expr} {scope : Scope} {own : List (Str × Nat)} {pos pos' : Pos} {wi : TI} {g : TG} {tt : WX → TT} {te : WX → TE} {use : Option (Value → Sem Unit)} {Qf : Value → Shared → Prop}
    (hstk : X.stack = X.env :: X.outer) (hfrm : X.env.frame = some X.env.locals) (tk : Takes X W) (hc : X.calm = true) (hN : X.N.Nodup) (I : Inv X pins σ H s) (hi : PI X tg iter wi) (ok : BlkOk X.N X.env.scope scope own)
    (hg : ∀ (s : Shared) (H : Hp) (C : Addr) (cl : List (Str × Addr)) (fp : List Addr) (xe : Value → Shared → Prop), PG (blkX X s H scope (compEnvC scope cl C X.env) fp xe) tg g)
    (ht : ∀ (W' : WX) (s : Shared) (H : Hp) (C : Addr) (cl : List (Str × Addr)) (fp : List Addr) (xe : Value → Shared → Prop), Tk (blkX X s H scope (compEnvC scope cl C X.env) fp xe) W' → PTs (blkX X s H scope (compEnvC scope cl C X.env) fp xe) ifs (tt W'))
    (he : ∀ (W' : WX) (s : Shared) (H : Hp) (C : Addr) (cl : List (Str × Addr)) (fp : List Addr) (xe : Value → Shared → Prop), Tk (blkX X s H scope (compEnvC scope cl C X.env) fp xe) W' → PE (blkX X s H scope (compEnvC scope cl C X.env) fp xe) elt (te W'))
    (hs : ∀ x, foldedSetIterable iter X.env x = pure x) (h : tLc wi g (tt fun cls d _ H' => W cls d σ H') (te fun cls d _ H' => W cls d σ H') (own.map (·.2)) σ H Q)
    (hRR : ∀ D C s' m H', Inv X pins σ H' s' → Q (.ref D) H' → s'.heap.Ns C m → FpOk X pins H' C → compPost (model X.prog X.w) X.A X.xe use Qf (.ref D) C (.ok .next) s') :
    wpAny (model X.prog X.w) X.A (comprehension (.ListComp elt [⟨tg, iter, ifs, 0⟩] scope pos) scope X.env pos' (newList []) false (eval iter X.env) use) Qf X.xe s := by
  have hfree : ∀ y ∈ scope.names, y.2 = .free → ∃ c, X.env.cells.lookup y.1 = some c := fun y hy e => (ok.free y hy e).elim (fun k => I.ok.has _ (.inl k)) fun k => I.ok.has _ (.inr k)
  refine comp_freeX (use := use) rfl hs (closure_ok hfree) ok.kind (fun y hy e => by rw [ok.uniq y hy, e]) (thn (hi.run pins s σ H _ I h) fun xv s1 hx => thn hx fun itv s2 h2 => ?_)
  obtain ⟨it, fp, tn, J, H2, e, I2, T, st2, f2, q⟩ := h2
  subst e
  refine wpAny_newObj_type (newEnv_comp ⟨rfl, ?_⟩) (by show 0 ≤ sizeLine; decide)
  generalize hD : s2.heap.objs.size = D
  obtain ⟨U, ⟨m0, w0⟩, turn⟩ := q D (I2.hok.fresh (Nat.le_of_eq hD))
  generalize hs3 : ({ s2 with heap := s2.heap.push { cls := .type "list", data := .seq ([] : List Value).toArray } } : Shared) = s3
  have I3 : Inv X pins σ (upd H2 D (.lst [])) s3 := by
    rw [← hs3]
    refine I2.laid (t' := s2.toks) (fun b o e => Heap.get?_push_of_some _ e) (Nat.le_of_eq hD) ⟨Nat.zero_le _, [], 0, .nil, ?_⟩
    rw [← hD]
    exact Heap.get?_push_size _ rfl
  have h3 : s3.heap = s2.heap.push { cls := .type "list", data := .seq ([] : List Value).toArray } := by rw [← hs3]
  have sz : ∀ b ∈ fp, b < s2.heap.objs.size := fun b hb => let ⟨_, e, _⟩ := T.obj _ _ st2 b hb; Heap.lt_size e
  have f3 : ∀ b ∈ fp, FpOk X pins (upd H2 D (.lst [])) b ∧ b < s3.heap.objs.size := fun b hb => by
    have hlt := sz b hb
    have ne : b ≠ D := by rw [← hD]; exact Nat.ne_of_lt hlt
    exact ⟨⟨by rw [upd_ne ne]; exact (f2 b hb).1, (f2 b hb).2⟩, by rw [h3, Heap.size_push]; exact Nat.lt_succ_of_lt hlt⟩
  have st3 : tn 0 s3.heap := T.keep _ _ _ st2 fun b _ o e => by rw [h3]; exact Heap.get?_push_of_some _ e
  -- the block's start; its context
  let cl0 := cellsFrom (s3.heap.objs.size + 1) scope.names (cloFrom X.env.cells scope.names [])
  generalize hxe : (notedBy (model X.prog X.w) X.A (compEnvC scope cl0 s3.heap.objs.size X.env) fun e s' => outErr (model X.prog X.w) X.A X.xe s3.heap.objs.size X.env.frame e s') = xe
  have I4 := inv_xe (xe := xe) (block_start I3 ok hN f3)
  have pg := hg s3 (upd H2 D (.lst [])) s3.heap.objs.size cl0 fp xe
  have nC3 : (upd H2 D (.lst [])) s3.heap.objs.size = none := I3.hok.fresh (Nat.le_refl _)
  have fpC : ∀ {H' : Hp}, H' s3.heap.objs.size = none → FpOk X pins H' s3.heap.objs.size := fun h => I3.fpOk (Nat.le_refl _) h
  have frC : s3.heap.objs.size ∉ frs X.stack := fun hm => by
    obtain ⟨_, o, e, _⟩ := I3.stack.mem hm
    exact absurd (Heap.lt_size e) (Nat.lt_irrefl _)
  generalize hce : compEnvC scope cl0 s3.heap.objs.size X.env = ce at I4 pg hxe
  have cL : ce.locals = s3.heap.objs.size := by subst hce; rfl
  have cF : ce.frame = X.env.frame := by subst hce; rfl
  -- from the block back to the def
  have back : ∀ {pp : List (Addr × Obj)} {σ' : L2.St} {H' : Hp} {s' : Shared}, Inv (blkX X s3 (upd H2 D (.lst [])) scope ce fp xe) pp σ' H' s' → Inv X pins σ H' s' ∧ H' s3.heap.objs.size = none ∧ ∃ m, s'.heap.Ns s3.heap.objs.size m := fun {pp σ' H' s'} I' => by
    refine ⟨I3.call' (ch := fp) I'.os I'.base I'.hok I'.bare fun b hb => ⟨(f3 b hb).1.2.2.2.1, (f3 b hb).1.2.1, (f3 b hb).1.2.2.2.2.1, (f3 b hb).1.2.2.2.2.2⟩, ?_, ?_⟩
    · have z : H' ce.locals = none := I'.free
      rw [cL] at z; exact z
    · obtain ⟨m, hn, _⟩ := I'.loc
      have hn : s'.heap.Ns ce.locals m := hn
      rw [cL] at hn; exact ⟨m, hn⟩
  have tkB : Tk (blkX X s3 (upd H2 D (.lst [])) scope ce fp xe) (fun cls d _ H' => W cls d σ H') := fun σ' pp H' s' e s'' I' c => by
    obtain ⟨I7, nC, m, hn⟩ := back I'
    show xe e s''
    rw [← hxe]
    exact comp_air hstk hfrm tk I7 hn (fpC nC) frC (fun _ _ _ z => z) c cF
  have pt := ht (fun cls d _ H' => W cls d σ H') s3 (upd H2 D (.lst [])) s3.heap.objs.size cl0 fp xe (by rw [hce]; exact tkB)
  have pe := he (fun cls d _ H' => W cls d σ H') s3 (upd H2 D (.lst [])) s3.heap.objs.size cl0 fp xe (by rw [hce]; exact tkB)
  rw [hce] at pt pe
  show codeAny _ _ (.compStart (.ListComp elt [⟨tg, iter, ifs, 0⟩] scope pos) 0 (.ref it) (.ref D) (compEnvC scope cl0 s3.heap.objs.size X.env)) (postX (model X.prog X.w) X.A X.xe use Qf (.ref D) s3.heap.objs.size X.env.frame) { s3 with heap := pushCells (s3.heap.push { cls := .type "dict", data := .dict #[] }) scope.names }
  have nfp : ∀ b ∈ fp, (upd H2 D (.lst [])) b = none := fun b hb => (f3 b hb).1.1
  rw [hce]
  generalize hH3 : upd H2 D (.lst []) = H3 at I3 I4 pg pt pe w0 nfp f3 tkB back
  generalize hs4 : ({ s3 with heap := pushCells (s3.heap.push { cls := .type "dict", data := .dict #[] }) scope.names } : Shared) = s4 at I4 ⊢
  have st4 : tn 0 s4.heap := T.keep _ _ _ st3 fun b _ o e => by rw [← hs4]; exact pushCells_keeps _ _ _ _ (Heap.get?_push_of_some _ e)
  have stat : ∀ {σ' : L2.St} {H' : Hp} {s' : Shared}, Inv (blkX X s3 H3 scope ce fp xe) [] σ' H' s' → (∀ b ∈ fp, H' b = none) → ∀ b ∈ fp, FpOk (blkX X s3 H3 scope ce fp xe) [] H' b := fun {σ' H' s'} I' hn b hb =>
    ⟨hn b hb, (I'.ok.exf b hb).1, I'.ok.exfs b hb, .inl hb, fun x c e => (I'.ok.exf b hb).2 x c e, fun p hp => absurd (show p ∈ ([] : List (Addr × Obj)) ++ [] from hp) (by simp)⟩
  have toE : ∀ {α : Type} {t : Sem α} {Q Q' : α → Shared → Prop} {s : Shared}, wpAny (model X.prog X.w) X.A t Q xe s → (∀ a s', Q a s' → Q' a s') →
      wpAny (model X.prog X.w) X.A t Q' (notedBy (model X.prog X.w) X.A ce fun e s' => postX (model X.prog X.w) X.A X.xe use Qf (.ref D) s3.heap.objs.size X.env.frame (.error e) s') s := fun {α t Q Q' s} a b => by
    refine wpAny_mono a b fun e s' z => ?_
    rw [← hxe] at z
    exact z
  have loop : codeAny (model X.prog X.w) X.A (.compLoop (.ListComp elt [⟨tg, iter, ifs, 0⟩] scope pos) 0 (.ref it) (.ref D) ce) (postX (model X.prog X.w) X.A X.xe use Qf (.ref D) s3.heap.objs.size X.env.frame) s4 := by
    refine compLoop_any (fun n s' => ∃ i H', Inv (blkX X s3 H3 scope ce fp xe) [] (wipe σ (own.map (·.2))) H' s' ∧ tn i s'.heap ∧ (∀ b ∈ fp, H' b = none) ∧ U i n H') ?_ m0 ⟨0, H3, I4, st4, nfp, w0⟩
    rintro n s5 ⟨i, H5, I5, st5, n5, w5⟩
    rcases turn i n H5 w5 with ⟨stop, qq⟩ | ⟨go, Nx, hNx, step⟩
    · refine thnF (T.done (blkX X s3 H3 scope ce fp xe) rfl rfl rfl hc i [] s5 _ H5 (fun _ _ => False) I5 (stat I5 n5) st5 stop) fun r s6 ⟨hr, I6⟩ => ?_
      subst hr
      obtain ⟨I7, nC, m, hn⟩ := back I6
      exact hRR D s3.heap.objs.size s6 m H5 I7 qq hn (fpC nC)
    · refine thnF (T.item (blkX X s3 H3 scope ce fp xe) rfl rfl rfl hc i [] s5 _ H5 (fun _ _ => False) I5 (stat I5 n5) st5 go) fun r s6 ⟨u, hr, h6⟩ => ?_
      subst hr
      refine thnF h6 fun _ s7 ⟨x, H7, I7, r7, y7, st7, n7⟩ => ?_
      have I7' := I7.pinned (stat I7 n7) (T.obj _ _ st7)
      refine toE (pg.run _ s7 _ H7 x u _ I7' r7 (step x H7 y7)) fun _ s8 ⟨σ8, H8, I8, hw8, q8⟩ => ?_
      refine toE (pt.run _ s8 σ8 H8 _ I8 q8) fun b s9 ⟨H9, I9, q9⟩ => ?_
      have fin : ∀ {s' : Shared} {H' : Hp}, Inv (blkX X s3 H3 scope ce fp xe) ([] ++ pinsAt fp s7.heap) σ8 H' s' → Nx H' → ∃ m, m < n ∧ ∃ i H', Inv (blkX X s3 H3 scope ce fp xe) [] (wipe σ (own.map (·.2))) H' s' ∧ tn i s'.heap ∧ (∀ b ∈ fp, H' b = none) ∧ U i m H' := fun {s' H'} I' nx => by
        obtain ⟨m', hm, w'⟩ := hNx H' nx
        have pin' : ∀ b ∈ fp, ∀ o, s7.heap.get? b = some o → s'.heap.get? b = some o ∧ H' b = none := fun b hb o e =>
          (fun z => ⟨z.1, z.2.1⟩) (I'.pin (b, o) (List.mem_append_right _ (List.mem_append_right _ (mem_pinsAt hb e))))
        have hl : (wipe σ (own.map (·.2))).length = σ8.length := by rw [← hw8, wipe_length]
        refine ⟨m', hm, i + 1, H', (I'.unpinned (pins := [])).weak hl (fun j v e => ?_), T.keep _ _ _ st7 fun b hb o e => (pin' b hb o e).1, fun b hb => ?_, w'⟩
        · rw [← hw8] at e
          exact (wipe_some e).1
        · obtain ⟨o, e, _⟩ := T.obj _ _ st7 b hb
          exact (pin' b hb o e).2
      cases b with
      | false =>
        simp only [Bool.false_eq_true, if_false] at q9 ⊢
        exact fin I9 q9
      | true =>
        simp only [if_true] at q9 ⊢
        refine toE (pe.run _ s9 σ8 H9 _ I9 q9) fun z s10 ⟨yv, H10, I10, r10, acc, hD10, hz10, nx⟩ => ?_
        exact app_ok (X := blkX X s3 H3 scope ce fp xe) I10 hD10 hz10 r10 fun s11 I11 => fin I11 nx
  exact codeAny_compStart_list loop (T.self X.A 0 _ _ _ st4 loop)
end
end PD

set_option Elab.async false
set_option linter.all false
set_option maxRecDepth 100000
/-! PD20: list comprehensions in the little language. -/
namespace PD
open PySem PySem.Spec L2
theorem set_map {α : Type} (l : List α) (v j : Nat) (x : α) : (l.set v x)[j]? = (l[j]?).map fun s => if j = v then x else s := by
  by_cases e : j = v
  · subst e
    by_cases h : j < l.length
    · rw [List.getElem?_set_self h, List.getElem?_eq_getElem h]; simp
    · rw [List.getElem?_eq_none (by simpa using h), List.getElem?_eq_none (by simpa using h)]; rfl
  · rw [List.getElem?_set_ne (Ne.symm e)]; simp [e]
theorem wipeS_get (ρ : List Slot) (j : Nat) : ∀ vs : List Nat, (wipeS ρ vs)[j]? = (ρ[j]?).map fun s => if j ∈ vs then .un else s
  | [] => by simp [wipeS]
  | v :: vs => by
    unfold wipeS
    rw [set_map, wipeS_get ρ j vs, Option.map_map]
    congr 1; funext s
    by_cases e : j = v <;> simp [e]
theorem backS_get (ρ0 ρ : List Slot) (j : Nat) : ∀ vs : List Nat, (backS ρ0 ρ vs)[j]? = (ρ[j]?).map fun s => if j ∈ vs then ρ0.getD j .un else s
  | [] => by simp [backS]
  | v :: vs => by
    unfold backS
    rw [set_map, backS_get ρ0 ρ j vs, Option.map_map]
    congr 1; funext s
    by_cases e : j = v <;> simp [e]
theorem wipe_get (σ : L2.St) (j : Nat) : ∀ vs : List Nat, (wipe σ vs)[j]? = (σ[j]?).map fun s => if j ∈ vs then none else s
  | [] => by simp [wipe]
  | v :: vs => by
    unfold wipe
    rw [set_map, wipe_get σ j vs, Option.map_map]
    congr 1; funext s
    by_cases e : j = v <;> simp [e]
theorem wipe_out {σ : L2.St} {j : Nat} {vs : List Nat} (h : j ∉ vs) : (wipe σ vs)[j]? = σ[j]? := by rw [wipe_get]; simp [h]
theorem wipeS_len (ρ : List Slot) : ∀ vs : List Nat, (wipeS ρ vs).length = ρ.length
  | [] => rfl
  | v :: vs => by unfold wipeS; rw [List.length_set, wipeS_len ρ vs]
theorem backS_len (ρ0 ρ : List Slot) : ∀ vs : List Nat, (backS ρ0 ρ vs).length = ρ.length
  | [] => rfl
  | v :: vs => by unfold backS; rw [List.length_set, backS_len ρ0 ρ vs]
theorem wipe_idem (σ : L2.St) (vs : List Nat) : wipe (wipe σ vs) vs = wipe σ vs := by
  refine List.ext_getElem? fun j => ?_
  rw [wipe_get, wipe_get, Option.map_map]
  congr 1; funext s
  by_cases e : j ∈ vs <;> simp [e]
theorem backS_wipeS (ρ0 ρ : List Slot) (vs : List Nat) : backS ρ0 (wipeS ρ vs) vs = backS ρ0 ρ vs := by
  refine List.ext_getElem? fun j => ?_
  rw [backS_get, backS_get, wipeS_get, Option.map_map]
  congr 1; funext s
  by_cases e : j ∈ vs <;> simp [e]
section
variable {N : Nm} {K : PySem.W.Frag} {W : WX} {Ω Ω' Ω1 : Wd} {ρ ρ' ρ1 : List Slot} {st st' st1 : List D} {σ σ' : L2.St} {H H' H1 : Hp}
theorem wipeS_some {vs : List Nat} {j : Nat} {s : Slot} (h : (wipeS ρ vs)[j]? = some s) : s = .un ∨ (j ∉ vs ∧ ρ[j]? = some s) := by
  rw [wipeS_get] at h
  obtain ⟨s', e, q⟩ := Option.map_eq_some_iff.mp h
  split at q
  · exact .inl q.symm
  · rename_i hn; exact .inr ⟨hn, q ▸ e⟩
/-- a block's own names are forgotten -/
theorem StR.wipe (vs : List Nat) (S : StR N K Ω ρ st σ H) : StR N K Ω (wipeS ρ vs) st (L2.wipe σ vs) H ∧ Step Ω ρ σ H Ω (wipeS ρ vs) (L2.wipe σ vs) H := by
  refine ⟨⟨by rw [wipeS_len, wipe_length]; exact S.len, S.sub, fun j s hj => ?_, fun a b s t p h1 h2 h3 h4 h5 h6 => ?_, S.stl, S.sto, S.phF, S.nd⟩, ⟨fun _ _ h => h, Ph.refl _, fun _ h => .inl h, fun p hp => .inl ?_, fun _ _ h _ => h, fun _ h => h, fun j d hj => ?_⟩⟩
  · rcases wipeS_some hj with e | ⟨hn, e⟩
    · subst e; trivial
    · rw [wipe_out hn]; exact S.slot j s e
  · rcases wipeS_some h1 with e | ⟨hn, e⟩
    · subst e; cases h3
    · rcases wipeS_some h2 with e' | ⟨hn', e'⟩
      · subst e'; cases h4
      · rw [wipe_out hn] at h5
        rw [wipe_out hn'] at h6
        exact S.dist a b s t p e e' h3 h4 h5 h6
  · rcases hp with hp | ⟨j, d, h1, h2⟩
    · exact .inl hp
    · rcases wipeS_some h1 with e | ⟨hn, e⟩
      · cases e
      · rw [wipe_out hn] at h2
        exact .inr ⟨j, d, e, h2⟩
  · rcases wipeS_some hj with e | ⟨hn, e⟩
    · cases e
    · exact ⟨e, wipe_out hn⟩
/-- behind a block: its own slots as they were -/
theorem StR.back {vs : List Nat} (hv : ∀ j ∈ vs, ∀ s, ρ1[j]? = some s → s = .un ∨ ∃ d, s = .sh d) (S1 : StR N K Ω1 ρ1 st1 σ H1) (hw : L2.wipe σ' vs = L2.wipe σ vs) (S : StR N K Ω' ρ' st' σ' H')
    (t : Step Ω1 (wipeS ρ1 vs) (L2.wipe σ vs) H1 Ω' ρ' σ' H') : StR N K Ω' (backS ρ1 ρ' vs) st' σ H' ∧ Step Ω1 ρ1 σ H1 Ω' (backS ρ1 ρ' vs) σ H' ∧ ∀ p, HeldA Ω'.φ (backS ρ1 ρ' vs) σ p → HeldA Ω'.φ ρ' σ' p := by
  have out : ∀ {j : Nat}, j ∉ vs → σ'[j]? = σ[j]? := fun {j} hn => by rw [← wipe_out (σ := σ') hn, hw, wipe_out hn]
  have len' : σ'.length = σ.length := by rw [← wipe_length σ' vs, hw, wipe_length]
  have get : ∀ {j : Nat} {s : Slot}, (backS ρ1 ρ' vs)[j]? = some s → (j ∈ vs ∧ (s = .un ∨ (∃ d, s = .sh d) ∧ ρ1[j]? = some s)) ∨ (j ∉ vs ∧ ρ'[j]? = some s) := fun {j s} h => by
    rw [backS_get] at h
    obtain ⟨s', e, q⟩ := Option.map_eq_some_iff.mp h
    split at q
    · rename_i hm
      refine .inl ⟨hm, ?_⟩
      cases z : ρ1[j]? with
      | none => rw [List.getD_eq_getElem?_getD, z] at q; exact .inl q.symm
      | some s1 =>
        rw [List.getD_eq_getElem?_getD, z] at q
        have q' : s1 = s := q
        subst q'
        rcases hv j hm s1 z with y | y
        · exact .inl y
        · exact .inr ⟨y, rfl⟩
    · rename_i hn
      exact .inr ⟨hn, q ▸ e⟩
  have hheld : ∀ {j : Nat} {s : Slot}, (backS ρ1 ρ' vs)[j]? = some s → held s = true → j ∉ vs ∧ ρ'[j]? = some s := fun {j s} h hs => by
    rcases get h with ⟨_, e | ⟨⟨d, e⟩, _⟩⟩ | r
    · subst e; cases hs
    · subst e; cases hs
    · exact r
  have ownw : ∀ {a : Addr} {φ : List Addr}, OwnA φ (wipeS ρ1 vs) (L2.wipe σ vs) a → OwnA φ ρ1 σ a := fun {a φ} h => by
    rcases h with h | ⟨j, d, h1, h2⟩
    · exact .inl h
    · rcases wipeS_some h1 with e | ⟨hn, e⟩
      · cases e
      · rw [wipe_out hn] at h2; exact .inr ⟨j, d, e, h2⟩
  refine ⟨⟨by rw [backS_len, S.len, len'], S.sub, fun j s hj => ?_, fun a b s t p h1 h2 h3 h4 h5 h6 => ?_, S.stl, S.sto, S.phF, S.nd⟩, ⟨t.fm, t.pm, fun a h => ?_, fun p hp => ?_, fun a o h n => t.keep a o h fun z => n (ownw z), t.dom, fun j d hj => ?_⟩, fun p hp => ?_⟩
  · rcases get hj with ⟨_, e | ⟨⟨d, e⟩, e1⟩⟩ | ⟨hn, e⟩
    · subst e; trivial
    · subst e
      obtain ⟨x, ex, rx⟩ := S1.slot j _ e1
      exact ⟨x, ex, Rep.le t.fm t.pm _ _ rx⟩
    · have := S.slot j s e
      rw [out hn] at this; exact this
  · obtain ⟨n1, e1⟩ := hheld h1 h3
    obtain ⟨n2, e2⟩ := hheld h2 h4
    exact S.dist a b s t p e1 e2 h3 h4 (by rw [out n1]; exact h5) (by rw [out n2]; exact h6)
  · rcases t.new a h with z | z | z
    · exact .inl z
    · exact .inr (.inl z)
    · exact .inr (.inr (ownw z))
  · have : OwnA Ω'.φ ρ' σ' p := by
      rcases hp with hp | ⟨j, d, h1, h2⟩
      · exact .inl hp
      · obtain ⟨n1, e1⟩ := hheld h1 rfl
        exact .inr ⟨j, d, e1, by rw [out n1]; exact h2⟩
    exact (t.own p this).imp ownw id
  · obtain ⟨n1, e1⟩ := hheld hj rfl
    obtain ⟨e2, _⟩ := t.ln j d e1
    rcases wipeS_some e2 with e | ⟨_, e⟩
    · cases e
    · exact ⟨e, rfl⟩
  · rcases hp with hp | ⟨j, s, h1, h2, h3⟩
    · exact .inl hp
    · obtain ⟨n1, e1⟩ := hheld h1 h2
      exact .inr ⟨j, s, e1, h2, by rw [out n1]; exact h3⟩
/-- a thing that nobody holds -/
def FreeA (Ω : Wd) (ρ : List Slot) (σ : L2.St) (p : Addr) : Prop := Ω.F p = none ∧ ¬ HeldA Ω.φ ρ σ p
theorem FreeA.step {p : Addr} {o : HO} (f : FreeA Ω ρ σ p) (e : H p = some o) (t : Step Ω ρ σ H Ω' ρ' σ' H') : FreeA Ω' ρ' σ' p ∧ H' p = some o := by
  have nOwn : ¬ OwnA Ω.φ ρ σ p := fun z => f.2 z.held
  refine ⟨⟨?_, fun z => ?_⟩, t.keep p o e nOwn⟩
  · cases q : Ω'.F p with
    | none => rfl
    | some u =>
      rcases t.new p (by rw [q]; exact fun z => nomatch z) with z | z | z
      · exact absurd f.1 z
      · rw [e] at z; cases z
      · exact absurd z nOwn
  · rcases z with z | ⟨j, s, h1, h2, h3⟩
    · rcases t.own p (.inl z) with z | z
      · exact nOwn z
      · rw [e] at z; cases z
    · cases s with
      | un => cases h2
      | sh d => cases h2
      | own d =>
        rcases t.own p (.inr ⟨j, d, h1, h3⟩) with z | z
        · exact nOwn z
        · rw [e] at z; cases z
      | lent d =>
        obtain ⟨e1, e2⟩ := t.ln j d h1
        exact f.2 (.inr ⟨j, _, e1, rfl, e2 ▸ h3⟩)
/-- what nobody holds is written -/
theorem StR.upd {p : Addr} {o : HO} (S : StR N K Ω ρ st σ H) (f : FreeA Ω ρ σ p) : StR N K Ω ρ st σ (L2.upd H p o) := by
  have ne : ∀ {q : Addr}, HeldA Ω.φ ρ σ q → q ≠ p := fun {q} h z => f.2 (z ▸ h)
  have up : ∀ {q : Addr} {o' : HO}, q ≠ p → H q = some o' → L2.upd H p o q = some o' := fun {q o'} n h => by rw [upd_ne n]; exact h
  refine ⟨S.len, fun a o' h => ?_, fun j s hj => ?_, S.dist, S.stl, fun n q c h1 h2 => (S.sto n q c h1 h2).le (fun _ _ h => h) (Ph.refl _) fun o' z => up (ne (.inl (List.mem_of_getElem? h1))) z, S.phF, S.nd⟩
  · exact up (ne_of_none h f.1) (S.sub a o' h)
  · have q := S.slot j s hj
    cases s with
    | un => trivial
    | sh d => exact q
    | own d =>
      obtain ⟨k', p', e', q, f', g'⟩ := q
      exact ⟨k', p', e', q.le (fun _ _ h => h) (Ph.refl _) (fun o' z => up (ne (.inr ⟨j, _, hj, rfl, e'⟩)) z), f', g'⟩
    | lent d =>
      obtain ⟨k', p', e', q, f', g'⟩ := q
      exact ⟨k', p', e', q.le (fun _ _ h => h) (Ph.refl _) (fun o' z => up (ne (.inr ⟨j, _, hj, rfl, e'⟩)) z), f', g'⟩
/-- .. that was not there at the start -/
theorem Step.updN {p : Addr} {o : HO} (t : Step Ω ρ σ H Ω' ρ' σ' H') (n : H p = none) : Step Ω ρ σ H Ω' ρ' σ' (L2.upd H' p o) :=
  ⟨t.fm, t.pm, t.new, t.own, fun a o' h k => by rw [upd_ne (ne_of_none h n)]; exact t.keep a o' h k, fun a h => by
    by_cases e : a = p
    · subst e; rw [upd_same] at h; cases h
    · rw [upd_ne e] at h; exact t.dom a h, t.ln⟩
theorem StR.free (S : StR N K Ω ρ st σ H) {p : Addr} (n : H p = none) : FreeA Ω ρ σ p := by
  refine ⟨?_, fun z => ?_⟩
  · cases e : Ω.F p with
    | none => rfl
    | some u => rw [S.sub _ _ e] at n; cases n
  · obtain ⟨_, o, h⟩ := S.heldF z
    rw [n] at h; cases h
end
theorem PTs.imp {X : Cx} {e : List Expr} {t t' : TT} (p : PTs X e t) (h : ∀ σ H Q, t' σ H Q → t σ H Q) : PTs X e t' := ⟨fun w s σ H Q I q => p.run w s σ H Q I (h σ H Q q)⟩
/-- the test of a comprehension -/
def condS : Option E → Sm Bool
  | none => fun ρ st => .ok ρ st true
  | some c => fun ρ st => asB (run c ρ st)
section
variable {N : Nm} {W : WX} {X : Cx} {e : Expr} {pos : Pos}
theorem pts_none : PTs X [] (tX N X.K W (fun _ => RB) (condS none)) := PTs.imp pts_nil fun σ H Q ⟨Ω, ρ, st, S, q⟩ => q Ω H true S (Step.refl _ _ _ _) rfl
theorem pts_some {c : Expr} {ic : E} (h : XTi N W X c ic) : PTs X [c] (tX N X.K W (fun _ => RB) (condS (some ic))) := pts_one h
/-- the run of the block -/
def blkS (own : List Nat) (tg : Tg) (cond : Option E) (elt : E) (its acc : List D) : Sm (List D) := compLoop own tg (condS cond) (fun ρ st => frz (run elt ρ st)) its acc
theorem run_comp (own : List Nat) (k : Nat) (src : List E) (tg : Tg) (cond : Option E) (elt : E) (ρ : List Slot) (st : List D) : run (.comp own k src tg cond elt) ρ st = (runO src ρ st).bind fun ρ st os => match rezs ρ [] os with
    | some ds => match items k ds with
      | some its => if ownFree ρ own then (blkS own tg cond elt its [] (wipeS (lend (lends ρ os) ρ) own) st).bindX (fun ρ' => unlend (lends ρ os) (backS ρ ρ' own)) fun ρ' st' acc => .ok ρ' st' (true, .lst acc) else .stuck
      | none => .stuck
    | none => .stuck := by
  unfold blkS
  cases cond <;> (rw [run]; rfl)
theorem ownFree_at {ρ : List Slot} {own : List Nat} (h : ownFree ρ own = true) : ∀ j ∈ own, ∀ s, ρ[j]? = some s → s = .un ∨ ∃ d, s = .sh d := fun j hj s hs => by
  have := List.all_eq_true.mp h j hj
  rw [hs] at this
  cases s with
  | un => exact .inl rfl
  | sh d => exact .inr ⟨d, rfl⟩
  | own d => cases this
  | lent d => cases this
/-- what tLc asks is had from the run -/
theorem use_comp {own : List Nat} {k : Nat} {src : List E} {t : Tg} {cond : Option E} {ie : E} {σ : L2.St} {H : Hp} {Q : VK} (htg : tgIn t own = true) (q : tX N X.K W (RE N X.K) (run (.comp own k src t cond ie)) σ H Q) :
    tLc (tI N X.K W k src) (tG N X.K t) (tX N X.K (fun cls d _ H' => W cls d σ H') (fun _ => RB) (condS cond)) (tX N X.K (fun cls d _ H' => W cls d σ H') (fun _ => RD N X.K) fun ρ st => (run ie ρ st).bind fun ρ st p => .ok ρ st p.2) own σ H Q := by
  obtain ⟨Ω, ρ, st, S, q⟩ := q
  refine ⟨Ω, ρ, st, S, ?_⟩
  rw [run_comp] at q
  cases h1 : runO src ρ st with
  | stuck => rw [h1] at q; exact q.elim
  | exc e1 ρ1 st1 => rw [h1] at q; exact q
  | ok ρ1 st1 os =>
    rw [h1] at q
    change Post N X.K W (RE N X.K σ) Ω ρ σ H Q (match rezs ρ1 [] os with
    | some ds => match items k ds with
      | some its => if ownFree ρ1 own then (blkS own t cond ie its [] (wipeS (PD.lend (lends ρ1 os) ρ1) own) st1).bindX (fun ρ' => PD.unlend (lends ρ1 os) (backS ρ1 ρ' own)) fun ρ' st' acc => .ok ρ' st' (true, .lst acc) else .stuck
      | none => .stuck
    | none => .stuck) at q
    cases h2 : rezs ρ1 [] os with
    | none => rw [h2] at q; exact q.elim
    | some ds =>
      rw [h2] at q
      change Post N X.K W (RE N X.K σ) Ω ρ σ H Q (match items k ds with
      | some its => if ownFree ρ1 own then (blkS own t cond ie its [] (wipeS (PD.lend (lends ρ1 os) ρ1) own) st1).bindX (fun ρ' => PD.unlend (lends ρ1 os) (backS ρ1 ρ' own)) fun ρ' st' acc => .ok ρ' st' (true, .lst acc) else .stuck
      | none => .stuck) at q
      cases h3 : items k ds with
      | none => rw [h3] at q; exact q.elim
      | some its =>
        rw [h3] at q
        change Post N X.K W (RE N X.K σ) Ω ρ σ H Q (if ownFree ρ1 own then (blkS own t cond ie its [] (wipeS (PD.lend (lends ρ1 os) ρ1) own) st1).bindX (fun ρ' => PD.unlend (lends ρ1 os) (backS ρ1 ρ' own)) fun ρ' st' acc => .ok ρ' st' (true, .lst acc) else .stuck) at q
        cases hof : ownFree ρ1 own with
        | false => rw [hof] at q; exact q.elim
        | true =>
          rw [hof] at q
          refine ⟨ds, its, h2, h3, fun Ω1 H1 J S1 t1 src hlen D nD => ?_⟩
          have hL := lends_own ρ1 os
          have hfree := ownFree_at hof
          generalize lends ρ1 os = L at q src hL
          have q : Post N X.K W (RE N X.K σ) Ω ρ σ H Q ((blkS own t cond ie its [] (wipeS (PD.lend L ρ1) own) st1).bindX (fun ρ' => PD.unlend L (backS ρ1 ρ' own)) fun ρ' st' acc => .ok ρ' st' (true, .lst acc)) := q
          have SL := S1.lend L
          have hv : ∀ j ∈ own, ∀ s, (PD.lend L ρ1)[j]? = some s → s = .un ∨ ∃ d, s = .sh d := fun j hj s hs => by
            rw [lend_get] at hs
            obtain ⟨s', e', q'⟩ := Option.map_eq_some_iff.mp hs
            rcases hfree j hj s' e' with z | ⟨d, z⟩
            · subst z; exact .inl (by split at q' <;> exact q'.symm)
            · subst z; exact .inr ⟨d, by split at q' <;> exact q'.symm⟩
          have eqB : ∀ ρe : List Slot, PD.unlend L (backS (PD.lend L ρ1) ρe own) = PD.unlend L (backS ρ1 ρe own) := fun ρe => by
            refine List.ext_getElem? fun j => ?_
            rw [unlend_get, unlend_get, backS_get, backS_get, Option.map_map, Option.map_map]
            congr 1; funext s
            by_cases hj : j ∈ own
            · simp only [Function.comp, if_pos hj]
              rw [List.getD_eq_getElem?_getD, List.getD_eq_getElem?_getD, lend_get]
              cases z : ρ1[j]? with
              | none => rfl
              | some s1 =>
                rcases hfree j hj s1 z with y | ⟨d, y⟩ <;> subst y <;> simp [toLent]
            · simp only [Function.comp, if_neg hj]
          obtain ⟨Sw, tw⟩ := SL.wipe own
          -- behind the block, wherever it ends
          have leave : ∀ {Ω' : Wd} {ρ' : List Slot} {st' : List PD.D} {σ' : L2.St} {H' : Hp}, L2.wipe σ' own = L2.wipe σ own → StR N X.K Ω' ρ' st' σ' H' → Step Ω1 (wipeS (PD.lend L ρ1) own) (L2.wipe σ own) H1 Ω' ρ' σ' H' →
              StR N X.K Ω' (PD.unlend L (backS ρ1 ρ' own)) st' σ H' ∧ Step Ω ρ σ H Ω' (PD.unlend L (backS ρ1 ρ' own)) σ H' ∧ ∀ p, HeldA Ω'.φ (PD.unlend L (backS ρ1 ρ' own)) σ p → HeldA Ω'.φ ρ' σ' p := fun {Ω' ρ' st' σ' H'} hw S' t' => by
            obtain ⟨Sb, tb, hb⟩ := SL.back hv hw S' t'
            have Sb' := Sb.unlend L
            have tb' := t1.trans (step_unlend hL tb)
            rw [eqB] at Sb' tb'
            exact ⟨Sb', tb', fun p hp => hb p (by rw [← eqB] at hp; exact held_unlend hp)⟩
          let P : Nat → Hp → Prop := fun i H' => ∃ Ωc ρc stc acc xs, StR N X.K Ωc ρc stc (L2.wipe σ own) H' ∧ Step Ω1 (wipeS (PD.lend L ρ1) own) (L2.wipe σ own) H1 Ωc ρc (L2.wipe σ own) H' ∧ FreeA Ωc ρc (L2.wipe σ own) D ∧ H' D = some (.lst xs) ∧ Reps N X.K Ωc.φ Ωc.F acc xs ∧ acc.length ≤ i ∧
            Post N X.K W (RE N X.K σ) Ω ρ σ H Q ((blkS own t cond ie (its.drop i) acc ρc stc).bindX (fun ρ' => PD.unlend L (backS ρ1 ρ' own)) fun ρ' st' acc => .ok ρ' st' (true, .lst acc))
          refine ⟨fun i m H' => m = its.length - i ∧ i ≤ its.length ∧ P i H', ⟨its.length, by simp, Nat.zero_le _, Ω1, _, st1, [], [], Sw.upd (Sw.free nD), (Step.refl _ _ _ _).updN nD, Sw.free nD, upd_same, .nil, Nat.le_refl _, q⟩, ?_⟩
          rintro i m H2 ⟨rfl, hi, Ω2, ρ2, st2, acc, xs, S2, t2, f2, e2, r2, hacc, q2⟩
          obtain ⟨sstop, sgo⟩ := src Ω2 ρ2 st2 (L2.wipe σ own) H2 S2 (tw.trans t2) i
          by_cases hlt : i < its.length
          · refine .inr ?_
            obtain ⟨go, yl⟩ := sgo its[i] (List.getElem?_eq_getElem hlt)
            refine ⟨go, P (i + 1), fun H' p => ⟨its.length - (i + 1), by omega, rfl, hlt, p⟩, fun x H3 hy => ?_⟩
            obtain ⟨F', or⟩ := yl x H3 hy
            obtain ⟨S3, t3, r3⟩ := S2.opres or
            have r3' : Rep N X.K Ω2.φ F' its[i] x := by
              rcases r3 with ⟨_, r⟩ | ⟨z, _⟩
              · exact r
              · cases z
            obtain ⟨f3, e3⟩ := f2.step e2 t3
            rw [List.drop_eq_getElem_cons hlt] at q2
            change Post N X.K W (RE N X.K σ) Ω ρ σ H Q ((match setT t its[i] ρ2 with
              | none => .stuck
              | some ρ1 => (condS cond ρ1 st2).bind fun ρ2 st2 b => if b then (frz (run ie ρ2 st2)).bind fun ρ3 st3 y => blkS own t cond ie (its.drop (i + 1)) (acc ++ [y]) (wipeS ρ3 own) st3 else blkS own t cond ie (its.drop (i + 1)) acc (wipeS ρ2 own) st2 : Out (List PD.D)).bindX (fun ρ' => PD.unlend L (backS ρ1 ρ' own)) fun ρ' st' acc => .ok ρ' st' (true, .lst acc)) at q2
            cases h4 : setT t its[i] ρ2 with
            | none => rw [h4] at q2; exact q2.elim
            | some ρ3 =>
              rw [h4] at q2
              change Post N X.K W (RE N X.K σ) Ω ρ σ H Q (((condS cond ρ3 st2).bind fun ρ2 st2 b => if b then (frz (run ie ρ2 st2)).bind fun ρ3 st3 y => blkS own t cond ie (its.drop (i + 1)) (acc ++ [y]) (wipeS ρ3 own) st3 else blkS own t cond ie (its.drop (i + 1)) acc (wipeS ρ2 own) st2 : Out (List PD.D)).bindX (fun ρ' => PD.unlend L (backS ρ1 ρ' own)) fun ρ' st' acc => .ok ρ' st' (true, .lst acc)) at q2
              refine ⟨⟨F', Ω2.φ⟩, ρ2, st2, its[i], ρ3, S3, r3', h4, fun σ4 S4 t4 hw => ?_⟩
              have hw4 : L2.wipe σ4 own = L2.wipe σ own := (hw own htg).trans (wipe_idem σ own)
              refine ⟨hw4, ⟨F', Ω2.φ⟩, ρ3, st2, S4, ?_⟩
              obtain ⟨f4, e4⟩ := f3.step e3 t4
              have T := (t2.trans t3).trans t4
              have R4 : Reps N X.K Ω2.φ F' acc xs := Reps.step (Ω := Ω2) (Ω1 := ⟨F', Ω2.φ⟩) r2 t3
              -- the next turn
              have again : ∀ {Ω' : Wd} {ρ' : List Slot} {st' : List PD.D} {H' : Hp} {acc' : List PD.D} {xs' : List V}, StR N X.K Ω' ρ' st' σ4 H' → Step Ω1 (wipeS (PD.lend L ρ1) own) (L2.wipe σ own) H1 Ω' ρ' σ4 H' → FreeA Ω' ρ' σ4 D → H' D = some (.lst xs') → Reps N X.K Ω'.φ Ω'.F acc' xs' → acc'.length ≤ i + 1 →
                  Post N X.K W (RE N X.K σ) Ω ρ σ H Q ((blkS own t cond ie (its.drop (i + 1)) acc' (wipeS ρ' own) st').bindX (fun ρ' => PD.unlend L (backS ρ1 ρ' own)) fun ρ' st' acc => .ok ρ' st' (true, .lst acc)) → P (i + 1) H' := fun {Ω' ρ' st' H' acc' xs'} S' t' f' e' r' l' q' => by
                obtain ⟨S5, t5⟩ := S'.wipe own
                rw [hw4] at S5 t5
                obtain ⟨f5, e5⟩ := f'.step e' t5
                exact ⟨Ω', _, st', acc', xs', S5, t'.trans t5, f5, e5, r', l', q'⟩
              cases h5 : condS cond ρ3 st2 with
              | stuck => rw [h5] at q2; exact q2.elim
              | exc e5 ρ5 st5 =>
                rw [h5] at q2
                intro Ω' H' S' t'
                obtain ⟨a1, a2, _⟩ := leave hw4 S' (T.trans t')
                exact q2 Ω' H' a1 a2
              | ok ρ5 st5 b =>
                rw [h5] at q2
                intro Ω5 H5 b' S5 t5 eb
                have eb' : b = b' := eb
                subst eb'
                obtain ⟨f5, e5⟩ := f4.step e4 t5
                have R5 : Reps N X.K Ω5.φ Ω5.F acc xs := Reps.step (σ' := σ4) (Ω := ⟨F', Ω2.φ⟩) R4 t5
                cases b with
                | false => exact again S5 (T.trans t5) f5 e5 R5 (by omega) q2
                | true =>
                  have q3 : Post N X.K W (RE N X.K σ) Ω ρ σ H Q (((frz (run ie ρ5 st5)).bind fun ρ3 st3 y => blkS own t cond ie (its.drop (i + 1)) (acc ++ [y]) (wipeS ρ3 own) st3 : Out (List PD.D)).bindX (fun ρ' => PD.unlend L (backS ρ1 ρ' own)) fun ρ' st' acc => .ok ρ' st' (true, .lst acc)) := q2
                  refine ⟨Ω5, ρ5, st5, S5, ?_⟩
                  show Post N X.K _ (RD N X.K) Ω5 ρ5 σ4 H5 _ (frz (run ie ρ5 st5))
                  cases h6 : frz (run ie ρ5 st5) with
                  | stuck => rw [h6] at q3; exact q3.elim
                  | exc e6 ρ6 st6 =>
                    rw [h6] at q3
                    intro Ω' H' S' t'
                    obtain ⟨a1, a2, _⟩ := leave hw4 S' ((T.trans t5).trans t')
                    exact q3 Ω' H' a1 a2
                  | ok ρ6 st6 d6 =>
                    rw [h6] at q3
                    intro Ω6 H6 y S6 t6 r6
                    obtain ⟨f6, e6⟩ := f5.step e5 t6
                    have R6 : Reps N X.K Ω6.φ Ω6.F acc xs := Reps.step R5 t6
                    have hl : xs.length < sizeLine := by rw [← R6.length]; omega
                    refine ⟨xs, e6, hl, again (S6.upd f6) (((T.trans t5).trans t6).updN nD) f6 upd_same (R6.append (.cons r6 .nil)) (by rw [List.length_append]; simp; omega) q3⟩
          · have e : i = its.length := by omega
            subst e
            rw [List.drop_length] at q2
            refine .inl ⟨sstop (Nat.le_refl _), ?_⟩
            have q2 : Post N X.K W (RE N X.K σ) Ω ρ σ H Q (.ok (PD.unlend L (backS ρ1 ρ2 own)) st2 (true, .lst acc)) := q2
            obtain ⟨a1, a2, a3⟩ := leave (wipe_idem σ own) S2 t2
            exact q2 Ω2 H2 (.ref D) a1 a2 (.inr ⟨rfl, rfl, D, rfl, t1.dom D nD, f2.1, fun z => f2.2 (a3 D z), xs, e2, by rw [← r2.length]; omega, r2⟩)
end
end PD

set_option Elab.async false
set_option linter.all false
set_option maxRecDepth 100000
/-! PD21: list comprehensions, as a value and stored. -/
namespace PD
open PySem PySem.Spec L2
section
variable {N : Nm} {W : WX} {X : Cx} {elt tg iter : Expr} {ifs : List Expr} {scope : Scope} {own : List (Str × Nat)} {pos spos py : Pos} {k : Nat} {src : List E} {t : Tg} {cond : Option E} {ie : E}
theorem xr_comp (hstk : X.stack = X.env :: X.outer) (hfrm : X.env.frame = some X.env.locals) (tk : Takes X W) (hc : X.calm = true) (hN : X.N.Nodup) (hi : XI N W X tg iter k src) (ok : BlkOk X.N X.env.scope scope own) (htg : tgIn t (own.map (·.2)) = true)
    (hg : ∀ (s : Shared) (H : Hp) (C : Addr) (cl : List (Str × Addr)) (fp : List Addr) (xe : Value → Shared → Prop), XG N (blkX X s H scope (compEnvC scope cl C X.env) fp xe) tg t)
    (ht : ∀ (W' : WX) (s : Shared) (H : Hp) (C : Addr) (cl : List (Str × Addr)) (fp : List Addr) (xe : Value → Shared → Prop), Tk (blkX X s H scope (compEnvC scope cl C X.env) fp xe) W' → PTs (blkX X s H scope (compEnvC scope cl C X.env) fp xe) ifs (tX N X.K W' (fun _ => RB) (condS cond)))
    (he : ∀ (W' : WX) (s : Shared) (H : Hp) (C : Addr) (cl : List (Str × Addr)) (fp : List Addr) (xe : Value → Shared → Prop), Tk (blkX X s H scope (compEnvC scope cl C X.env) fp xe) W' → XR N W' (blkX X s H scope (compEnvC scope cl C X.env) fp xe) elt ie)
    (hs : ∀ x, foldedSetIterable iter X.env x = pure x) : XR N W X (.ListComp elt [⟨tg, iter, ifs, 0⟩] scope pos) (.comp (own.map (·.2)) k src t cond ie) := by
  refine .nv ⟨fun pins s σ H Q I h => ?_⟩
  rw [eval_ListComp]
  refine lc_coreX (use := none) (tt := fun W' => tX N X.K W' (fun _ => RB) (condS cond)) (te := fun W' => tX N X.K W' (fun _ => RD N X.K) fun ρ st => (run ie ρ st).bind fun ρ st p => .ok ρ st p.2) hstk hfrm tk hc hN I hi ok hg ht (fun W' s H C cl fp xe b => (he W' s H C cl fp xe b).xd) hs (use_comp htg h) fun D C s' m H' I' q hn f => ⟨m, hn, fun h'' sb => ?_⟩
  obtain ⟨f0, f1, f2, f3, f4, f5⟩ := f
  exact ⟨.ref D, H', I'.turned (t' := s'.toks) (fun b o hb e => (sb.2 b hb).trans e) f0 f1 f3 f4 f5, rfl, q⟩
theorem xs_setComp {i : Nat} {y : Str} (hstk : X.stack = X.env :: X.outer) (hfrm : X.env.frame = some X.env.locals) (tk : Takes X W) (hc : X.calm = true) (hN : X.N.Nodup) (hy : X.N[i]? = some y) (hyl : X.env.scope.names.lookup y = some .local)
    (hsw : swapsWith (.ListComp elt [⟨tg, iter, ifs, 0⟩] scope pos) (some (.Name y py)) spos.line X.env = pure true) (hi : XI N W X tg iter k src) (ok : BlkOk X.N X.env.scope scope own) (htg : tgIn t (own.map (·.2)) = true)
    (hg : ∀ (s : Shared) (H : Hp) (C : Addr) (cl : List (Str × Addr)) (fp : List Addr) (xe : Value → Shared → Prop), XG N (blkX X s H scope (compEnvC scope cl C X.env) fp xe) tg t)
    (ht : ∀ (W' : WX) (s : Shared) (H : Hp) (C : Addr) (cl : List (Str × Addr)) (fp : List Addr) (xe : Value → Shared → Prop), Tk (blkX X s H scope (compEnvC scope cl C X.env) fp xe) W' → PTs (blkX X s H scope (compEnvC scope cl C X.env) fp xe) ifs (tX N X.K W' (fun _ => RB) (condS cond)))
    (he : ∀ (W' : WX) (s : Shared) (H : Hp) (C : Addr) (cl : List (Str × Addr)) (fp : List Addr) (xe : Value → Shared → Prop), Tk (blkX X s H scope (compEnvC scope cl C X.env) fp xe) W' → XR N W' (blkX X s H scope (compEnvC scope cl C X.env) fp xe) elt ie)
    (hs : ∀ x, foldedSetIterable iter X.env x = pure x) : XS N W X (.Assign [.Name y py] (.ListComp elt [⟨tg, iter, ifs, 0⟩] scope pos) spos) (.set i (.comp (own.map (·.2)) k src t cond ie)) := by
  refine ⟨fun pins s σ H D I h => ?_⟩
  rw [exec_Assign_Name_used _ _ _ _ hsw]
  refine wpAny_bind (wpAny_standAt (wpAny_bind ?_))
  have h : tX N X.K W (RE N X.K) (run (.comp (own.map (·.2)) k src t cond ie)) σ H (fun x H1 => gName i x σ H1 D.nx) := by
    obtain ⟨Ω, ρ, st, S, q⟩ := h
    refine ⟨Ω, ρ, st, S, ?_⟩
    have q : PostS N X.K W Ω ρ σ H D ((run (.comp (own.map (·.2)) k src t cond ie) ρ st).bind fun ρ st p => if i < ρ.length then .ok (ρ.set i (if p.1 then .own p.2 else .sh p.2)) st .next else .stuck) := q
    refine PostS.bind q fun ρ1 st1 a Ω1 H1 b _ S1 t1 r1 q1 => ?_
    split at q1
    · rename_i hl
      obtain ⟨S2, t2⟩ := S1.put r1 hl
      exact q1.next S2 (t2 t1)
    · exact q1.elim
  refine wpAny_bind (thn (lc_coreX (Qf := fun _ s' => SP X pins D .next s') (use := some (assign (.Name y py) X.env)) (tt := fun W' => tX N X.K W' (fun _ => RB) (condS cond)) (te := fun W' => tX N X.K W' (fun _ => RD N X.K) fun ρ st => (run ie ρ st).bind fun ρ st p => .ok ρ st p.2) hstk hfrm tk hc hN I hi ok hg ht (fun W' s H C cl fp xe b => (he W' s H C cl fp xe b).xd) hs (use_comp htg h) fun L C s' m H' I' q hn f => ?_) fun _ s' hq => wpAny_pure (wpAny_pure hq))
  show wpAny _ _ (assign (.Name y py) X.env (.ref L)) _ _ _
  refine wpAny_assign_Name (store_ok2 (v := V.ref L) I' hN hy (.inl hyl) rfl (fun s2 I2 ⟨a, sb, ha⟩ => ?_) (.inr hyl))
  obtain ⟨g0, g1, g2, g3, g4, g5⟩ := f
  have ne : C ≠ a := by
    rcases ha with z | z
    · exact fun e => g1 (e.trans z)
    · exact fun e => g4 y a z e.symm
  exact ⟨m, hn.sameBut sb ne, fun h3 sb3 => ⟨_, H', I2.turned (t' := s2.toks) (fun b o hb e => (sb3.2 b hb).trans e) g0 g1 g3 g4 g5, q⟩⟩
end
end PD

set_option Elab.async false
set_option linter.all false
set_option maxRecDepth 100000
/-! PD22: try .. except X as n, the exception kept as a value. -/
namespace PD
open PySem PySem.Spec PyProof.Rows L2
section
variable {X : Cx} {pins : List (Addr × Obj)} {σ : L2.St} {H : Hp} {s : Shared}
theorem inv_track {C a : Addr} {oe : Obj} {vs : Array Value} (I : Inv X pins σ H s) (he : s.heap.get? a = some oe) (hz : Zc (.ref C) none oe) (hd : oe.data = .fields vs) (na : H a = none) (new : X.s_0.heap.get? a = none) (hp : ∀ p ∈ X.pn ++ pins, p.1 ≠ a) : Inv X pins σ (upd H a (exO C a)) s := by
  have up : ∀ {b : Addr} {o : HO}, H b = some o → upd H a (exO C a) b = some o := fun {b o} e => by rw [upd_ne (ne_of_none e na)]; exact e
  refine ⟨I.ok, I.os, I.bare, ⟨I.base.keep, I.base.slot, fun b o q n hx => ?_, I.base.there, fun b xs q => up (I.base.tups b xs q), fun b o u q => up (I.base.frzs b o u q), fun b ps q => let ⟨m, e⟩ := I.base.tbls b ps q; ⟨m, up e⟩⟩, I.loc, I.cell, ?_, fun x c e => ?_, fun p h => ?_, ?_, I.len⟩
  · rw [upd_ne (fun z => by rw [z, new] at q; cases q)]
    exact I.base.free b o q n hx
  · rw [upd_ne (fun z => ?_)]
    · exact I.free
    · obtain ⟨m, ⟨o', es, ep, ho', hd', _⟩, _⟩ := I.loc
      rw [z, he] at ho'; cases ho'; rw [hd] at hd'; cases hd'
  · rw [upd_ne (fun z => ?_)]
    · exact I.freeC x c e
    · obtain ⟨v, o', ho', hd'⟩ := I.cell x c e
      rw [z, he] at ho'; cases ho'; rw [hd] at hd'; cases hd'
  · obtain ⟨p1, p2, p3, p4, p5⟩ := I.pin p h
    exact ⟨p1, by rw [upd_ne (hp p h)]; exact p2, p3, p4, p5⟩
  · refine I.hok.laidN (fun _ _ z => z) na ?_
    exact ⟨⟨oe, vs, he, hz, hd⟩, ⟨oe, he⟩, fun _ _ ⟨o, v, q, r⟩ k => ⟨o, v, k o q, r⟩⟩
theorem inv_suite {a : Addr} (I : Inv X pins σ H s) : Inv (X.suite a (X.pn ++ pins)) [] σ H s :=
  ⟨I.ok.suite _ _, I.os, I.bare, I.base, I.loc, I.cell, I.free, I.freeC, fun p hp => I.pin p (by rw [List.append_nil] at hp; exact hp), I.hok, I.len⟩
theorem inv_unsuite {a : Addr} (I : Inv (X.suite a (X.pn ++ pins)) [] σ H s) (ok : X.Ok) : Inv X pins σ H s :=
  ⟨ok, I.os, I.bare, I.base, I.loc, I.cell, I.free, I.freeC, fun p hp => I.pin p (List.mem_append_left _ hp), I.hok, I.len⟩
end
/-- what the clause wishes of the body's exceptions; within the suite slot i holds the exception -/
def wKept (K : PySem.W.Frag) (c : Value) (i : Nat) (ts : TS) (Wout : WX) (D : Ends) : WX := fun cls d σ H => ∃ C b, cls = .ref C ∧ d = none ∧ PySem.W.exmOne K cls c = some b ∧
  (b = true → ∀ a, H a = none → ts { nx := fun σ' H' => D.nx (σ'.set i none) H', rt := D.rt, bk := fun σ' H' => D.bk (σ'.set i none) H', ct := fun σ' H' => D.ct (σ'.set i none) H' } (σ.set i (some (.ref a))) (upd H a (exO C a))) ∧ (b = false → Wout cls d σ H)
section
variable {X : Cx} {x n : Str} {c : Value} {i : Nat} {body suite : List Stmt} {b₀ : Stmt} {np pos pos' : Pos} {tb : WX → TS} {ts : TS} {Wout : WX}
theorem ps_try_kept (hs : X.stack = X.env :: X.outer) (hf : X.env.frame = some X.env.locals) (hex : X.ex = []) (hN : X.N.Nodup) (hi : X.N[i]? = some n) (hln : X.env.kindOf n = some .local) (hc : Names X x c) (tk : Takes X Wout)
    (hb : ∀ (W : WX) (pn : List (Addr × Obj)) (xe : Value → Shared → Prop), Takes (X.tr pn xe) W → PassesOwn (model X.prog X.w) X.A X.env xe → PSs (X.tr pn xe) body (tb W)) (hsu : ∀ (a : Addr) (pn : List (Addr × Obj)), PSs (X.suite a pn) (b₀ :: suite) ts) :
    PS X (.Try body [.ExceptHandler (some (.Name x np)) (some n) (b₀ :: suite) pos'] [] [] pos) (fun D σ H => tb (wKept X.K c i ts Wout D) D σ H) := by
  refine ⟨fun pins s σ H D I h => ?_⟩
  have ok := I.ok
  have hfr : X.A.frames = some (X.env :: X.outer) := by rw [ok.frames, hs]
  have hloc : Loc X.env.scope n := .inl hln
  let after : Value → Shared → Prop := fun e s₁ => wpAny (model X.prog X.w) X.A (noteFrame e X.env) (fun _ s₂ => wpAny (model X.prog X.w) X.A (setFlight e none) (fun _ s₃ =>
    wpAny (model X.prog X.w) X.A (handleBy e X.env [.ExceptHandler (some (.Name x np)) (some n) (b₀ :: suite) pos']) (SP X pins D) X.xe s₃) X.xe s₂) X.xe s₁
  refine wpAny_Try_except ?_
  refine wpAny_mono ((hb (wKept X.K c i ts Wout D) (X.pn ++ pins) after (fun u s' xx => ?_) PassesOwn.looking).run [] s σ H D (I.toTry _) h) (fun f s1 hsp => ?_) (fun e s1 he => he)
  · obtain ⟨a, B, sI, pins', σ', H', cls, d, rfl, J', nb, up, sky, na, os, ag, C, b, rfl, rfl, hb1, hyes, hno⟩ := xx
    have J : Inv X pins σ' H' sI := J'.ofTry ok
    have sky' : Sky B (X.env :: X.outer) a (Zc (.ref C) none) X.env.locals s'.heap := by rw [← hs]; exact sky
    show wpAny (model X.prog X.w) X.A (noteFrame (.ref a) X.env) _ _ _
    refine Sky.land Zc.steady hfr hf sky' fun h3 fl3 up3 => ?_
    have J3 : Inv X pins σ' H' { s' with heap := h3 } := J.landed nb fl3.1 (up.trans up3) os ag
    obtain ⟨oe3, vs3, he3, hz3, hd3⟩ := fl3.there
    have nfr : a ∉ frs X.stack := fun hm => by
      rw [hs] at hm
      obtain ⟨_, o', e', hnf⟩ := fl3.2.2.1.mem hm
      rw [he3] at e'; cases e'
      exact hnf _ hd3
    have nI : sI.heap.get? a = none := by
      cases q : sI.heap.get? a with
      | none => rfl
      | some o =>
        have z := nb a o q nfr
        rw [fl3.2.1] at z; cases z
    have new0 : X.s_0.heap.get? a = none := by
      cases q : X.s_0.heap.get? a with
      | none => rfl
      | some o =>
        obtain ⟨o', z⟩ := J.base.there a o q (by rw [hex]; simp)
        rw [nI] at z; cases z
    have npin : ∀ p ∈ X.pn ++ pins, p.1 ≠ a := fun p hp z => by
      have := (J.pin p hp).1
      rw [z, nI] at this; cases this
    have S3 := inv_suite (a := a) J3
    refine wpAny_handleBy_cons (codeAny_handlers_test ?_) (by intro q; cases q)
    have LT : PySem.W.Looks (model X.prog X.w) h3 (typeOf (.ref a)) (.ref C) := fun A Q E s k q => wpAny_typeOf_ref (k _ _ he3) (by rw [hz3.1]; exact q)
    have LM := PySem.W.exm_one (M := model X.prog X.w) (J3.kIn) LT hb1
    have test : ∀ {Q : Value → Shared → Prop} {E : Value → Shared → Prop}, Q c { s' with heap := h3 } → wpAny (model X.prog X.w) (X.A.mark (some (.ref a))) (eval (.Name x np) X.env) Q E { s' with heap := h3 } := fun {Q E} q => by
      obtain ⟨hg, hdbg, hm | ⟨hm, hv, hnn⟩⟩ := hc
      · exact ld_glob (X := X.suite a (X.pn ++ pins)) S3 hg hm q hdbg
      · exact ld_blt (X := X.suite a (X.pn ++ pins)) S3 hg hm hv q hnn hdbg
    refine test (LM.here ?_)
    cases b with
    | true =>
      refine codeAny_handlers_suite_as ?_
      refine HandSPX.lands_againZ fl3 fun h4 fl4 up4 => ?_
      have J4 : Inv X pins σ' H' { s' with heap := h4 } := J.landed nb fl4.1 ((up.trans up3).trans up4) os ag
      obtain ⟨oe4, vs4, he4, hz4, hd4⟩ := fl4.there
      have S4 := inv_suite (a := a) (inv_track J4 he4 hz4 hd4 na new0 npin)
      refine store_ok (X := X.suite a (X.pn ++ pins)) (v := .ref a) S4 hN hi hloc rfl (fun s5 S5 => ?_) (.inr hln)
      refine wpAny_mono ((hsu a (X.pn ++ pins)).run [] s5 _ _ _ S5 (hyes rfl a na)) (fun f s6 hsp => ?_) (fun _ _ z => False.elim z)
      have fin : ∀ {σ6 : L2.St} {H6 : Hp} {Q : Shared → Prop}, Inv (X.suite a (X.pn ++ pins)) [] σ6 H6 s6 → (∀ s7, Inv X pins (σ6.set i none) H6 s7 → Q s7) →
          wpAny (model X.prog X.w) X.A (do bindName X.env n .none; unbindBehindTheSuite X.env n pos') (fun _ s7 => Q s7) X.xe s6 := fun {σ6 H6 Q} S6 hq => gone_ok (inv_unsuite S6 ok) hN hi hln hq
      cases f with
      | next => obtain ⟨σ6, H6, S6, q6⟩ := hsp; exact fin S6 fun s7 J7 => ⟨_, _, J7, q6⟩
      | brk => obtain ⟨σ6, H6, S6, q6⟩ := hsp; exact fin S6 fun s7 J7 => ⟨_, _, J7, q6⟩
      | cont => obtain ⟨σ6, H6, S6, q6⟩ := hsp; exact fin S6 fun s7 J7 => ⟨_, _, J7, q6⟩
      | ret u => obtain ⟨v6, σ6, H6, S6, r6, q6⟩ := hsp; exact fin S6 fun s7 J7 => ⟨_, _, _, J7, r6, q6⟩
    | false =>
      show wpAny _ X.A (handleBy (.ref a) X.env []) _ _ _
      refine wpAny_handleBy_nil ?_
      obtain ⟨k1, k2, k3, oe, vs, T, oT, tz, he, hz, hd, h1, hr⟩ := id fl3
      unfold PySem.passOn
      refine wpAny_bind (wpAny_field he hd h1 ?_)
      rw [if_neg (show ¬ ((Value.ref T == Value.none) = true) from by simp)]
      have fin : wpAny (model X.prog X.w) X.A (setFlight (.ref a) X.env.frame) (fun _ s4 => wpAny (model X.prog X.w) X.A (throw (.ref a) : Sem Flow) (SP X pins D) X.xe s4) X.xe { s' with heap := h3 } := by
        rw [hf]
        refine HandSPX.setFlight_upZ fl3 fun h4 hh4 up4 => wpAny_throw (tk _ _ ?_)
        refine ⟨a, B, sI, pins, σ', H', .ref C, none, rfl, J, nb, ?_, ?_, na, os, ag, hno rfl⟩
        · exact (up.trans up3).trans up4
        · exact .inr (.inr (by rw [hs]; exact hh4))
      first
        | exact wpAny_bind (wpAny_pure (wpAny_bind fin))
        | exact wpAny_bind fin
  · cases f with
    | next => obtain ⟨σ', H', J', q⟩ := hsp; exact wpAny_execs_nil ⟨σ', H', J'.ofTry ok, q⟩
    | brk => obtain ⟨σ', H', J', q⟩ := hsp; exact ⟨σ', H', J'.ofTry ok, q⟩
    | cont => obtain ⟨σ', H', J', q⟩ := hsp; exact ⟨σ', H', J'.ofTry ok, q⟩
    | ret u => obtain ⟨v, σ', H', J', r, q⟩ := hsp; exact ⟨v, σ', H', J'.ofTry ok, r, q⟩
end
section
variable {N : Nm} {K : PySem.W.Frag} {Ω : Wd} {ρ : List Slot} {st : List D} {σ : L2.St} {H : Hp}
/-- a new frozen object -/
theorem StR.laidF {a : Addr} {o : HO} (S : StR N K Ω ρ st σ H) (na : H a = none) : StR N K ⟨L2.upd Ω.F a o, Ω.φ⟩ ρ st σ (L2.upd H a o) ∧ Step Ω ρ σ H ⟨L2.upd Ω.F a o, Ω.φ⟩ ρ σ (L2.upd H a o) := by
  have nF : Ω.F a = none := by
    cases e : Ω.F a with
    | none => rfl
    | some u => rw [S.sub _ _ e] at na; cases na
  have le : Le H (L2.upd H a o) := le_upd na
  have ff : Le Ω.F (L2.upd Ω.F a o) := le_upd nF
  have hq : ∀ {q : Addr}, HeldA Ω.φ ρ σ q → L2.upd Ω.F a o q = none := fun {q} h => by
    obtain ⟨h1, o', h2⟩ := S.heldF h
    rw [upd_ne (ne_of_none h2 na)]; exact h1
  refine ⟨⟨S.len, fun b u e => ?_, fun i s h => ?_, S.dist, S.stl, fun n p c h1 h2 => (S.sto n p c h1 h2).le ff (Ph.refl _) (fun o' e => le _ _ e), fun p h => hq (.inl h), S.nd⟩, ⟨ff, Ph.refl _, fun b h => ?_, fun p h => .inl h, fun b o' h _ => le b o' h, fun b h => ?_, fun _ _ h => ⟨h, rfl⟩⟩⟩
  · have e : L2.upd Ω.F a o b = some u := e
    by_cases z : b = a
    · subst z; rw [upd_same] at e ⊢; exact e
    · rw [upd_ne z] at e ⊢; exact S.sub _ _ e
  · have q := S.slot i s h
    cases s with
    | un => trivial
    | sh d => obtain ⟨x, e, q⟩ := q; exact ⟨x, e, q.le ff (Ph.refl _)⟩
    | own d =>
      obtain ⟨k, p, e, q, f, g⟩ := q
      exact ⟨k, p, e, q.le ff (Ph.refl _) (fun o' z => le _ _ z), hq (.inr ⟨i, _, h, rfl, e⟩), g⟩
    | lent d =>
      obtain ⟨k, p, e, q, f, g⟩ := q
      exact ⟨k, p, e, q.le ff (Ph.refl _) (fun o' z => le _ _ z), hq (.inr ⟨i, _, h, rfl, e⟩), g⟩
  · by_cases z : b = a
    · subst z; exact .inr (.inl na)
    · have h' : L2.upd Ω.F a o b ≠ none := h
      rw [upd_ne z] at h'; exact .inl h'
  · cases e : H b with
    | none => rfl
    | some u => rw [le _ _ e] at h; cases h
/-- a slot without a value -/
theorem StR.unset {i : Nat} (S : StR N K Ω ρ st σ H) : StR N K Ω (ρ.set i .un) st (σ.set i none) H ∧ Step Ω ρ σ H Ω (ρ.set i .un) (σ.set i none) H := by
  have : ρ.set i .un = wipeS ρ [i] := rfl
  have e2 : σ.set i none = L2.wipe σ [i] := rfl
  rw [this, e2]
  exact S.wipe [i]
end
/-- a class that an except clause of ours may name, told of all our classes -/
structure CatK (N : Nm) (X : Cx) (x : Str) (e : Ex) : Prop where
  nm : Names X x (.ref (N.ex e))
  is : ∀ c : Ex, PySem.W.exmOne X.K (.ref (N.ex c)) (.ref (N.ex e)) = some (exUnder c e)
section
variable {N : Nm} {W : WX} {X : Cx} {x n : Str} {i : Nat} {body suite : List Stmt} {b₀ : Stmt} {np pos pos' : Pos} {ib isu : List S} {ex : Ex}
theorem xs_try (hs : X.stack = X.env :: X.outer) (hf : X.env.frame = some X.env.locals) (hex : X.ex = []) (hN : X.N.Nodup) (hi : X.N[i]? = some n) (hln : X.env.kindOf n = some .local) (hc : CatK N X x ex) (tk : Takes X W)
    (hb : ∀ (W' : WX) (pn : List (Addr × Obj)) (xe : Value → Shared → Prop), Takes (X.tr pn xe) W' → PassesOwn (model X.prog X.w) X.A X.env xe → XB N W' (X.tr pn xe) body ib) (hsu : ∀ (a : Addr) (pn : List (Addr × Obj)), XB N (fun _ _ _ _ => False) (X.suite a pn) (b₀ :: suite) isu) :
    XS N W X (.Try body [.ExceptHandler (some (.Name x np)) (some n) (b₀ :: suite) pos'] [] [] pos) (.try_ ib ex i isu) := by
  refine PS.imp (ps_try_kept hs hf hex hN hi hln hc.nm tk (tb := fun W' => tS N X.K W' (runB ib)) (ts := tS N X.K (fun _ _ _ _ => False) (runB isu)) hb hsu) fun D σ H ⟨Ω, ρ, st, S, q⟩ => ?_
  refine ⟨Ω, ρ, st, S, ?_⟩
  change PostS N X.K W Ω ρ σ H D (match runB ib ρ st with
    | .exc y ρ' st' => if exUnder y ex then (if i < ρ'.length then (match runB isu (ρ'.set i (.sh (.exn y))) st' with
        | .ok ρ st f => .ok (ρ.set i .un) st f
        | _ => .stuck) else .stuck) else .exc y ρ' st'
    | .ok ρ st f => .ok ρ st f
    | .stuck => .stuck) at q
  cases h1 : runB ib ρ st with
  | stuck => rw [h1] at q; exact q
  | ok ρ1 st1 f => rw [h1] at q; exact q
  | exc y ρ1 st1 =>
    rw [h1] at q
    change PostS N X.K W Ω ρ σ H D (if exUnder y ex then (if i < ρ1.length then (match runB isu (ρ1.set i (.sh (.exn y))) st1 with
        | .ok ρ st f => .ok (ρ.set i .un) st f
        | _ => .stuck) else .stuck) else .exc y ρ1 st1) at q
    intro Ω1 σ1 H1 S1 t1
    refine ⟨N.ex y, exUnder y ex, rfl, rfl, hc.is y, fun hy a na => ?_, fun hy => ?_⟩
    · rw [if_pos hy] at q
      split at q
      · rename_i hl
        obtain ⟨S2, t2⟩ := S1.laidF (o := exO (N.ex y) a) na
        have rx : Rep N X.K Ω1.φ (L2.upd Ω1.F a (exO (N.ex y) a)) (.exn y) (.ref a) := .exn upd_same
        obtain ⟨S3, t3⟩ := S2.put (i := i) (fl := false) (d := .exn y) (v := .ref a) (H0 := H1) (.inl ⟨rfl, rx⟩) hl
        have t4 := t1.trans (t3 t2)
        refine ⟨_, ρ1.set i (.sh (.exn y)), st1, S3, ?_⟩
        cases h2 : runB isu (ρ1.set i (.sh (.exn y))) st1 with
        | stuck => rw [h2] at q; exact q.elim
        | exc e2 ρ2 st2 => rw [h2] at q; exact q.elim
        | ok ρ2 st2 f =>
          rw [h2] at q
          intro Ω5 σ5 H5 S5 t5
          obtain ⟨S6, t6⟩ := S5.unset (i := i)
          have qq := q Ω5 _ H5 S6 ((t4.trans t5).trans t6)
          cases f with
          | next => exact qq
          | brk => exact qq
          | cont => exact qq
          | ret fl d =>
            intro v r
            refine qq v ?_
            rcases r.later t4 with r | ⟨r1, r2, p, r3, r4, r5, r6, r7⟩
            · exact .inl r
            · refine .inr ⟨r1, r2, p, r3, r4, r5, fun z => r6 ?_, r7⟩
              rcases z with z | ⟨j, s, z1, z2, z3⟩
              · exact .inl z
              · rcases getElem_set_some z1 with ⟨_, e⟩ | ⟨ne, e⟩
                · subst e; cases z2
                · rw [List.getElem?_set_ne (Ne.symm ne)] at z3
                  exact .inr ⟨j, s, e, z2, z3⟩
      · exact q.elim
    · rw [hy] at q
      exact q Ω1 σ1 H1 S1 t1
end
end PD

set_option Elab.async false
set_option linter.all false
set_option maxRecDepth 100000
/-! PD23: isinstance. -/
namespace PD
open PySem PySem.Spec L2
/-- a value's type: a plain one's, or a kept exception's class -/
def TyD (K : PySem.W.Frag) (H : Hp) (x : V) (t : Value) : Prop := TyX K H x t ∨ ∃ a C, x = .ref a ∧ t = .ref C ∧ H a = some (exO C a) ∧ ExcC K C
section
variable {X : Cx} {pins : List (Addr × Obj)} {σ : L2.St} {H : Hp} {s : Shared}
theorem kit_ofD {x : V} {u t : Value} (I : Inv X pins σ H s) (rx : RelV x u) (ty : TyD X.K H x t) : ∃ P : Heap → Prop, PySem.W.KitX X.K u t P ∧ P s.heap ∧ u ≠ .builtin "__main__.__loader__#opaque" := by
  rcases ty with ty | ⟨a, C, rfl, rfl, e, c⟩
  · exact kit_of I rx ty
  · cases (show u = Value.ref a from rx)
    obtain ⟨⟨oe, vs, h1, h2, h3⟩, _, _⟩ := (show ObjOk X.prog X.w H s.heap a (exO C a) from I.hok a _ e)
    refine ⟨_, PySem.W.handS_kitx_exc (x := a) (ox := oe) c.hg c.hk c.hs c.hd c.ha c.hn c.ht c.hm, ?_, fun z => nomatch z⟩
    obtain ⟨oc, od, oda, osl⟩ := oe
    obtain ⟨z1, z2⟩ := h2
    dsimp only at z1 z2 h3
    subst z1 z2 h3
    exact ⟨h1, rfl, rfl, trivial⟩
def rIs1 (K : PySem.W.Frag) : List V → Hp → VK → Prop := fun xs H Q => ∃ (x c : V) (t u : Value) (b : Bool), xs = [x, c] ∧ ClsV c u ∧ TyD K H x t ∧ PySem.W.kitOne K t u = some b ∧ Q (.bl b) H
def rIsN (K : PySem.W.Frag) : List V → Hp → VK → Prop := fun xs H Q => ∃ (x : V) (tp : Addr) (cs : List V) (t : Value) (us : List Value) (b : Bool), xs = [x, .ref tp] ∧ H tp = some (.tup cs) ∧ Paired ClsV cs us ∧ TyD K H x t ∧ PySem.W.kitAny K t us = some b ∧ Q (.bl b) H
theorem call_is1 : CallR X (.builtin "isinstance") (rIs1 X.K) := by
  intro pins s σ H xs us Q I r h
  obtain ⟨x, c, t, u, b, rfl, k, ty, e, q⟩ := h
  cases r with
  | cons r1 r2 =>
    cases r2 with
    | cons r2 r3 =>
      cases r3
      have e2 := k.eq r2
      subst e2
      obtain ⟨P, Z, p, hx⟩ := kit_ofD I r1 ty
      exact PySem.W.kia_one Z I.kIn p e hx fun tk => ⟨.bl b, H, I.tok tk, rfl, q⟩
theorem call_isN : CallR X (.builtin "isinstance") (rIsN X.K) := by
  intro pins s σ H xs us Q I r h
  obtain ⟨x, tp, cs, t, ws, b, rfl, hT, k, ty, e, q⟩ := h
  cases r with
  | cons r1 r2 =>
    cases r2 with
    | cons r2 r3 =>
      cases r3
      cases r2
      obtain ⟨P, Z, p, hx⟩ := kit_ofD I r1 ty
      obtain ⟨_, its, rv, o, h1, h2, n, h3⟩ := (show ObjOk X.prog X.w H s.heap tp (.tup cs) from I.hok tp _ hT)
      have e3 := ClsV.all k rv
      subst e3
      obtain ⟨oc, od, dt, sl⟩ := o
      dsimp only at h2 h3
      subst h2 h3
      exact PySem.W.kia_tup Z I.kIn p h1 e hx fun tk => ⟨.bl b, H, I.tok tk, rfl, q⟩
end
/-- the type of data -/
def tyOf (N : Nm) : D → Option Value
  | .non => some (.type "NoneType")
  | .bl _ => some (.type "bool")
  | .int _ => some (.type "int")
  | .str _ => some (.type "str")
  | .lst _ => some (.type "list")
  | .tup _ => some (.type "tuple")
  | .exn e => some (.ref (N.ex e))
  | _ => none
theorem tyD_of {N : Nm} {K : PySem.W.Frag} {φ : List Addr} {F H : Hp} {d : D} {x : V} {t : Value} (hE : ∀ e, ExcC K (N.ex e)) (sub : Le F H) (p : PRep N K φ F H d x) (e : tyOf N d = some t) : TyD K H x t := by
  rcases p with p | ⟨a, rfl, p⟩
  · cases p with
    | non => cases e; exact .inl (.base .non)
    | bl b => cases e; exact .inl (.base (.bl b))
    | int b => cases e; exact .inl (.base (.int b))
    | str b => cases e; exact .inl (.base (.str b))
    | tup h1 _ _ => cases e; exact .inl (.base (.tup (sub _ _ h1)))
    | lst h1 _ _ => cases e; exact .inl (.base (.lst (sub _ _ h1)))
    | exn h1 => cases e; exact .inr ⟨_, _, rfl, rfl, sub _ _ h1, hE _⟩
    | _ => cases e
  · cases d <;> try (exact p.elim)
    · cases e; obtain ⟨xs, h1, _⟩ := p; exact .inl (.base (.lst h1))
    all_goals cases e
/-- what the classes of ours say -/
structure IsK (N : Nm) (K : PySem.W.Frag) : Prop where
  exc : ∀ e, ExcC K (N.ex e)
  sub : ∀ c e, PySem.W.kitOne K (.ref (N.ex c)) (.ref (N.ex e)) = some (exUnder c e)
  val : ∀ c, PySem.W.kitOne K (.ref (N.ex c)) (.type "ValueError") = some true
/-- what an op that asks for the type u gives -/
def OpTy (N : Nm) (K : PySem.W.Frag) (o : Op) (u : Value) : Prop := ∀ d fl r, opSem o [d] = some (fl, r) → ∃ t b, fl = false ∧ r = .bl b ∧ tyOf N d = some t ∧ PySem.W.kitOne K t u = some b
theorem opTy_val {N : Nm} {K : PySem.W.Frag} (h : IsK N K) : OpTy N K .isValErr (.type "ValueError") := fun d fl r e => by
  cases d <;> try (cases e; done)
  cases e; exact ⟨_, true, rfl, rfl, rfl, h.val _⟩
theorem opTy_exc {N : Nm} {K : PySem.W.Frag} (h : IsK N K) (c : Ex) : OpTy N K (.isExc [c]) (.ref (N.ex c)) := fun d fl r e => by
  cases d <;> try (cases e; done)
  cases e
  refine ⟨_, _, rfl, rfl, rfl, ?_⟩
  rw [h.sub]
  simp
theorem opTy_kind {N : Nm} {K : PySem.W.Frag} {o : Op} {k : Nat} {T : String} (ho : ∀ d, opSem o [d] = sb (isK k d)) (h0 : kitB "NoneType" T = some false) (h1 : kitB "bool" T = some (k == 3 || k == 4)) (h2 : kitB "int" T = some (k == 3)) (h3 : kitB "str" T = some (k == 0)) (h4 : kitB "list" T = some (k == 1)) (h5 : kitB "tuple" T = some (k == 2)) : OpTy N K o (.type T) := fun d fl r e => by
  rw [ho] at e
  cases d <;> try (cases e; done)
  all_goals cases e
  · exact ⟨_, _, rfl, rfl, rfl, kit_ty h0⟩
  · exact ⟨_, _, rfl, rfl, rfl, kit_ty h1⟩
  · exact ⟨_, _, rfl, rfl, rfl, kit_ty h2⟩
  · exact ⟨_, _, rfl, rfl, rfl, kit_ty h3⟩
  · exact ⟨_, _, rfl, rfl, rfl, kit_ty h5⟩
  · exact ⟨_, _, rfl, rfl, rfl, kit_ty h4⟩
theorem opTy_str {N : Nm} {K : PySem.W.Frag} : OpTy N K .isStr (.type "str") := opTy_kind (k := 0) (fun _ => rfl) (by decide +kernel) (by decide +kernel) (by decide +kernel) (by decide +kernel) (by decide +kernel) (by decide +kernel)
theorem opTy_list {N : Nm} {K : PySem.W.Frag} : OpTy N K .isList (.type "list") := opTy_kind (k := 1) (fun _ => rfl) (by decide +kernel) (by decide +kernel) (by decide +kernel) (by decide +kernel) (by decide +kernel) (by decide +kernel)
theorem opTy_tup {N : Nm} {K : PySem.W.Frag} : OpTy N K .isTup (.type "tuple") := opTy_kind (k := 2) (fun _ => rfl) (by decide +kernel) (by decide +kernel) (by decide +kernel) (by decide +kernel) (by decide +kernel) (by decide +kernel)
theorem opTy_int {N : Nm} {K : PySem.W.Frag} : OpTy N K .isInt (.type "int") := opTy_kind (k := 3) (fun _ => rfl) (by decide +kernel) (by decide +kernel) (by decide +kernel) (by decide +kernel) (by decide +kernel) (by decide +kernel)
theorem opTy_bool {N : Nm} {K : PySem.W.Frag} : OpTy N K .isBool (.type "bool") := opTy_kind (k := 4) (fun _ => rfl) (by decide +kernel) (by decide +kernel) (by decide +kernel) (by decide +kernel) (by decide +kernel) (by decide +kernel)
section
variable {N : Nm} {W : WX} {X : Cx} {a : Expr} {ia : E} {pos : Pos}
/-- isinstance(a, C) -/
theorem xr_is {C : Str} {c : V} {u : Value} {o : Op} {p p2 : Pos} (hk : IsK N X.K) (hc : PE X (.Name C p2) (tC c)) (cv : ClsV c u) (ho : OpTy N X.K o u) (hg : Gl X "isinstance") (hm : X.mg "isinstance" = none) (ha : XR N W X a ia)
    (hs : starEach [a, .Name C p2] X.env = [(false, eval a X.env), (false, eval (.Name C p2) X.env)]) (hs2 : starEach [.Name C p2] X.env = [(false, eval (.Name C p2) X.env)]) : XR N W X (.Call (.Name "isinstance" p) [a, .Name C p2] [] pos) (.op o [ia]) :=
  .nv (PE.imp (pe_callB call_is1 hg hm (by rfl) (pa_cons ha.xo (pa_cons hc pa_nil hs2) (by rw [hs, hs2])) (by decide) (by decide) (by rw [hs, hs2]) (by rw [hs2]; rfl)) fun σ H Q h => (red1 h).mono fun y H1 ⟨φ, F, ds, fl, d, sub, p, e, q⟩ => by
    cases ds with
    | nil => exact p.elim
    | cons d0 ds =>
      obtain ⟨p, p'⟩ := p
      cases ds with
      | cons _ _ => exact p'.elim
      | nil =>
        obtain ⟨t, b, rfl, rfl, ht, hb⟩ := ho d0 fl d e
        exact ⟨y, c, t, u, b, rfl, cv, tyD_of hk.exc sub p ht, hb, q F H1 (.bl b) (OpRes.val sub (.bl b))⟩)
/-- the names of a tuple of our classes -/
inductive ClsNs (N : Nm) (X : Cx) : List Expr → List Ex → Prop where
  | nil : ClsNs N X [] []
  | cons {C : Str} {p : Pos} {e : Ex} {es : List Expr} {cs : List Ex} (hc : PE X (.Name C p) (tC (.ref (N.ex e)))) (hs : starEach (.Name C p :: es) X.env = (false, eval (.Name C p) X.env) :: starEach es X.env) (r : ClsNs N X es cs) : ClsNs N X (.Name C p :: es) (e :: cs)
theorem ClsNs.pa {N : Nm} {es : List Expr} {cs : List Ex} (h : ClsNs N X es cs) : PA X es (fun σ H Q => Q (cs.map fun e => V.ref (N.ex e)) H) := by
  induction h with
  | nil => exact PA.imp pa_nil fun _ _ _ q => q
  | cons hc hs r ih => exact PA.imp (pa_cons hc ih hs) fun _ _ _ q => q
/-- isinstance(a, (C, ..)) -/
theorem xr_isM {es : List Expr} {cs : List Ex} {k : Nat} {p p2 : Pos} (hk : IsK N X.K) (hc : ClsNs N X es cs) (hl : cs.length ≤ 1000) (hg : Gl X "isinstance") (hm : X.mg "isinstance" = none) (ha : XR N W X a ia)
    (hs : starEach [a, .Tuple es k p2] X.env = [(false, eval a X.env), (false, eval (.Tuple es k p2) X.env)]) (hs2 : starEach [.Tuple es k p2] X.env = [(false, eval (.Tuple es k p2) X.env)]) : XR N W X (.Call (.Name "isinstance" p) [a, .Tuple es k p2] [] pos) (.op (.isExc cs) [ia]) :=
  .nv (PE.imp (pe_callB call_isN hg hm (by rfl) (pa_cons ha.xo (pa_cons (pe_tup hc.pa) pa_nil hs2) (by rw [hs, hs2])) (by decide) (by decide) (by rw [hs, hs2]) (by rw [hs2]; rfl)) fun σ H Q h => by
    obtain ⟨Ω, ρ, st, S, q⟩ := h
    refine ⟨Ω, ρ, st, S, ?_⟩
    change Post N X.K W (RE N X.K σ) Ω ρ σ H Q ((runO [ia] ρ st).bind _) at q
    rw [runO_one] at q
    cases h1 : runO1 ia ρ st with
    | stuck => rw [h1] at q; exact q.elim
    | exc e1 ρ1 st1 => rw [h1] at q; exact q
    | ok ρ1 st1 o1 =>
      rw [h1] at q
      intro Ω1 H1 x S1 t1 r1
      change Post N X.K W (RE N X.K σ) Ω ρ σ H Q (match rezs ρ1 st1 [o1] with | some ds => ofOp ρ1 st1 (opSem (.isExc cs) ds) | none => .stuck) at q
      unfold rezs at q
      cases g1 : PD.rez ρ1 st1 o1 with
      | none => rw [g1] at q; exact q.elim
      | some d1 =>
        rw [g1] at q
        have pr := S1.rez r1 g1
        have q0 : Post N X.K W (RE N X.K σ) Ω ρ σ H Q (ofOp ρ1 st1 (dIsExc cs d1)) := q
        clear q
        cases d1 <;> try (exact q0.elim)
        rename_i c
        refine ⟨by rw [List.length_map, sizeLine_eq]; omega, fun tp ntp => ?_⟩
        obtain ⟨S2, t2⟩ := S1.laidF (o := .tup (cs.map fun e => V.ref (N.ex e))) ntp
        have hx : TyD X.K (upd H1 tp (.tup (cs.map fun e => V.ref (N.ex e)))) x (.ref (N.ex c)) := by
          refine tyD_of (φ := Ω1.φ) (d := .exn c) hk.exc S2.sub ?_ rfl
          rcases pr with pr | ⟨_, _, pr⟩
          · exact .inl (Rep.step pr t2)
          · exact pr.elim
        have hp : ∀ cs : List Ex, Paired ClsV (cs.map fun e => V.ref (N.ex e)) (cs.map fun e => Value.ref (N.ex e)) := fun cs => by
          induction cs with
          | nil => exact .nil
          | cons c cs ih => exact .cons (.own _) ih
        have hkit : ∀ cs : List Ex, PySem.W.kitAny X.K (.ref (N.ex c)) (cs.map fun e => Value.ref (N.ex e)) = some (cs.any fun e => exUnder c e) := fun cs => by
          induction cs with
          | nil => exact kitAny_nil
          | cons e cs ih =>
            refine kitAny_cons (hk.sub c e) (fun hb => ?_) (fun hb => ?_)
            · rw [ih, List.any_cons, hb, Bool.false_or]
            · rw [List.any_cons, hb, Bool.true_or]
        exact ⟨x, tp, _, _, _, cs.any fun e => exUnder c e, rfl, upd_same, hp cs, hx, hkit cs, q0 _ _ _ S2 (t1.trans t2) (.inl ⟨rfl, .bl _⟩)⟩)
end
end PD

set_option Elab.async false
set_option linter.all false
set_option maxRecDepth 100000
/-! PD24: a def keeps the promise of its run. -/
namespace PD
open PySem PySem.Spec L2
section
variable {N : Nm} {K : PySem.W.Frag} {Ω Ω' : Wd} {ρ ρ' : List Slot} {st st' : List D} {σ σ' : L2.St} {H H' : Hp}
theorem Step.cells (hn : ∀ (j : Nat) (d : D), ρ[j]? ≠ some (Slot.own d)) (t : Step Ω ρ σ H Ω' ρ' σ' H') : Step Ω [] [] H Ω' [] [] H' := by
  have to0 : ∀ {a : Addr}, OwnA Ω.φ ρ σ a → OwnA Ω.φ [] [] a := fun {a} h => by
    rcases h with h | ⟨j, d, h, _⟩
    · exact .inl h
    · exact absurd h (hn j d)
  refine ⟨t.fm, t.pm, fun a h => (t.new a h).imp id (Or.imp id to0), fun p hp => ?_, fun a o h n => t.keep a o h fun z => n (to0 z), t.dom, fun j d h => nomatch h⟩
  exact (t.own p (.inl (own_nil hp))).imp to0 id
theorem start_get {N : List Str} {vs : List V} {j : Nat} (h : j < vs.length) : (L2.start N vs)[j]? = some (some vs[j]) := by
  unfold L2.start
  rw [List.getElem?_append_left (by simpa using h), List.getElem?_map, List.getElem?_eq_getElem h]
  rfl
/-- at a def's entry -/
theorem StR.entry {names : List Str} {ds : List D} {vs : List V} (S : StR N K Ω [] st [] H) (r : Reps N K Ω.φ Ω.F ds vs) (hl : vs.length ≤ names.length) : StR N K Ω (ds.map .sh ++ List.replicate (names.length - ds.length) .un) st (L2.start names vs) H := by
  have get : ∀ {j : Nat} {s : Slot}, (ds.map Slot.sh ++ List.replicate (names.length - ds.length) .un)[j]? = some s → s = .un ∨ ∃ d, s = .sh d ∧ ds[j]? = some d := fun {j s} h => by
    by_cases hj : j < ds.length
    · rw [List.getElem?_append_left (by simpa using hj), List.getElem?_map, List.getElem?_eq_getElem hj] at h
      exact .inr ⟨_, (Option.some.inj h).symm, List.getElem?_eq_getElem hj⟩
    · rw [List.getElem?_append_right (by simpa using hj)] at h
      obtain ⟨_, e⟩ := List.getElem?_eq_some_iff.mp h
      rw [List.getElem_replicate] at e
      exact .inl e.symm
  refine ⟨?_, S.sub, fun j s hj => ?_, fun a b s t p h1 h2 h3 h4 h5 h6 => ?_, S.stl, S.sto, S.phF, S.nd⟩
  · unfold L2.start
    rw [List.length_append, List.length_append, List.length_map, List.length_map, List.length_replicate, List.length_replicate, r.length]
  · rcases get hj with e | ⟨d, e, hd⟩
    · subst e; trivial
    · subst e
      obtain ⟨v, ev, rv⟩ := r.get hd
      obtain ⟨hv, e2⟩ := List.getElem?_eq_some_iff.mp ev
      exact ⟨v, by rw [start_get hv, e2], rv⟩
  · rcases get h1 with e | ⟨d, e, _⟩ <;> (subst e; cases h3)
end
section
variable {N : Nm} {P : Program} {w : World} {K : PySem.W.Frag} {mg : Str → Option Value} {base : Heap} {x qual : Str} {params : Arguments} {body : List Stmt} {scope : Scope} {f : Addr} {fd : FuncData} {names ps : List Str} {k : Nat} {ir : List S}
/-- what the body's judgement is asked in: the def's own context, what it lets out -/
abbrev wX (E : XK) : WX := fun cls d _ H => E cls d H
theorem def_ok (F : FunD K x qual params body scope [] [] f fd) (S : FnScope names ps scope) (hl : ps.length ≤ names.length)
    (hb : ∀ (cdv : Value) (A : Around) (outer : List Env) (s : Shared) (H : Hp) (E : XK), Room k (A.deeper (PyProof.Rows.envOfC qual scope s.heap.objs.size f cdv)) → XB N (wX E) (cxOf (L2.CX P w) P w K mg base names qual scope f cdv A outer s H E) body ir) :
    FnOk P w K mg base (L2.CX P w) (k + 1) f fd ps (spF N K ps.length (fnOf names.length ir)) := by
  refine F.ok S (fun vs H Q E h => h.1) fun cdv A outer s H vs Q E hr h => ⟨_, hb cdv A outer s H E hr, ?_⟩
  obtain ⟨hn, Ω, ds, st, S0, r, q⟩ := h
  have S1 := S0.entry r (names := names) (by rw [hn]; exact hl)
  have nOwn : ∀ (j : Nat) (d : D), (ds.map Slot.sh ++ List.replicate (names.length - ds.length) Slot.un)[j]? ≠ some (Slot.own d) := fun j d h => by
    rcases List.mem_append.mp (List.mem_of_getElem? h) with z | z
    · obtain ⟨_, _, z⟩ := List.mem_map.mp z; cases z
    · cases (List.mem_replicate.mp z).2
  refine ⟨Ω, _, st, S1, ?_⟩
  have q : (match (match runB ir (ds.map Slot.sh ++ List.replicate (names.length - ds.length) .un) st with
    | .ok _ st (.ret fl d) => FR.ok st fl d
    | .ok _ st .next => .ok st false .non
    | .exc e _ st => .exc e st
    | _ => .stuck) with
    | .stuck => False
    | .ok st' fl d => ∀ (Ω' : Wd) (H' : Hp) (v : V), StR N K Ω' [] st' [] H' → Step Ω [] [] H Ω' [] [] H' → ResR N K Ω' [] [] H H' fl d v → Q v H'
    | .exc e st' => ∀ (Ω' : Wd) (H' : Hp), StR N K Ω' [] st' [] H' → Step Ω [] [] H Ω' [] [] H' → E (.ref (N.ex e)) none H') := q
  show PostS N K (wX E) Ω _ _ H _ (runB ir (ds.map Slot.sh ++ List.replicate (names.length - ds.length) .un) st)
  cases h1 : runB ir (ds.map Slot.sh ++ List.replicate (names.length - ds.length) .un) st with
  | stuck => rw [h1] at q; exact q
  | exc e ρ' st' => rw [h1] at q; exact fun Ω' σ' H' S' t' => q Ω' H' S'.cells (t'.cells nOwn)
  | ok ρ' st' fl =>
    rw [h1] at q
    cases fl with
    | next => exact fun Ω' σ' H' S' t' => q Ω' H' .non S'.cells (t'.cells nOwn) (.inl ⟨rfl, .non⟩)
    | brk => exact q.elim
    | cont => exact q.elim
    | ret fl d =>
      intro Ω' σ' H' S' t' v rr
      refine q Ω' H' v S'.cells (t'.cells nOwn) ?_
      rcases rr with rr | ⟨r1, r2, p, r3, r4, r5, r6, r7⟩
      · exact .inl rr
      · have notφ : p ∉ Ω'.φ := fun z => r6 (.inl z)
        refine .inr ⟨r1, r2, p, r3, ?_, r5, fun z => notφ (held_nil z), r7⟩
        rcases r4 with r4 | r4
        · exact r4
        · rcases r4 with r4 | ⟨j, d', h1, _⟩
          · obtain ⟨m, em⟩ := t'.pm
            exact absurd (by rw [em]; exact List.mem_append_left _ r4) notφ
          · exact absurd h1 (nOwn j d')
/-- the body's context takes what the def lets out -/
theorem cx_takes {cdv : Value} {A : Around} {outer : List Env} {s : Shared} {H : Hp} {E : XK} : Takes (cxOf (L2.CX P w) P w K mg base names qual scope f cdv A outer s H E) (wX E) := takes_of rfl rfl rfl rfl
theorem cx_passes {cdv : Value} {A : Around} {outer : List Env} {s : Shared} {H : Hp} {E : XK} : PassesOwn (model P w) (A.deeper (PyProof.Rows.envOfC qual scope s.heap.objs.size f cdv)) (PyProof.Rows.envOfC qual scope s.heap.objs.size f cdv) (cxOf (L2.CX P w) P w K mg base names qual scope f cdv A outer s H E).xe := passes_of (X := cxOf (L2.CX P w) P w K mg base names qual scope f cdv A outer s H E) rfl
end
end PD

set_option Elab.async false
set_option linter.all false
set_option maxRecDepth 100000
/-! PD25: small rules for the walks. -/
namespace PD
open PySem PySem.Spec L2
section
variable {N : Nm} {W : WX} {X : Cx} {a : Expr} {ia : E} {pos : Pos}
theorem xr_neg (ha : XR N W X a ia) : XR N W X (.UnaryOp .USub a pos) (.op .neg [ia]) :=
  .nv (PE.imp (pe_un un_neg ha.xo) fun σ H Q h => (red1 h).mono fun y H1 ⟨φ, F, ds, fl, d, sub, p, e, q⟩ => by
    cases ds with
    | nil => exact p.elim
    | cons d0 ds =>
      obtain ⟨p, p'⟩ := p
      cases ds with
      | cons _ _ => exact p'.elim
      | nil =>
        cases d0 <;> try (cases e; done)
        rename_i n
        cases e
        exact ⟨n, p.int, q F H1 _ (OpRes.val sub (.int _))⟩)
/-- a text of the module -/
theorem xr_gstr {x z : Str} {t : Tok} (hg : Gl X x) (hm : X.mg x = some (.str z t)) (hd : (x == ("__debug__" : Str)) = false := by decide) : XR N W X (.Name x pos) (.str z) := .nv (xe_const (pe_glob (v := .str z) hg hm ⟨t, rfl⟩ hd) fun _ _ => .str z)
theorem xr_gint {x : Str} {z : Int} {t : Tok} (hg : Gl X x) (hm : X.mg x = some (.int z t)) (hd : (x == ("__debug__" : Str)) = false := by decide) : XR N W X (.Name x pos) (.int z) := .nv (xe_const (pe_glob (v := .int z) hg hm ⟨t, rfl⟩ hd) fun _ _ => .int z)
theorem xt_w {e : Expr} {i : E} (h : XW N W X e i) : XTi N W X e i := h.pt
end
/-- a def as everybody knows it -/
def FnG (N : Nm) (P : Program) (w : World) (K : PySem.W.Frag) (mg : Str → Option Value) (base : Heap) (lvl : Nat) (x : Str) (n : Nat) (f : Fn) : Prop :=
  ∃ a fd ps, FnOk P w K mg base (L2.CX P w) lvl a fd ps (spF N K n f) ∧ mg x = some (.ref a) ∧ PySem.W.keepIn K (.ref a) = true ∧ Binds K fd ps []
section
variable {N : Nm} {P : Program} {w : World} {K : PySem.W.Frag} {mg : Str → Option Value} {base : Heap} {lvl lvl' : Nat} {x : Str} {n : Nat} {f : Fn}
theorem FnG.up (h : FnG N P w K mg base lvl x n f) (hl : lvl ≤ lvl') : FnG N P w K mg base lvl' x n f := by
  obtain ⟨a, fd, ps, F, r⟩ := h
  exact ⟨a, fd, ps, F.mono hl, r⟩
theorem FnG.fk {X : Cx} (h : FnG N X.prog X.w X.K X.mg X.base lvl x n f) (hr : Room lvl X.A) : FnK N X x n f := by
  obtain ⟨a, fd, ps, F, h1, h2, h3⟩ := h
  exact ⟨⟨lvl, a, fd, ps, F, hr, h1, h2, h3⟩⟩
end
theorem rm1 {k : Nat} {A : Around} (h : Room k A) : A.units + 1 < cLine := by have := h.un; omega
theorem rm64 {k : Nat} {A : Around} (h : Room k A) : A.units + 64 < cLine := by have := h.un; omega
theorem rm65 {k : Nat} {A : Around} (h : Room k A) : A.units + 65 < cLine := by have := h.un; omega
end PD

set_option Elab.async false
set_option linter.all false
set_option maxRecDepth 100000
/-! PD26: text.replace(' ', '  ', 1), in a list behind a written text. -/
namespace PD
open PySem PySem.Spec PyProof.Rows L2
open Builtin Builtin.Str in
theorem gives_rep (x y z : Str) (t u v k : Tok) (hf : ((occurrences x y 0 x.length 1).isEmpty || (y.length == 0 && z.length == 0)) = false → (u == 0 || v == 0) = false ∧ (u == v) = false ∧ (y == z) = false ∧ tooLong (x.length + (occurrences x y 0 x.length 1).length * z.length) = false) :
    Gives (Builtin.«str.replace» ⟨[.str x t, .str y u, .str z v, .int 1 k], []⟩) (if ((occurrences x y 0 x.length 1).isEmpty || (y.length == 0 && z.length == 0)) = true then .val (.str x t) else .str (glued z (partsBetween x (occurrences x y 0 x.length 1) y.length))) := by
  show Gives (if ((occurrences x y 0 x.length 1).isEmpty || (y.length == 0 && z.length == 0)) = true then (do rule "str.replace.nothing"; ret (.str x t)) else (do
    let same ← isSame (.str y u) (.str z v)
    if same = true then (do rule "str.replace.old-is-new"; ret (.str x t)) else
    if tooLong (x.length + (occurrences x y 0 x.length 1).length * z.length) = true then unsupported "str.replace:memory" else
    retStr (glued z (partsBetween x (occurrences x y 0 x.length 1) y.length)))) _
  cases hc : ((occurrences x y 0 x.length 1).isEmpty || (y.length == 0 && z.length == 0))
  · obtain ⟨h0, huv, hyz, hl⟩ := hf hc
    rw [isSame_str_other y z u v h0 huv hyz, hl]
    exact .of_eq rfl
  · exact .rule (.of_eq rfl)
theorem repN_len (x y z : Str) (n : Nat) : (repN x y z n).length ≤ x.length + n * z.length := by
  unfold repN
  split
  · exact Nat.le_add_right _ _
  · have h1 := StrLaws.occ_length_le x y 0 x.length n
    have hy : (Builtin.Str.glued y (Builtin.Str.partsBetween x (Builtin.Str.occurrences x y 0 x.length n) y.length)).length = x.length := by rw [StrLaws.glued_between_self]
    rw [size_glued, length_partsBetween, Nat.add_sub_cancel] at hy
    rw [size_glued, length_partsBetween, Nat.add_sub_cancel]
    have h2 : (Builtin.Str.occurrences x y 0 x.length n).length * z.length ≤ n * z.length := Nat.mul_le_mul_right _ h1
    omega
section
variable {prog : Program} {w : World} {A : Around} {E : Value → Shared → Prop} {s : Shared} {x y z : Str} {t u v k : Tok} {Q : Value → Shared → Prop}
open Builtin Builtin.Str in
theorem rep_call (hu : u ≠ 0) (hv : v ≠ 0) (huv : u ≠ v) (hyz : (y == z) = false) (hb : x.length + z.length ≤ 16777216) (hq : ∀ t' k', Q (.str (repN x y z 1) t') { s with toks := k' }) :
    wpAny (model prog w) A (call (.builtin "str.replace") [.str x t, .str y u, .str z v, .int 1 k]) Q E s := by
  have h1 := StrLaws.occ_length_le x y 0 x.length 1
  have h2 : (Builtin.Str.occurrences x y 0 x.length 1).length * z.length ≤ 1 * z.length := Nat.mul_le_mul_right _ h1
  have hl : tooLong (x.length + (Builtin.Str.occurrences x y 0 x.length 1).length * z.length) = false := by
    unfold tooLong
    rw [sizeLine_eq]
    exact decide_eq_false (by omega)
  refine call_gives F.slot_str_replace (typeIs_str _ _ _) F.entry_str_replace (F.args_str_replace_4 _ _ _ _) (gives_rep x y z t u v k fun _ => ⟨by simp [hu, hv], by simp [huv], hyz, hl⟩) ?_
  have hq' := hq
  have hn := repN_len x y z 1
  unfold repN at hq' hn
  cases hc : ((Builtin.Str.occurrences x y 0 x.length 1).isEmpty || (y.length == 0 && z.length == 0))
  · rw [hc] at hq' hn
    simp only [Bool.false_eq_true, if_false] at hq' hn ⊢
    exact ⟨by rw [sizeLine_eq]; omega, hq' _ _⟩
  · rw [hc] at hq'
    simp only [if_true] at hq' ⊢
    exact hq' t s.toks
end
section
variable {N : Nm} {W : WX} {X : Cx} {e a b : Expr} {ia ib : E} {pos : Pos}
theorem PET.of {te : TE} (h : PE X e te) : PET X e te := fun pins s σ H Q _ I q => h.run pins s σ H Q I q
theorem PET.imp {t t' : TE} (p : PET X e t) (h : ∀ σ H Q, t' σ H Q → t σ H Q) : PET X e t' := fun pins s σ H Q h0 I q => p pins s σ H Q h0 I (h σ H Q q)
theorem PAT.imp {es : List Expr} {t t' : TA} (p : PAT X es t) (h : ∀ σ H Q, t' σ H Q → t σ H Q) : PAT X es t' := fun ps pins s σ H Q h0 I q => p ps pins s σ H Q h0 I (h σ H Q q)
def tRep1 (to : TE) (y z : Str) : TE := fun σ H Q => to σ H fun v H1 => ∃ x, v = .str x ∧ x.length + z.length ≤ 16777216 ∧ Q (.str (repN x y z 1)) H1
/-- o.replace(y, z, 1) -/
theorem pet_rep {o : Expr} {to : TE} {y z : Str} {k1 k2 k3 : Nat} {p1 p2 p3 apos cpos : Pos} (ho : PE X o to) (hyz : (y == z) = false)
    (hbase : attributeBase o "replace" X.env (eval o X.env) = eval o X.env)
    (hfew : ((backTo cpos (starEach [.Constant (.str y) k1 p1, .Constant (.str z) k2 p2, .Constant (.int 1) k3 p3] X.env)).all (fun x => !x.1) && (backToKw cpos (keywordEach [] X.env)).all (fun x => x.1.isSome) && decide (([.Constant (.str y) k1 p1, .Constant (.str z) k2 p2, .Constant (.int 1) k3 p3] : List Expr).length + ([] : List Keyword).length + (if ([] : List Keyword).isEmpty then 0 else 1) < 30)) = true)
    (hline : (apos.endLine == cpos.line) = true) : PET X (.Call (.Attribute o "replace" apos) [.Constant (.str y) k1 p1, .Constant (.str z) k2 p2, .Constant (.int 1) k3 p3] [] cpos) (tRep1 to y z) := by
  intro pins s σ H Q h0 I h
  refine wpAny_Call_method_late hbase hfew hline rfl (wpAny_mono (PySem.wpAny_toks (ho.run pins s σ H _ I h)) (fun v s1 q => ?_) fun _ _ z => z.2)
  obtain ⟨hk, x1, H1, I1, r1, x, e1, hb, q⟩ := q
  subst e1
  obtain ⟨t, rfl⟩ := r1
  refine ⟨"str", _, F.plainAttrs_str, F.slot_str_replace, F.type_str_replace, typeIs_str _ _ _, (fun _ e => nomatch e), Calls.callWith_builtin rfl (Calls.evalArgs_plain ?_)⟩
  show wpAny _ _ (spliced ((false, eval (.Constant (.str y) k1 p1) X.env) :: (false, eval (.Constant (.str z) k2 p2) X.env) :: (false, eval (.Constant (.int 1) k3 p3) X.env) :: [])) _ _ s1
  refine Calls.spliced_cons (Calls.Constant_str (Calls.spliced_cons (Calls.Constant_str (Calls.spliced_cons (wpAny_Constant_int (Calls.spliced_nil ?_))))))
  exact rep_call (show s1.toks ≠ (0 : Nat) by omega) (show s1.toks + 1 ≠ (0 : Nat) by omega) (show s1.toks ≠ (s1.toks + 1 : Nat) by omega) hyz hb fun t' k' => ⟨.str (repN x y z 1), H1, I1.tok k', ⟨t', rfl⟩, q⟩
/-- an expression where a token is out -/
def XRt (N : Nm) (W : WX) (X : Cx) (e : Expr) (i : E) : Prop := PET X e (tX N X.K W (fun _ => RD N X.K) fun ρ st => (run i ρ st).bind fun ρ st p => .ok ρ st p.2)
abbrev XVt (N : Nm) (W : WX) (X : Cx) (es : List Expr) (c : Sm (List D)) : Prop := PAT X es (tX N X.K W (fun _ => RV N X.K) c)
theorem xrt_of (h : XR N W X a ia) : XRt N W X a ia := PET.of h.xd
theorem rd_re {K : PySem.W.Frag} {c : Sm (Bool × D)} {σ : L2.St} {H : Hp} {Q : VK} (h : tX N K W (fun _ => RD N K) (fun ρ st => (c ρ st).bind fun ρ st p => .ok ρ st p.2) σ H Q) : tX N K W (RE N K) c σ H Q := by
  obtain ⟨Ω, ρ, st, S, q⟩ := h
  refine ⟨Ω, ρ, st, S, Post.bind q fun ρ1 st1 p Ω1 H1 v _ S1 t1 r1 q1 => ?_⟩
  obtain ⟨F', S2, t2, r2⟩ := S1.value t1 r1
  exact q1 _ H1 v S2 t2 r2
theorem xrt_rep {o : Expr} {io : E} {k1 k2 k3 : Nat} {p1 p2 p3 apos cpos : Pos} (ho : XR N W X o io)
    (hbase : attributeBase o "replace" X.env (eval o X.env) = eval o X.env)
    (hfew : ((backTo cpos (starEach [.Constant (.str " ") k1 p1, .Constant (.str "  ") k2 p2, .Constant (.int 1) k3 p3] X.env)).all (fun x => !x.1) && (backToKw cpos (keywordEach [] X.env)).all (fun x => x.1.isSome) && decide (([.Constant (.str " ") k1 p1, .Constant (.str "  ") k2 p2, .Constant (.int 1) k3 p3] : List Expr).length + ([] : List Keyword).length + (if ([] : List Keyword).isEmpty then 0 else 1) < 30)) = true)
    (hline : (apos.endLine == cpos.line) = true) : XRt N W X (.Call (.Attribute o "replace" apos) [.Constant (.str " ") k1 p1, .Constant (.str "  ") k2 p2, .Constant (.int 1) k3 p3] [] cpos) (.op .rep1 [io]) :=
  PET.imp (pet_rep ho.xo (by decide) hbase hfew hline) fun σ H Q h => (red1 (rd_re h)).mono fun y H1 ⟨φ, F, ds, fl, d, sub, p, e, q⟩ => by
    cases ds with
    | nil => exact p.elim
    | cons d0 ds =>
      obtain ⟨p, p'⟩ := p
      cases ds with
      | cons _ _ => exact p'.elim
      | nil =>
        cases d0 <;> try (cases e; done)
        rename_i x
        have e' : (if x.length ≤ 1000000 then some (false, D.str (repN x " " "  " 1)) else none) = some (fl, d) := e
        split at e'
        · rename_i hl
          cases e'
          exact ⟨x, p.str, by have : ("  " : Str).length = 2 := by decide
                              omega, q F H1 _ (OpRes.val sub (.str _))⟩
        · cases e'
theorem xvt_nil : XVt N W X [] (runV []) := fun ps pins s σ H Q _ I h => (xv_nil (N := N) (W := W)).run ps pins s σ H Q I h
theorem xvt_cons {es : List Expr} {is : List E} (h : XRt N W X a ia) (g : XVt N W X es (runV is)) (hs : starEach (a :: es) X.env = (false, eval a X.env) :: starEach es X.env) : XVt N W X (a :: es) (runV (ia :: is)) :=
  PAT.imp (pat_cons h g hs) fun σ H Q q => tcons (by
    obtain ⟨Ω, ρ, st, S, q⟩ := q
    refine ⟨Ω, ρ, st, S, ?_⟩
    change Post N X.K W (RV N X.K) Ω ρ σ H Q ((run ia ρ st).bind fun ρ st p => (runV is ρ st).bind fun ρ st ds => .ok ρ st (p.2 :: ds)) at q
    show Post N X.K W (RV N X.K) Ω ρ σ H Q (((run ia ρ st).bind fun ρ st p => .ok ρ st p.2).bind fun ρ st d => (runV is ρ st).bind fun ρ st ds => .ok ρ st (d :: ds))
    rw [bind_bind]; exact q)
/-- the first item spends a token -/
theorem pa_spend {c : Str} {k : Nat} {cp bp : Pos} {op : Operator} {es : List Expr} {tb : TE} {r : R2} {ta : TA} (hop : OpR X (binaryOp op) r) (hb : PE X b tb) (hr : PAT X es ta)
    (hs : starEach (.BinOp (.Constant (.str c) k cp) op b bp :: es) X.env = (false, eval (.BinOp (.Constant (.str c) k cp) op b bp) X.env) :: starEach es X.env) : PA X (.BinOp (.Constant (.str c) k cp) op b bp :: es) (tCons (tOp r (tC (.str c)) tb) ta) := by
  refine ⟨fun pos pins s σ H Q I h => ?_⟩
  rw [hs]
  show wpAny _ _ (spliced ((false, eval (.BinOp (.Constant (.str c) k cp) op b bp) X.env) :: backTo pos (starEach es X.env))) _ _ s
  refine Calls.spliced_cons (wpAny_BinOp (Calls.Constant_str ?_))
  have hB := hb.run pins { s with toks := s.toks + 1 } σ H _ (I.tok _) h
  refine wpAny_mono (PySem.wpAny_toks hB) (fun u s2 q2 => ?_) fun _ _ z => z.2
  obtain ⟨hk, y, H2, I2, r2, q2⟩ := q2
  have hO := hop pins s2 σ H2 (.str c) y (.str c s.toks) u _ I2 ⟨_, rfl⟩ r2 q2
  refine wpAny_mono (PySem.wpAny_toks hO) (fun v s3 q3 => ?_) fun _ _ z => z.2
  obtain ⟨hk3, x, H3, I3, r3, q3⟩ := q3
  have h1 : 1 ≤ s3.toks := Nat.le_trans (Nat.le_trans (Nat.le_add_left 1 s.toks) hk) hk3
  exact thn (hr pos pins s3 σ H3 _ h1 I3 q3) fun us s4 ⟨xs, H4, I4, r4, q4⟩ => ⟨x :: xs, H4, I4, .cons r3 r4, q4⟩
theorem xv_spend {c : Str} {k : Nat} {cp bp : Pos} {es : List Expr} {is : List E} (hb : XR N W X b ib) (g : XVt N W X es (runV is))
    (hs : starEach (.BinOp (.Constant (.str c) k cp) .Add b bp :: es) X.env = (false, eval (.BinOp (.Constant (.str c) k cp) .Add b bp) X.env) :: starEach es X.env) : XV N W X (.BinOp (.Constant (.str c) k cp) .Add b bp :: es) (runV (.op .add [.str c, ib] :: is)) :=
  PA.imp (pa_spend (o_add (N := N)) hb.xo g hs) fun σ H Q q => by
    have q1 : tX N X.K W (fun _ => RD N X.K) (fun ρ st => (run (.op .add [.str c, ib]) ρ st).bind fun ρ st p => .ok ρ st p.2) σ H fun x H1 => tX N X.K W (fun _ => RV N X.K) (runV is) σ H1 fun xs H2 => Q (x :: xs) H2 := tcons (by
      obtain ⟨Ω, ρ, st, S, q⟩ := q
      refine ⟨Ω, ρ, st, S, ?_⟩
      change Post N X.K W (RV N X.K) Ω ρ σ H Q ((run (.op .add [.str c, ib]) ρ st).bind fun ρ st p => (runV is ρ st).bind fun ρ st ds => .ok ρ st (p.2 :: ds)) at q
      show Post N X.K W (RV N X.K) Ω ρ σ H Q (((run (.op .add [.str c, ib]) ρ st).bind fun ρ st p => .ok ρ st p.2).bind fun ρ st d => (runV is ρ st).bind fun ρ st ds => .ok ρ st (d :: ds))
      rw [bind_bind]; exact q)
    obtain ⟨Ω, ρ, st, S, q2⟩ := red2 (rd_re q1)
    exact q2 Ω H (.str c) S (Step.refl _ _ _ _) (show Rep N X.K Ω.φ Ω.F (.str c) (.str c) from .str c)
end
end PD

set_option Elab.async false
set_option linter.all false
set_option maxRecDepth 100000
/-! PD27: what the head is asked, the law's end. -/
namespace PD
open PySem PySem.Spec L2
def exNm : Ex → Str
  | .stuck => "StuckError"
  | .works => "NoWorks"
  | .row => "NoRow"
  | .fault => "NoFault"
  | .text => "NoText"
  | .order => "NoOrder"
  | .many => "TooMany"
def exAll : List Ex := [.stuck, .works, .row, .fault, .text, .order, .many]
theorem mem_exAll (e : Ex) : e ∈ exAll := by cases e <;> decide
/-- the addresses, by the names of the module -/
def nmOf (K : PySem.W.Frag) : Nm := ⟨fun e => He.ga K (exNm e), He.ga K "Desk"⟩
def excB (K : PySem.W.Frag) (D : Addr) : Bool := He.eqO (PySem.W.findIn K (.ref D) "__getattribute__") (some (some (.builtin "BaseException.__getattribute__"))) && (He.eqO (PySem.W.findIn K (.ref D) "__getattr__") (some none) && (decide (PySem.W.subIn K (.ref D) (.type "BaseException") = some true) &&
  (PySem.W.hasDictIn K D && (He.eqO (PySem.W.findIn K (.ref D) "__class__") (some (some (.builtin "object.__class__"))) && (He.eqO (PySem.W.specialIn K (.builtin "object.__class__") "__get__") (some (some (.builtin "getset_descriptor.__get__"))) && (decide (PySem.W.takesIn K (.builtin "object.__class__") = some true) && decide (PySem.W.mroIn K D (.type "object") = some true)))))))
theorem excB_ok {K : PySem.W.Frag} {D : Addr} (h : excB K D = true) : ExcC K D := by
  unfold excB at h
  simp only [Bool.and_eq_true, decide_eq_true_eq] at h
  obtain ⟨h1, h2, h3, h4, h5, h6, h7, h8⟩ := h
  exact ⟨He.eqO_ok h1, He.eqO_ok h2, h3, h4, He.eqO_ok h5, He.eqO_ok h6, h7, h8⟩
/-- what all the classes of exceptions say -/
def clsB (K : PySem.W.Frag) : Bool := exAll.all fun c => excB K ((nmOf K).ex c) && (decide (PySem.W.kitOne K (.ref ((nmOf K).ex c)) (.type "ValueError") = some true) && exAll.all fun e =>
  decide (PySem.W.kitOne K (.ref ((nmOf K).ex c)) (.ref ((nmOf K).ex e)) = some (exUnder c e)) && decide (PySem.W.exmOne K (.ref ((nmOf K).ex c)) (.ref ((nmOf K).ex e)) = some (exUnder c e)))
theorem clsB_ok {K : PySem.W.Frag} (h : clsB K = true) : IsK (nmOf K) K ∧ ∀ c e : Ex, PySem.W.exmOne K (.ref ((nmOf K).ex c)) (.ref ((nmOf K).ex e)) = some (exUnder c e) := by
  have a : ∀ c : Ex, _ := fun c => List.all_eq_true.mp h c (mem_exAll c)
  simp only [Bool.and_eq_true, decide_eq_true_eq] at a
  have b : ∀ c e : Ex, _ := fun c e => List.all_eq_true.mp (a c).2.2 e (mem_exAll e)
  simp only [Bool.and_eq_true, decide_eq_true_eq] at b
  exact ⟨⟨fun c => excB_ok (a c).1, fun c e => (b c e).1, fun c => (a c).2.1⟩, fun c e => (b c e).2⟩
/-! ### the Hook: the facts, the defs, the tables, and more -/
open He in
def obsX (fa : List Fa) (fn : List DefD) (ts : List Tab) (ex : List (PySem.W.Frag → Bool)) (K : PySem.W.Frag) : AlT × Bool := (obsT fa fn ts K, ex.all fun p => p K)
open He in
def obsXG (n : Nat) (fa : List Fa) (fn : List DefD) (ts : List Tab) (ex : List (PySem.W.Frag → Bool)) (g : Addr → Option Obj) : AlT × Bool := obsX fa fn ts ex (frG g (asD g n))
open He in
def SaysX (fa : List Fa) (fn : List DefD) (ts : List Tab) (ex : List (PySem.W.Frag → Bool)) (w : World) (K : PySem.W.Frag) : Prop := obsX fa fn ts ex K = (valT fn ts w, true)
open He in
def hookX (n : Nat) (fa : List Fa) (fn : List DefD) (ts : List Tab) (ex : List (PySem.W.Frag → Bool)) : PySem.W.Hook where
  α := AlT × Bool
  obs := fun s => obsXG n fa fn ts ex s.heap.get?
  val := fun w => (valT fn ts w, true)
  says := fun w h => ∃ K : PySem.W.Frag, K.In h ∧ SaysX fa fn ts ex w K
  of := fun _ _ e => ⟨_, frG_in, e⟩
  keeps := fun _ _ _ ⟨K, hK, c⟩ k => ⟨K, PySem.W.Frag.In.keeps hK k, c⟩
open He in
theorem obsXG_eq {n : Nat} {fa : List Fa} {fn : List DefD} {ts : List Tab} {ex : List (PySem.W.Frag → Bool)} {g : Addr → Option Obj} {s : Shared} (h : ∀ a, g a = s.heap.get? a) : obsXG n fa fn ts ex g = (hookX n fa fn ts ex).obs s := by
  have e : g = s.heap.get? := funext h
  rw [e] <;> rfl
section
open He
variable {fa : List Fa} {fn : List DefD} {ts : List Tab} {ex : List (PySem.W.Frag → Bool)} {w : World} {K : PySem.W.Frag}
theorem SaysX.t (c : SaysX fa fn ts ex w K) : SaysT fa fn ts w K := congrArg (fun z : AlT × Bool => z.1) c
theorem SaysX.d (c : SaysX fa fn ts ex w K) : SaysD fa fn K := c.t.d
theorem SaysX.more (c : SaysX fa fn ts ex w K) {p : PySem.W.Frag → Bool} (h : p ∈ ex) : p K = true := List.all_eq_true.mp (congrArg (fun z : AlT × Bool => z.2) c) p h
end
/-- the own classes, from the facts -/
theorem raises_of {K : PySem.W.Frag} {x : Str} (c : (He.Fa.exc x).ok K = true) : ∃ (bmB : List Value) (B newId initId : String), ExcBaseFacts B newId initId bmB ∧ PySem.W.excIn K (He.ga K x) bmB newId = true ∧ PySem.W.keepIn K (.ref (He.ga K x)) = true ∧ PySem.W.subIn K (.ref (He.ga K x)) (.type "BaseException") = some true ∧ PySem.W.typeIn K (.ref (He.ga K x)) = some (.type "type") := by
  obtain ⟨h1, h2, h3, h4⟩ := He.exc_ok c
  exact ⟨_, _, _, _, PySem.F.excBase_ValueError, h1, h2, h3, h4⟩
/-- the law's promise, from its run -/
theorem law_sp {K : PySem.W.Frag} {f : Fn} {H : Hp} {a : Addr} {ns : List Int} (hS : SqL K H a (ns.map V.int)) (hf : ∃ st, f [.scr ns] [] = .ok st false (.bl true)) : spF (nmOf K) K 1 f [.ref a] H (fun v _ => v = .bl true) fun _ _ _ => False := by
  obtain ⟨st, hf⟩ := hf
  refine ⟨rfl, ⟨H, []⟩, [.scr ns], [], ⟨rfl, fun _ _ h => h, fun i s h => (by cases h), fun i j s t p h => (by cases h), rfl, fun n p c h => (by cases h), fun p h => (by cases h), List.nodup_nil⟩, .cons (.scr hS) .nil, ?_⟩
  rw [hf]
  intro Ω' H' v S t r
  rcases r with ⟨_, r⟩ | ⟨z, _⟩
  · cases r; rfl
  · cases z
end PD

set_option Elab.async false
set_option linter.all false
set_option maxRecDepth 100000
/-! PD28: a law by its run. -/
namespace PD
open PySem PySem.Spec PyProof.Rows L2
theorem cx_no {P : Program} {w : World} {H : Hp} {s : Shared} {e : Value} {s' : Shared} (h : L2.CX P w [] H s (fun _ _ _ => False) e s') : False := by
  obtain ⟨a, B, H', cls, d, _, _, _, _, _, _, _, z⟩ := h
  exact z
theorem walk_pd {l : PySem.W.OpenLaw} {n k : Nat} {q : Program} {loose : List Str} {XP : (Str → Option Value) → Heap → Prop} {YP : World → Heap → Prop} {d : DefRec} {x : Str} {f : Fn}
    (hn : l.most = some n) (hn2 : n ≤ sizeLine) (hdf : d.params.defaults = []) (hr : Room k callerA)
    (F : ∀ (w : World) (mg : Str → Option Value) (fa : Addr) (h : Heap), YP w h → h.Ns mainGlobals mg → mg d.name = some (.ref fa) → ∃ (K : PySem.W.Frag) (fd : FuncData), K.In h ∧ (∀ (s : Shared) (u : Value), BindsTo s fd ⟨[u], []⟩ [(x, u)]) ∧
        ∀ base : Heap, K.In base → base.Ns mainGlobals mg → FnOk l.prog w K mg base (L2.CX l.prog w) k fa fd [x] (spF (nmOf K) K 1 f))
    (hf : ∀ ns : List Int, ns.length ≤ n → (∀ i ∈ ns, Builtin.Int.intBits i ≤ 1048576) → ∃ st, f [.scr ns] [] = .ok st false (.bl true)) : PySem.W.WalkO q loose XP YP l.row.toRowW d [] (fun f vs => PySem.call f vs) := by
  refine Att.attach_callB hn hdf fun w s₀ s₁ mg mb fa o pm cd doc a vs ns G Y ho hd hcd hmg hobj hints hlen hbits hg => ?_
  obtain ⟨K, fd, KX, hb, hF⟩ := F w mg fa _ Y G.T.g hmg
  exact law_call KX G.T.g G.T.b G.T.builtins G.T.nolimit hg hobj hints (Nat.le_trans hlen hn2) hr hF hb (fun H _ hS => law_sp hS (hf ns hlen hbits)) fun H e s' h => cx_no h
end PD

set_option Elab.async false
set_option linter.all false
set_option maxRecDepth 100000
set_option maxHeartbeats 0
namespace PW
open PySem PySem.Spec L2 PD
def top (i : Nat) : Stmt := PySem.Challenge.pw_stuckwires_k63_texts_of_no_fault.main.body.getD i (.Pass ⟨0, 0, 0, 0⟩)
abbrev FnP (K : PySem.W.Frag) (x : Str) (st : Stmt) (f : Addr) (fd : FuncData) : Prop := FunD K x x (defArgs st) (defBody st) (defScope st) [] [] f fd

structure Fx (N : Nm) (K : PySem.W.Frag) (mg : Str → Option Value) : Prop where
  isk : IsK N K
  mgx : ∀ e : Ex, mg (match e with | .stuck => "StuckError" | .works => "NoWorks" | .row => "NoRow" | .fault => "NoFault" | .text => "NoText" | .order => "NoOrder" | .many => "TooMany") = some (.ref (N.ex e))
  raises : ∀ e : Ex, ∃ (bmB : List Value) (B newId initId : String), ExcBaseFacts B newId initId bmB ∧ PySem.W.excIn K (N.ex e) bmB newId = true ∧ PySem.W.keepIn K (.ref (N.ex e)) = true ∧ PySem.W.subIn K (.ref (N.ex e)) (.type "BaseException") = some true ∧ PySem.W.typeIn K (.ref (N.ex e)) = some (.type "type")
  catx : ∀ c e : Ex, PySem.W.exmOne K (.ref (N.ex c)) (.ref (N.ex e)) = some (exUnder c e)
  b_len : mg "len" = none
  b_range : mg "range" = none
  b_int : mg "int" = none
  b_str : mg "str" = none
  b_list : mg "list" = none
  b_tuple : mg "tuple" = none
  b_dict : mg "dict" = none
  b_set : mg "set" = none
  b_sorted : mg "sorted" = none
  b_min : mg "min" = none
  b_max : mg "max" = none
  b_sum : mg "sum" = none
  b_all : mg "all" = none
  b_any : mg "any" = none
  b_isinstance : mg "isinstance" = none
  b_enumerate : mg "enumerate" = none
  b_zip : mg "zip" = none
  b_ValueError : mg "ValueError" = none
  b_bool : mg "bool" = none

def exNm : Ex → Str := fun e => match e with | .stuck => "StuckError" | .works => "NoWorks" | .row => "NoRow" | .fault => "NoFault" | .text => "NoText" | .order => "NoOrder" | .many => "TooMany"
section
variable {N : Nm} {K : PySem.W.Frag} {mg : Str → Option Value}
theorem Fx.exk (fx : Fx N K mg) {X : Cx} {e : Ex} {x : Str} (hK : X.K = K) (hm : X.mg = mg) (hx : x = exNm e := by rfl) : ExK N X x e := by
  subst hK hm hx
  obtain ⟨b, B, n1, n2, h1, h2, h3, h4, h5⟩ := fx.raises e
  exact ⟨⟨b, B, n1, n2, h1, h2, h3, raises_own h4 h5⟩, fx.mgx e⟩
theorem Fx.cat (fx : Fx N K mg) {X : Cx} {e : Ex} {x : Str} (hK : X.K = K) (hm : X.mg = mg) (hx : x = exNm e := by rfl) (hg : Gl X x := by rfl) (hd : (x == ("__debug__" : Str)) = false := by rfl) : CatK N X x e := by
  subst hK hm hx
  exact ⟨⟨hg, hd, .inl (fx.mgx e)⟩, fun c => fx.catx c e⟩
end

def i_number_in : List S := [.ifs (.or_ (.op .eq [(.var 0), (.str "")]) (.or_ (.and_ (.op .eq [(.op .item [(.var 0), (.int 0)]), (.str "0")]) (.op .ne [(.var 0), (.str "0")])) (.op .ne [(.comp [1] 5 [(.var 0)] (.name 1) (some (.op .notin [(.var 1), (.str "0123456789")])) (.var 1)), (.lst [])]))) [.raise .text] [], .ret (.op .toInt [(.var 0)])]
def f_number_in : Fn := fnOf 2 i_number_in
theorem sc_number_in : FnScope ["word", "sign"] ["word"] (defScope (top 10)) := ⟨rfl, rfl, rfl, by decide +kernel, rfl, by decide +kernel, by decide +kernel⟩
theorem k_number_in {N : Nm} {P : Program} {w : World} {K : PySem.W.Frag} {mg : Str → Option Value} {base : Heap} {f : Addr} {fd : FuncData} (fx : Fx N K mg) {tok_FIGURES : Tok} (c_FIGURES : mg "FIGURES" = some (.str "0123456789" tok_FIGURES)) (FD : FnP K "number_in" (top 10) f fd) :
    FnOk P w K mg base (L2.CX P w) 1 f fd ["word"] (spF N K 1 f_number_in) :=
  have ND := sc_number_in.nd
  def_ok FD sc_number_in (by decide) (fun cdv A outer s H E hr =>
    (xb_cons (xs_if (xt_w (xw_or (xt_cmp (o_eq (rm64 hr)) (xr_name (i := 0) rfl (by first | exact .inl rfl | exact .inr (.inl rfl) | exact .inr (.inr rfl)) rfl rfl) xr_str rfl) (xw_or (xt_w (xw_and (xt_cmp (o_eq (rm64 hr)) (xr_item (rm1 hr) (xr_name (i := 0) rfl (by first | exact .inl rfl | exact .inr (.inl rfl) | exact .inr (.inr rfl)) rfl rfl) xr_int (fun _ _ => rfl)) xr_str rfl) (xw_and1 (xt_cmp (o_ne (rm64 hr)) (xr_name (i := 0) rfl (by first | exact .inl rfl | exact .inr (.inl rfl) | exact .inr (.inr rfl)) rfl rfl) xr_str rfl)))) (xw_or1 (xt_cmp (o_ne (rm64 hr)) (xr_comp rfl rfl cx_takes rfl ND (xi_str (xr_name (i := 0) rfl (by first | exact .inl rfl | exact .inr (.inl rfl) | exact .inr (.inr rfl)) rfl rfl)) (blkOk_by (own := [("sign", 1)]) (by kernel_rfl)) rfl (fun _ _ _ _ _ _ => (xg_name (i := 1) ND rfl (by first | exact .inl rfl | exact .inr rfl) (by first | exact .inl rfl | exact .inr rfl))) (fun W1 _ _ _ _ _ _ tk1 => (pts_some (xt_cmp (o_notin (rm65 hr)) (xr_name (i := 1) rfl (by first | exact .inl rfl | exact .inr (.inl rfl) | exact .inr (.inr rfl)) rfl rfl) (xr_gstr rfl c_FIGURES) rfl))) (fun W1 _ _ _ _ _ _ tk1 => (xr_name (i := 1) rfl (by first | exact .inl rfl | exact .inr (.inl rfl) | exact .inr (.inr rfl)) rfl rfl)) (fun _ => rfl)) (xr_lst xv_nil (by decide)) rfl))))) (xb_cons (xs_raise rfl cx_takes (fx.exk rfl rfl) rfl rfl)
    xb_nil) xb_nil)
    (xb_cons (xs_ret (xr_callT1 c_int rfl fx.b_int rfl (xr_name (i := 0) rfl (by first | exact .inl rfl | exact .inr (.inl rfl) | exact .inr (.inr rfl)) rfl rfl) rfl) (by intro k z; cases z))
    xb_nil)))

def i_read_fault : List S := [.set 1 (.meth .split [(.var 0)] [(.str " ")]), .ifs (.or_ (.op .notin [(.lst [(.op .item [(.var 1), (.int 0)]), (.op .len [(.var 1)])]), (.lst [(.lst [(.str "wire"), (.int 3)]), (.lst [(.str "leg"), (.int 4)])])]) (.op .notin [(.op .item [(.var 1), (.op .neg [(.int 1)])]), (.tup [(.str "0"), (.str "1")])])) [.raise .text] [], .ret (.op .toTup [(.op .add [(.op .slHi [(.var 1), (.int 1)]), (.comp [2] 0 [(.op .slLo [(.var 1), (.int 1)])] (.name 2) none (.call f_number_in [false] [(.var 2)]))])])]
def f_read_fault : Fn := fnOf 3 i_read_fault
theorem sc_read_fault : FnScope ["text", "words", "word"] ["text"] (defScope (top 11)) := ⟨rfl, rfl, rfl, by decide +kernel, rfl, by decide +kernel, by decide +kernel⟩
theorem k_read_fault {N : Nm} {P : Program} {w : World} {K : PySem.W.Frag} {mg : Str → Option Value} {base : Heap} {f : Addr} {fd : FuncData} (fx : Fx N K mg) (G_number_in : FnG N P w K mg base 1 "number_in" 1 f_number_in) (FD : FnP K "read_fault" (top 11) f fd) :
    FnOk P w K mg base (L2.CX P w) 2 f fd ["text"] (spF N K 1 f_read_fault) :=
  have ND := sc_read_fault.nd
  def_ok FD sc_read_fault (by decide) (fun cdv A outer s H E hr =>
    (xb_cons (xs_set ND rfl (by first | exact .inl rfl | exact .inr rfl) (xr_meth1 F.plainAttrs_str F.slot_str_split F.type_str_split m_split (recv_str (.inl rfl)) (xr_name (i := 0) rfl (by first | exact .inl rfl | exact .inr (.inl rfl) | exact .inr (.inr rfl)) rfl rfl) xr_str rfl rfl rfl) rfl (by first | exact .inl rfl | exact .inr rfl))
    (xb_cons (xs_if (xt_w (xw_or (xt_cmp (o_notin (rm65 hr)) (xr_lst (xv_cons (xr_item (rm1 hr) (xr_name (i := 1) rfl (by first | exact .inl rfl | exact .inr (.inl rfl) | exact .inr (.inr rfl)) rfl rfl) xr_int (fun _ _ => rfl)) (xv_cons (xr_callB1 c_len rfl fx.b_len rfl (xr_name (i := 1) rfl (by first | exact .inl rfl | exact .inr (.inl rfl) | exact .inr (.inr rfl)) rfl rfl) rfl) xv_nil rfl) rfl) (by decide)) (xr_lst (xv_cons (xr_lst (xv_cons xr_str (xv_cons xr_int xv_nil rfl) rfl) (by decide)) (xv_cons (xr_lst (xv_cons xr_str (xv_cons xr_int xv_nil rfl) rfl) (by decide)) xv_nil rfl) rfl) (by decide)) rfl) (xw_or1 (xt_cmp (o_notin (rm65 hr)) (xr_item (rm1 hr) (xr_name (i := 1) rfl (by first | exact .inl rfl | exact .inr (.inl rfl) | exact .inr (.inr rfl)) rfl rfl) (xr_neg xr_int) (fun _ _ => rfl)) (xr_tup (xv_cons xr_str (xv_cons xr_str xv_nil rfl) rfl) (by decide)) rfl)))) (xb_cons (xs_raise rfl cx_takes (fx.exk rfl rfl) rfl rfl)
    xb_nil) xb_nil)
    (xb_cons (xs_ret (xr_callT1 c_tuple rfl fx.b_tuple rfl (xr_bin o_add (xr_slHi (xr_name (i := 1) rfl (by first | exact .inl rfl | exact .inr (.inl rfl) | exact .inr (.inr rfl)) rfl rfl) xr_int) (xr_comp rfl rfl cx_takes rfl ND (xi_seq (xr_slLo (xr_name (i := 1) rfl (by first | exact .inl rfl | exact .inr (.inl rfl) | exact .inr (.inr rfl)) rfl rfl) xr_int)) (blkOk_by (own := [("word", 2)]) (by kernel_rfl)) rfl (fun _ _ _ _ _ _ => (xg_name (i := 2) ND rfl (by first | exact .inl rfl | exact .inr rfl) (by first | exact .inl rfl | exact .inr rfl))) (fun W1 _ _ _ _ _ _ tk1 => pts_none) (fun W1 _ _ _ _ _ _ tk1 => (xr_call (G_number_in.fk hr) tk1 rfl (xa_val (xr_name (i := 2) rfl (by first | exact .inl rfl | exact .inr (.inl rfl) | exact .inr (.inr rfl)) rfl rfl) xa_nil rfl) rfl rfl rfl rfl)) (fun _ => rfl))) rfl) (by intro k z; cases z))
    xb_nil))))

def i__law_stir : List S := [.set 2 (.op .add [(.op .add [(.op .mul [(.op .mod [(.var 0), (.op .pow [(.int 10), (.int 40)])]), (.int 48271)]), (.op .mul [(.op .mul [(.op .pow [(.int 3), (.int 60)]), (.op .add [(.var 1), (.int 1)])]), (.op .add [(.var 1), (.int 1)])])]), (.var 1)]), .set 2 (.op .add [(.op .mul [(.var 2), (.var 2)]), (.op .mul [(.int 69621), (.var 2)])]), .ret (.op .fdiv [(.op .mod [(.op .mul [(.var 2), (.var 2)]), (.op .add [(.op .pow [(.int 10), (.int 61)]), (.int 7)])]), (.int 8)])]
def f__law_stir : Fn := fnOf 3 i__law_stir
theorem sc__law_stir : FnScope ["cell", "k", "number"] ["cell", "k"] (defScope (top 13)) := ⟨rfl, rfl, rfl, by decide +kernel, rfl, by decide +kernel, by decide +kernel⟩
theorem k__law_stir {N : Nm} {P : Program} {w : World} {K : PySem.W.Frag} {mg : Str → Option Value} {base : Heap} {f : Addr} {fd : FuncData} (fx : Fx N K mg) (FD : FnP K "_law_stir" (top 13) f fd) :
    FnOk P w K mg base (L2.CX P w) 1 f fd ["cell", "k"] (spF N K 2 f__law_stir) :=
  have ND := sc__law_stir.nd
  def_ok FD sc__law_stir (by decide) (fun cdv A outer s H E hr =>
    (xb_cons (xs_set ND rfl (by first | exact .inl rfl | exact .inr rfl) (xr_bin o_add (xr_bin o_add (xr_bin o_mul (xr_bin o_mod (xr_name (i := 0) rfl (by first | exact .inl rfl | exact .inr (.inl rfl) | exact .inr (.inr rfl)) rfl rfl) (xr_bin o_pow xr_int xr_int)) xr_int) (xr_bin o_mul (xr_bin o_mul (xr_bin o_pow xr_int xr_int) (xr_bin o_add (xr_name (i := 1) rfl (by first | exact .inl rfl | exact .inr (.inl rfl) | exact .inr (.inr rfl)) rfl rfl) xr_int)) (xr_bin o_add (xr_name (i := 1) rfl (by first | exact .inl rfl | exact .inr (.inl rfl) | exact .inr (.inr rfl)) rfl rfl) xr_int))) (xr_name (i := 1) rfl (by first | exact .inl rfl | exact .inr (.inl rfl) | exact .inr (.inr rfl)) rfl rfl)) rfl (by first | exact .inl rfl | exact .inr rfl))
    (xb_cons (xs_set ND rfl (by first | exact .inl rfl | exact .inr rfl) (xr_bin o_add (xr_bin o_mul (xr_name (i := 2) rfl (by first | exact .inl rfl | exact .inr (.inl rfl) | exact .inr (.inr rfl)) rfl rfl) (xr_name (i := 2) rfl (by first | exact .inl rfl | exact .inr (.inl rfl) | exact .inr (.inr rfl)) rfl rfl)) (xr_bin o_mul xr_int (xr_name (i := 2) rfl (by first | exact .inl rfl | exact .inr (.inl rfl) | exact .inr (.inr rfl)) rfl rfl))) rfl (by first | exact .inl rfl | exact .inr rfl))
    (xb_cons (xs_ret (xr_bin o_fdiv (xr_bin o_mod (xr_bin o_mul (xr_name (i := 2) rfl (by first | exact .inl rfl | exact .inr (.inl rfl) | exact .inr (.inr rfl)) rfl rfl) (xr_name (i := 2) rfl (by first | exact .inl rfl | exact .inr (.inl rfl) | exact .inr (.inr rfl)) rfl rfl)) (xr_bin o_add (xr_bin o_pow xr_int xr_int) xr_int)) xr_int) (by intro k z; cases z))
    xb_nil))))

def i__law_deck : List S := [.ifs (.op .ge [(.var 0), (.op .pow [(.int 10), (.int 18)])]) [.ret (.lst [(.op .sub [(.var 0), (.op .pow [(.int 10), (.int 18)])])])] [], .ret (.lst [(.op .add [(.op .mul [(.op .add [(.op .mul [(.call f__law_stir [false, false] [(.var 0), (.int 1)]), (.op .pow [(.int 10), (.int 60)])]), (.call f__law_stir [false, false] [(.var 0), (.int 2)])]), (.op .pow [(.int 10), (.int 60)])]), (.call f__law_stir [false, false] [(.var 0), (.int 3)])])])]
def f__law_deck : Fn := fnOf 1 i__law_deck
theorem sc__law_deck : FnScope ["cell"] ["cell"] (defScope (top 14)) := ⟨rfl, rfl, rfl, by decide +kernel, rfl, by decide +kernel, by decide +kernel⟩
theorem k__law_deck {N : Nm} {P : Program} {w : World} {K : PySem.W.Frag} {mg : Str → Option Value} {base : Heap} {f : Addr} {fd : FuncData} (fx : Fx N K mg) (G__law_stir : FnG N P w K mg base 1 "_law_stir" 2 f__law_stir) (FD : FnP K "_law_deck" (top 14) f fd) :
    FnOk P w K mg base (L2.CX P w) 2 f fd ["cell"] (spF N K 1 f__law_deck) :=
  have ND := sc__law_deck.nd
  def_ok FD sc__law_deck (by decide) (fun cdv A outer s H E hr =>
    (xb_cons (xs_if (xt_cmp o_ge (xr_name (i := 0) rfl (by first | exact .inl rfl | exact .inr (.inl rfl) | exact .inr (.inr rfl)) rfl rfl) (xr_bin o_pow xr_int xr_int) rfl) (xb_cons (xs_ret (xr_lst (xv_cons (xr_bin o_sub (xr_name (i := 0) rfl (by first | exact .inl rfl | exact .inr (.inl rfl) | exact .inr (.inr rfl)) rfl rfl) (xr_bin o_pow xr_int xr_int)) xv_nil rfl) (by decide)) (by intro k z; cases z))
    xb_nil) xb_nil)
    (xb_cons (xs_ret (xr_lst (xv_cons (xr_bin o_add (xr_bin o_mul (xr_bin o_add (xr_bin o_mul (xr_call (G__law_stir.fk hr) (tk_of cx_takes) rfl (xa_val (xr_name (i := 0) rfl (by first | exact .inl rfl | exact .inr (.inl rfl) | exact .inr (.inr rfl)) rfl rfl) (xa_val xr_int xa_nil rfl) rfl) rfl rfl rfl rfl) (xr_bin o_pow xr_int xr_int)) (xr_call (G__law_stir.fk hr) (tk_of cx_takes) rfl (xa_val (xr_name (i := 0) rfl (by first | exact .inl rfl | exact .inr (.inl rfl) | exact .inr (.inr rfl)) rfl rfl) (xa_val xr_int xa_nil rfl) rfl) rfl rfl rfl rfl)) (xr_bin o_pow xr_int xr_int)) (xr_call (G__law_stir.fk hr) (tk_of cx_takes) rfl (xa_val (xr_name (i := 0) rfl (by first | exact .inl rfl | exact .inr (.inl rfl) | exact .inr (.inr rfl)) rfl rfl) (xa_val xr_int xa_nil rfl) rfl) rfl rfl rfl rfl)) xv_nil rfl) (by decide)) (by intro k z; cases z))
    xb_nil)))

def i__law_take : List S := [.set 2 (.op .mod [(.op .item [(.var 0), (.int 0)]), (.var 1)]), .setItem 0 (.int 0) (.op .fdiv [(.op .item [(.var 0), (.int 0)]), (.var 1)]), .ret (.var 2)]
def f__law_take : Fn := fnOf 3 i__law_take
theorem sc__law_take : FnScope ["deck", "many", "taken"] ["deck", "many"] (defScope (top 15)) := ⟨rfl, rfl, rfl, by decide +kernel, rfl, by decide +kernel, by decide +kernel⟩
theorem k__law_take {N : Nm} {P : Program} {w : World} {K : PySem.W.Frag} {mg : Str → Option Value} {base : Heap} {f : Addr} {fd : FuncData} (fx : Fx N K mg) (FD : FnP K "_law_take" (top 15) f fd) :
    FnOk P w K mg base (L2.CX P w) 1 f fd ["deck", "many"] (spF N K 2 f__law_take) :=
  have ND := sc__law_take.nd
  def_ok FD sc__law_take (by decide) (fun cdv A outer s H E hr =>
    (xb_cons (xs_set ND rfl (by first | exact .inl rfl | exact .inr rfl) (xr_bin o_mod (xr_item (rm1 hr) (xr_name (i := 0) rfl (by first | exact .inl rfl | exact .inr (.inl rfl) | exact .inr (.inr rfl)) rfl rfl) xr_int (fun _ _ => rfl)) (xr_name (i := 1) rfl (by first | exact .inl rfl | exact .inr (.inl rfl) | exact .inr (.inr rfl)) rfl rfl)) rfl (by first | exact .inl rfl | exact .inr rfl))
    (xb_cons (xs_setItem (i := 0) (rm1 hr) rfl (by first | exact .inl rfl | exact .inr (.inl rfl) | exact .inr (.inr rfl)) rfl rfl xr_int (xr_bin o_fdiv (xr_item (rm1 hr) (xr_name (i := 0) rfl (by first | exact .inl rfl | exact .inr (.inl rfl) | exact .inr (.inr rfl)) rfl rfl) xr_int (fun _ _ => rfl)) (xr_name (i := 1) rfl (by first | exact .inl rfl | exact .inr (.inl rfl) | exact .inr (.inr rfl)) rfl rfl)) (fun _ => rfl) rfl rfl rfl)
    (xb_cons (xs_retV (pe_var (i := 2) rfl (by first | exact .inl rfl | exact .inr (.inl rfl) | exact .inr (.inr rfl)) rfl rfl))
    xb_nil))))

def i__law_text : List S := [.set 1 (.op .item [(.lst [(.int 26), (.op .pow [(.int 10), (.int 40)])]), (.call f__law_take [true, false] [(.var 0), (.int 2)])]), .set 2 (.op .item [(.lst [(.lst [(.str "wire")]), (.lst [(.str "leg"), (.op .toStr [(.call f__law_take [true, false] [(.var 0), (.var 1)])])])]), (.call f__law_take [true, false] [(.var 0), (.int 2)])]), .ret (.meth .join [(.str " ")] [(.op .add [(.var 2), (.lst [(.op .toStr [(.call f__law_take [true, false] [(.var 0), (.var 1)])]), (.op .toStr [(.call f__law_take [true, false] [(.var 0), (.int 2)])])])])])]
def f__law_text : Fn := fnOf 3 i__law_text
theorem sc__law_text : FnScope ["deck", "far", "words"] ["deck"] (defScope (top 16)) := ⟨rfl, rfl, rfl, by decide +kernel, rfl, by decide +kernel, by decide +kernel⟩
theorem k__law_text {N : Nm} {P : Program} {w : World} {K : PySem.W.Frag} {mg : Str → Option Value} {base : Heap} {f : Addr} {fd : FuncData} (fx : Fx N K mg) (G__law_take : FnG N P w K mg base 1 "_law_take" 2 f__law_take) (FD : FnP K "_law_text" (top 16) f fd) :
    FnOk P w K mg base (L2.CX P w) 2 f fd ["deck"] (spF N K 1 f__law_text) :=
  have ND := sc__law_text.nd
  def_ok FD sc__law_text (by decide) (fun cdv A outer s H E hr =>
    (xb_cons (xs_set ND rfl (by first | exact .inl rfl | exact .inr rfl) (xr_item (rm1 hr) (xr_lst (xv_cons xr_int (xv_cons (xr_bin o_pow xr_int xr_int) xv_nil rfl) rfl) (by decide)) (xr_call (G__law_take.fk hr) (tk_of cx_takes) rfl (xa_ref (pe_var (i := 0) rfl (by first | exact .inl rfl | exact .inr (.inl rfl) | exact .inr (.inr rfl)) rfl rfl) (xa_val xr_int xa_nil rfl) rfl) rfl rfl rfl rfl) (fun _ _ => rfl)) rfl (by first | exact .inl rfl | exact .inr rfl))
    (xb_cons (xs_set ND rfl (by first | exact .inl rfl | exact .inr rfl) (xr_item (rm1 hr) (xr_lst (xv_cons (xr_lst (xv_cons xr_str xv_nil rfl) (by decide)) (xv_cons (xr_lst (xv_cons xr_str (xv_cons (xr_callT1 c_str rfl fx.b_str rfl (xr_call (G__law_take.fk hr) (tk_of cx_takes) rfl (xa_ref (pe_var (i := 0) rfl (by first | exact .inl rfl | exact .inr (.inl rfl) | exact .inr (.inr rfl)) rfl rfl) (xa_val (xr_name (i := 1) rfl (by first | exact .inl rfl | exact .inr (.inl rfl) | exact .inr (.inr rfl)) rfl rfl) xa_nil rfl) rfl) rfl rfl rfl rfl) rfl) xv_nil rfl) rfl) (by decide)) xv_nil rfl) rfl) (by decide)) (xr_call (G__law_take.fk hr) (tk_of cx_takes) rfl (xa_ref (pe_var (i := 0) rfl (by first | exact .inl rfl | exact .inr (.inl rfl) | exact .inr (.inr rfl)) rfl rfl) (xa_val xr_int xa_nil rfl) rfl) rfl rfl rfl rfl) (fun _ _ => rfl)) rfl (by first | exact .inl rfl | exact .inr rfl))
    (xb_cons (xs_ret (xr_meth1 F.plainAttrs_str F.slot_str_join F.type_str_join m_join (recv_str (.inr rfl)) xr_str (xr_bin o_add (xr_name (i := 2) rfl (by first | exact .inl rfl | exact .inr (.inl rfl) | exact .inr (.inr rfl)) rfl rfl) (xr_lst (xv_cons (xr_callT1 c_str rfl fx.b_str rfl (xr_call (G__law_take.fk hr) (tk_of cx_takes) rfl (xa_ref (pe_var (i := 0) rfl (by first | exact .inl rfl | exact .inr (.inl rfl) | exact .inr (.inr rfl)) rfl rfl) (xa_val (xr_name (i := 1) rfl (by first | exact .inl rfl | exact .inr (.inl rfl) | exact .inr (.inr rfl)) rfl rfl) xa_nil rfl) rfl) rfl rfl rfl rfl) rfl) (xv_cons (xr_callT1 c_str rfl fx.b_str rfl (xr_call (G__law_take.fk hr) (tk_of cx_takes) rfl (xa_ref (pe_var (i := 0) rfl (by first | exact .inl rfl | exact .inr (.inl rfl) | exact .inr (.inr rfl)) rfl rfl) (xa_val xr_int xa_nil rfl) rfl) rfl rfl rfl rfl) rfl) xv_nil rfl) rfl) (by decide))) rfl rfl rfl) (by intro k z; cases z))
    xb_nil))))

def i__law_read : List S := [.set 1 (.meth .split [(.var 0)] [(.str " ")]), .ifs (.or_ (.op .notin [(.op .item [(.var 1), (.int 0)]), (.tup [(.str "wire"), (.str "leg")])]) (.op .ne [(.op .len [(.var 1)]), (.op .add [(.int 3), (.op .toInt [(.op .eq [(.op .item [(.var 1), (.int 0)]), (.str "leg")])])])])) [.ret .non] [], .for_ 0 [(.op .slLo [(.var 1), (.int 1)])] (.name 2) [.ifs (.or_ (.op .eq [(.var 2), (.str "")]) (.or_ (.op .ne [(.comp [4] 5 [(.var 2)] (.name 4) (some (.op .notin [(.var 4), (.str "0123456789")])) (.var 4)), (.lst [])]) (.and_ (.op .eq [(.op .item [(.var 2), (.int 0)]), (.str "0")]) (.op .gt [(.op .len [(.var 2)]), (.int 1)])))) [.ret .non] []], .set 3 (.comp [2] 0 [(.op .slLo [(.var 1), (.int 1)])] (.name 2) none (.op .toInt [(.var 2)])), .ifs (.op .gt [(.op .item [(.var 3), (.op .neg [(.int 1)])]), (.int 1)]) [.ret .non] [], .ret (.op .toTup [(.op .add [(.op .slHi [(.var 1), (.int 1)]), (.var 3)])])]
def f__law_read : Fn := fnOf 5 i__law_read
theorem sc__law_read : FnScope ["text", "words", "word", "numbers", "sign"] ["text"] (defScope (top 17)) := ⟨rfl, rfl, rfl, by decide +kernel, rfl, by decide +kernel, by decide +kernel⟩
theorem k__law_read {N : Nm} {P : Program} {w : World} {K : PySem.W.Frag} {mg : Str → Option Value} {base : Heap} {f : Addr} {fd : FuncData} (fx : Fx N K mg) (FD : FnP K "_law_read" (top 17) f fd) :
    FnOk P w K mg base (L2.CX P w) 1 f fd ["text"] (spF N K 1 f__law_read) :=
  have ND := sc__law_read.nd
  def_ok FD sc__law_read (by decide) (fun cdv A outer s H E hr =>
    (xb_cons (xs_set ND rfl (by first | exact .inl rfl | exact .inr rfl) (xr_meth1 F.plainAttrs_str F.slot_str_split F.type_str_split m_split (recv_str (.inl rfl)) (xr_name (i := 0) rfl (by first | exact .inl rfl | exact .inr (.inl rfl) | exact .inr (.inr rfl)) rfl rfl) xr_str rfl rfl rfl) rfl (by first | exact .inl rfl | exact .inr rfl))
    (xb_cons (xs_if (xt_w (xw_or (xt_cmp (o_notin (rm65 hr)) (xr_item (rm1 hr) (xr_name (i := 1) rfl (by first | exact .inl rfl | exact .inr (.inl rfl) | exact .inr (.inr rfl)) rfl rfl) xr_int (fun _ _ => rfl)) (xr_tup (xv_cons xr_str (xv_cons xr_str xv_nil rfl) rfl) (by decide)) rfl) (xw_or1 (xt_cmp (o_ne (rm64 hr)) (xr_callB1 c_len rfl fx.b_len rfl (xr_name (i := 1) rfl (by first | exact .inl rfl | exact .inr (.inl rfl) | exact .inr (.inr rfl)) rfl rfl) rfl) (xr_bin o_add xr_int (xr_callT1 c_int rfl fx.b_int rfl (xr_cmp (o_eq (rm64 hr)) (xr_item (rm1 hr) (xr_name (i := 1) rfl (by first | exact .inl rfl | exact .inr (.inl rfl) | exact .inr (.inr rfl)) rfl rfl) xr_int (fun _ _ => rfl)) xr_str rfl) rfl)) rfl)))) (xb_cons (xs_ret xr_non (by intro k z; cases z))
    xb_nil) xb_nil)
    (xb_cons (xs_for cx_passes rfl (xi_seq (xr_slLo (xr_name (i := 1) rfl (by first | exact .inl rfl | exact .inr (.inl rfl) | exact .inr (.inr rfl)) rfl rfl) xr_int)) (xg_name (i := 2) ND rfl (by first | exact .inl rfl | exact .inr rfl) (by first | exact .inl rfl | exact .inr rfl)) (xb_cons (xs_if (xt_w (xw_or (xt_cmp (o_eq (rm64 hr)) (xr_name (i := 2) rfl (by first | exact .inl rfl | exact .inr (.inl rfl) | exact .inr (.inr rfl)) rfl rfl) xr_str rfl) (xw_or (xt_cmp (o_ne (rm64 hr)) (xr_comp rfl rfl cx_takes rfl ND (xi_str (xr_name (i := 2) rfl (by first | exact .inl rfl | exact .inr (.inl rfl) | exact .inr (.inr rfl)) rfl rfl)) (blkOk_by (own := [("sign", 4)]) (by kernel_rfl)) rfl (fun _ _ _ _ _ _ => (xg_name (i := 4) ND rfl (by first | exact .inl rfl | exact .inr rfl) (by first | exact .inl rfl | exact .inr rfl))) (fun W1 _ _ _ _ _ _ tk1 => (pts_some (xt_cmp (o_notin (rm65 hr)) (xr_name (i := 4) rfl (by first | exact .inl rfl | exact .inr (.inl rfl) | exact .inr (.inr rfl)) rfl rfl) xr_str rfl))) (fun W1 _ _ _ _ _ _ tk1 => (xr_name (i := 4) rfl (by first | exact .inl rfl | exact .inr (.inl rfl) | exact .inr (.inr rfl)) rfl rfl)) (fun _ => rfl)) (xr_lst xv_nil (by decide)) rfl) (xw_or1 (xt_w (xw_and (xt_cmp (o_eq (rm64 hr)) (xr_item (rm1 hr) (xr_name (i := 2) rfl (by first | exact .inl rfl | exact .inr (.inl rfl) | exact .inr (.inr rfl)) rfl rfl) xr_int (fun _ _ => rfl)) xr_str rfl) (xw_and1 (xt_cmp o_gt (xr_callB1 c_len rfl fx.b_len rfl (xr_name (i := 2) rfl (by first | exact .inl rfl | exact .inr (.inl rfl) | exact .inr (.inr rfl)) rfl rfl) rfl) xr_int rfl)))))))) (xb_cons (xs_ret xr_non (by intro k z; cases z))
    xb_nil) xb_nil)
    xb_nil) (fun _ => rfl))
    (xb_cons (xs_setComp (i := 3) rfl rfl cx_takes rfl ND rfl rfl (sw_true rfl rfl rfl rfl) (xi_seq (xr_slLo (xr_name (i := 1) rfl (by first | exact .inl rfl | exact .inr (.inl rfl) | exact .inr (.inr rfl)) rfl rfl) xr_int)) (blkOk_by (own := [("word", 2)]) (by kernel_rfl)) rfl (fun _ _ _ _ _ _ => (xg_name (i := 2) ND rfl (by first | exact .inl rfl | exact .inr rfl) (by first | exact .inl rfl | exact .inr rfl))) (fun W1 _ _ _ _ _ _ tk1 => pts_none) (fun W1 _ _ _ _ _ _ tk1 => (xr_callT1 c_int rfl fx.b_int rfl (xr_name (i := 2) rfl (by first | exact .inl rfl | exact .inr (.inl rfl) | exact .inr (.inr rfl)) rfl rfl) rfl)) (fun _ => rfl))
    (xb_cons (xs_if (xt_cmp o_gt (xr_item (rm1 hr) (xr_name (i := 3) rfl (by first | exact .inl rfl | exact .inr (.inl rfl) | exact .inr (.inr rfl)) rfl rfl) (xr_neg xr_int) (fun _ _ => rfl)) xr_int rfl) (xb_cons (xs_ret xr_non (by intro k z; cases z))
    xb_nil) xb_nil)
    (xb_cons (xs_ret (xr_callT1 c_tuple rfl fx.b_tuple rfl (xr_bin o_add (xr_slHi (xr_name (i := 1) rfl (by first | exact .inl rfl | exact .inr (.inl rfl) | exact .inr (.inr rfl)) rfl rfl) xr_int) (xr_name (i := 3) rfl (by first | exact .inl rfl | exact .inr (.inl rfl) | exact .inr (.inr rfl)) rfl rfl)) rfl) (by intro k z; cases z))
    xb_nil)))))))

def i__law_told : List S := [.set 1 .non, .set 2 .non, .try_ [.set 2 (.call f_read_fault [false] [(.var 0)])] .stuck 3 [.set 1 (.var 3)], .ifs (.op .isN [(.var 1)]) [.ret (.var 2)] [], .ifs (.or_ (.op (.isExc [.fault, .order, .row, .works, .many]) [(.var 1)]) (.not_ (.op .isValErr [(.var 1)]))) [.ret (.str "other")] [], .ret (.op .item [(.lst [.non, (.str "other")]), (.op .toInt [(.not_ (.op (.isExc [.text]) [(.var 1)]))])])]
def f__law_told : Fn := fnOf 4 i__law_told
theorem sc__law_told : FnScope ["text", "caught", "found", "e"] ["text"] (defScope (top 18)) := ⟨rfl, rfl, rfl, by decide +kernel, rfl, by decide +kernel, by decide +kernel⟩
theorem k__law_told {N : Nm} {P : Program} {w : World} {K : PySem.W.Frag} {mg : Str → Option Value} {base : Heap} {f : Addr} {fd : FuncData} (fx : Fx N K mg) (G_read_fault : FnG N P w K mg base 2 "read_fault" 1 f_read_fault) (FD : FnP K "_law_told" (top 18) f fd) :
    FnOk P w K mg base (L2.CX P w) 3 f fd ["text"] (spF N K 1 f__law_told) :=
  have ND := sc__law_told.nd
  def_ok FD sc__law_told (by decide) (fun cdv A outer s H E hr =>
    (xb_cons (xs_set ND rfl (by first | exact .inl rfl | exact .inr rfl) xr_non rfl (by first | exact .inl rfl | exact .inr rfl))
    (xb_cons (xs_set ND rfl (by first | exact .inl rfl | exact .inr rfl) xr_non rfl (by first | exact .inl rfl | exact .inr rfl))
    (xb_cons (xs_try rfl rfl rfl ND rfl rfl (fx.cat rfl rfl) cx_takes (fun W1 _ _ tkT hpT => (xb_cons (xs_set ND rfl (by first | exact .inl rfl | exact .inr rfl) (xr_call (G_read_fault.fk hr) (tk_of tkT) rfl (xa_val (xr_name (i := 0) rfl (by first | exact .inl rfl | exact .inr (.inl rfl) | exact .inr (.inr rfl)) rfl rfl) xa_nil rfl) rfl rfl rfl rfl) rfl (by first | exact .inl rfl | exact .inr rfl))
    xb_nil)) (fun _ _ => (xb_cons (xs_set ND rfl (by first | exact .inl rfl | exact .inr rfl) (xr_name (i := 3) rfl (by first | exact .inl rfl | exact .inr (.inl rfl) | exact .inr (.inr rfl)) rfl rfl) rfl (by first | exact .inl rfl | exact .inr rfl))
    xb_nil)))
    (xb_cons (xs_if (xt_isN (xr_name (i := 1) rfl (by first | exact .inl rfl | exact .inr (.inl rfl) | exact .inr (.inr rfl)) rfl rfl)) (xb_cons (xs_retV (pe_var (i := 2) rfl (by first | exact .inl rfl | exact .inr (.inl rfl) | exact .inr (.inr rfl)) rfl rfl))
    xb_nil) xb_nil)
    (xb_cons (xs_if (xt_w (xw_or (xt_val (xr_isM fx.isk (.cons (pe_glob (v := .ref (N.ex .fault)) (by rfl) (fx.mgx .fault) (by rfl)) (by rfl) (.cons (pe_glob (v := .ref (N.ex .order)) (by rfl) (fx.mgx .order) (by rfl)) (by rfl) (.cons (pe_glob (v := .ref (N.ex .row)) (by rfl) (fx.mgx .row) (by rfl)) (by rfl) (.cons (pe_glob (v := .ref (N.ex .works)) (by rfl) (fx.mgx .works) (by rfl)) (by rfl) (.cons (pe_glob (v := .ref (N.ex .many)) (by rfl) (fx.mgx .many) (by rfl)) (by rfl) .nil))))) (by decide) (by rfl) fx.b_isinstance (xr_name (i := 1) rfl (by first | exact .inl rfl | exact .inr (.inl rfl) | exact .inr (.inr rfl)) rfl rfl) (by rfl) (by rfl)).xe (fun _ => rfl)) (xw_or1 (xt_not (xt_val (xr_is fx.isk (pe_bltn (v := .ty "ValueError") (by rfl) fx.b_ValueError (by rfl) (by rfl)) (.ty _) (opTy_val fx.isk) (by rfl) fx.b_isinstance (xr_name (i := 1) rfl (by first | exact .inl rfl | exact .inr (.inl rfl) | exact .inr (.inr rfl)) rfl rfl) (by rfl) (by rfl)).xe (fun _ => rfl)))))) (xb_cons (xs_ret xr_str (by intro k z; cases z))
    xb_nil) xb_nil)
    (xb_cons (xs_ret (xr_item (rm1 hr) (xr_lst (xv_cons xr_non (xv_cons xr_str xv_nil rfl) rfl) (by decide)) (xr_callT1 c_int rfl fx.b_int rfl (xr_not (xr_is fx.isk (pe_glob (v := .ref (N.ex .text)) (by rfl) (fx.mgx .text) (by rfl)) (.own _) (opTy_exc fx.isk _) (by rfl) fx.b_isinstance (xr_name (i := 1) rfl (by first | exact .inl rfl | exact .inr (.inl rfl) | exact .inr (.inr rfl)) rfl rfl) (by rfl) (by rfl))) rfl) (fun _ _ => rfl)) (by intro k z; cases z))
    xb_nil)))))))

def i__law_spoilt : List S := [.set 2 (.call f__law_take [true, false] [(.var 0), (.int 7)]), .set 3 (.call f__law_take [true, false] [(.var 0), (.op .add [(.op .len [(.var 1)]), (.int 1)])]), .set 4 (.op .item [(.str "0123456789 wirelgWL-+.,;_#~\n "), (.call f__law_take [true, false] [(.var 0), (.int 29)])]), .set 5 (.meth .split [(.var 1)] [(.str " ")]), .set 6 (.call f__law_take [true, false] [(.var 0), (.op .len [(.var 5)])]), .set 7 (.lst [(.str ""), (.str "0"), (.str "1"), (.str "2"), (.str "00"), (.str "01"), (.str "-1"), (.str "+1"), (.str "1_0"), (.op .mul [(.str "9"), (.int 50)]), (.str "wire"), (.str "leg"), (.str "Wire"), (.str "legs"), (.str "x"), (.str "10")]), .ifs (.op .eq [(.var 2), (.int 0)]) [.ret (.op .add [(.op .add [(.op .slHi [(.var 1), (.var 3)]), (.var 4)]), (.op .slLo [(.var 1), (.var 3)])])] [], .ifs (.op .eq [(.var 2), (.int 1)]) [.ret (.op .add [(.op .slHi [(.var 1), (.var 3)]), (.op .slLo [(.var 1), (.op .add [(.var 3), (.int 1)])])])] [], .ifs (.op .eq [(.var 2), (.int 2)]) [.ret (.op .add [(.op .add [(.op .slHi [(.var 1), (.var 3)]), (.var 4)]), (.op .slLo [(.var 1), (.op .add [(.var 3), (.int 1)])])])] [], .ifs (.op .eq [(.var 2), (.int 3)]) [.ret (.op .item [(.lst [(.op .add [(.str " "), (.var 1)]), (.op .add [(.var 1), (.str " ")]), (.op .add [(.var 1), (.str "\n")]), (.op .rep1 [(.var 1)])]), (.call f__law_take [true, false] [(.var 0), (.int 4)])])] [], .ifs (.op .eq [(.var 2), (.int 4)]) [.insert 5 (.var 6) (.op .item [(.var 7), (.call f__law_take [true, false] [(.var 0), (.int 16)])])] [.ifs (.op .eq [(.var 2), (.int 5)]) [.popAt 5 (.var 6)] [.setItem 5 (.var 6) (.op .item [(.var 7), (.call f__law_take [true, false] [(.var 0), (.int 16)])])]], .ret (.meth .join [(.str " ")] [(.var 5)])]
def f__law_spoilt : Fn := fnOf 8 i__law_spoilt
theorem sc__law_spoilt : FnScope ["deck", "text", "way", "at", "sign", "words", "spot", "menu"] ["deck", "text"] (defScope (top 19)) := ⟨rfl, rfl, rfl, by decide +kernel, rfl, by decide +kernel, by decide +kernel⟩
theorem k__law_spoilt {N : Nm} {P : Program} {w : World} {K : PySem.W.Frag} {mg : Str → Option Value} {base : Heap} {f : Addr} {fd : FuncData} (fx : Fx N K mg) (G__law_take : FnG N P w K mg base 1 "_law_take" 2 f__law_take) (FD : FnP K "_law_spoilt" (top 19) f fd) :
    FnOk P w K mg base (L2.CX P w) 2 f fd ["deck", "text"] (spF N K 2 f__law_spoilt) :=
  have ND := sc__law_spoilt.nd
  def_ok FD sc__law_spoilt (by decide) (fun cdv A outer s H E hr =>
    (xb_cons (xs_set ND rfl (by first | exact .inl rfl | exact .inr rfl) (xr_call (G__law_take.fk hr) (tk_of cx_takes) rfl (xa_ref (pe_var (i := 0) rfl (by first | exact .inl rfl | exact .inr (.inl rfl) | exact .inr (.inr rfl)) rfl rfl) (xa_val xr_int xa_nil rfl) rfl) rfl rfl rfl rfl) rfl (by first | exact .inl rfl | exact .inr rfl))
    (xb_cons (xs_set ND rfl (by first | exact .inl rfl | exact .inr rfl) (xr_call (G__law_take.fk hr) (tk_of cx_takes) rfl (xa_ref (pe_var (i := 0) rfl (by first | exact .inl rfl | exact .inr (.inl rfl) | exact .inr (.inr rfl)) rfl rfl) (xa_val (xr_bin o_add (xr_callB1 c_len rfl fx.b_len rfl (xr_name (i := 1) rfl (by first | exact .inl rfl | exact .inr (.inl rfl) | exact .inr (.inr rfl)) rfl rfl) rfl) xr_int) xa_nil rfl) rfl) rfl rfl rfl rfl) rfl (by first | exact .inl rfl | exact .inr rfl))
    (xb_cons (xs_set ND rfl (by first | exact .inl rfl | exact .inr rfl) (xr_item (rm1 hr) xr_str (xr_call (G__law_take.fk hr) (tk_of cx_takes) rfl (xa_ref (pe_var (i := 0) rfl (by first | exact .inl rfl | exact .inr (.inl rfl) | exact .inr (.inr rfl)) rfl rfl) (xa_val xr_int xa_nil rfl) rfl) rfl rfl rfl rfl) (fun _ _ => rfl)) rfl (by first | exact .inl rfl | exact .inr rfl))
    (xb_cons (xs_set ND rfl (by first | exact .inl rfl | exact .inr rfl) (xr_meth1 F.plainAttrs_str F.slot_str_split F.type_str_split m_split (recv_str (.inl rfl)) (xr_name (i := 1) rfl (by first | exact .inl rfl | exact .inr (.inl rfl) | exact .inr (.inr rfl)) rfl rfl) xr_str rfl rfl rfl) rfl (by first | exact .inl rfl | exact .inr rfl))
    (xb_cons (xs_set ND rfl (by first | exact .inl rfl | exact .inr rfl) (xr_call (G__law_take.fk hr) (tk_of cx_takes) rfl (xa_ref (pe_var (i := 0) rfl (by first | exact .inl rfl | exact .inr (.inl rfl) | exact .inr (.inr rfl)) rfl rfl) (xa_val (xr_callB1 c_len rfl fx.b_len rfl (xr_name (i := 5) rfl (by first | exact .inl rfl | exact .inr (.inl rfl) | exact .inr (.inr rfl)) rfl rfl) rfl) xa_nil rfl) rfl) rfl rfl rfl rfl) rfl (by first | exact .inl rfl | exact .inr rfl))
    (xb_cons (xs_set ND rfl (by first | exact .inl rfl | exact .inr rfl) (xr_lst (xv_cons xr_str (xv_cons xr_str (xv_cons xr_str (xv_cons xr_str (xv_cons xr_str (xv_cons xr_str (xv_cons xr_str (xv_cons xr_str (xv_cons xr_str (xv_cons (xr_bin o_mul xr_str xr_int) (xv_cons xr_str (xv_cons xr_str (xv_cons xr_str (xv_cons xr_str (xv_cons xr_str (xv_cons xr_str xv_nil rfl) rfl) rfl) rfl) rfl) rfl) rfl) rfl) rfl) rfl) rfl) rfl) rfl) rfl) rfl) rfl) (by decide)) rfl (by first | exact .inl rfl | exact .inr rfl))
    (xb_cons (xs_if (xt_cmp (o_eq (rm64 hr)) (xr_name (i := 2) rfl (by first | exact .inl rfl | exact .inr (.inl rfl) | exact .inr (.inr rfl)) rfl rfl) xr_int rfl) (xb_cons (xs_ret (xr_bin o_add (xr_bin o_add (xr_slHi (xr_name (i := 1) rfl (by first | exact .inl rfl | exact .inr (.inl rfl) | exact .inr (.inr rfl)) rfl rfl) (xr_name (i := 3) rfl (by first | exact .inl rfl | exact .inr (.inl rfl) | exact .inr (.inr rfl)) rfl rfl)) (xr_name (i := 4) rfl (by first | exact .inl rfl | exact .inr (.inl rfl) | exact .inr (.inr rfl)) rfl rfl)) (xr_slLo (xr_name (i := 1) rfl (by first | exact .inl rfl | exact .inr (.inl rfl) | exact .inr (.inr rfl)) rfl rfl) (xr_name (i := 3) rfl (by first | exact .inl rfl | exact .inr (.inl rfl) | exact .inr (.inr rfl)) rfl rfl))) (by intro k z; cases z))
    xb_nil) xb_nil)
    (xb_cons (xs_if (xt_cmp (o_eq (rm64 hr)) (xr_name (i := 2) rfl (by first | exact .inl rfl | exact .inr (.inl rfl) | exact .inr (.inr rfl)) rfl rfl) xr_int rfl) (xb_cons (xs_ret (xr_bin o_add (xr_slHi (xr_name (i := 1) rfl (by first | exact .inl rfl | exact .inr (.inl rfl) | exact .inr (.inr rfl)) rfl rfl) (xr_name (i := 3) rfl (by first | exact .inl rfl | exact .inr (.inl rfl) | exact .inr (.inr rfl)) rfl rfl)) (xr_slLo (xr_name (i := 1) rfl (by first | exact .inl rfl | exact .inr (.inl rfl) | exact .inr (.inr rfl)) rfl rfl) (xr_bin o_add (xr_name (i := 3) rfl (by first | exact .inl rfl | exact .inr (.inl rfl) | exact .inr (.inr rfl)) rfl rfl) xr_int))) (by intro k z; cases z))
    xb_nil) xb_nil)
    (xb_cons (xs_if (xt_cmp (o_eq (rm64 hr)) (xr_name (i := 2) rfl (by first | exact .inl rfl | exact .inr (.inl rfl) | exact .inr (.inr rfl)) rfl rfl) xr_int rfl) (xb_cons (xs_ret (xr_bin o_add (xr_bin o_add (xr_slHi (xr_name (i := 1) rfl (by first | exact .inl rfl | exact .inr (.inl rfl) | exact .inr (.inr rfl)) rfl rfl) (xr_name (i := 3) rfl (by first | exact .inl rfl | exact .inr (.inl rfl) | exact .inr (.inr rfl)) rfl rfl)) (xr_name (i := 4) rfl (by first | exact .inl rfl | exact .inr (.inl rfl) | exact .inr (.inr rfl)) rfl rfl)) (xr_slLo (xr_name (i := 1) rfl (by first | exact .inl rfl | exact .inr (.inl rfl) | exact .inr (.inr rfl)) rfl rfl) (xr_bin o_add (xr_name (i := 3) rfl (by first | exact .inl rfl | exact .inr (.inl rfl) | exact .inr (.inr rfl)) rfl rfl) xr_int))) (by intro k z; cases z))
    xb_nil) xb_nil)
    (xb_cons (xs_if (xt_cmp (o_eq (rm64 hr)) (xr_name (i := 2) rfl (by first | exact .inl rfl | exact .inr (.inl rfl) | exact .inr (.inr rfl)) rfl rfl) xr_int rfl) (xb_cons (xs_ret (xr_item (rm1 hr) (xr_lst (xv_spend (xr_name (i := 1) rfl (by first | exact .inl rfl | exact .inr (.inl rfl) | exact .inr (.inr rfl)) rfl rfl) (xvt_cons (xrt_of (xr_bin o_add (xr_name (i := 1) rfl (by first | exact .inl rfl | exact .inr (.inl rfl) | exact .inr (.inr rfl)) rfl rfl) xr_str)) (xvt_cons (xrt_of (xr_bin o_add (xr_name (i := 1) rfl (by first | exact .inl rfl | exact .inr (.inl rfl) | exact .inr (.inr rfl)) rfl rfl) xr_str)) (xvt_cons (xrt_rep (xr_name (i := 1) rfl (by first | exact .inl rfl | exact .inr (.inl rfl) | exact .inr (.inr rfl)) rfl rfl) rfl rfl rfl) xvt_nil rfl) rfl) rfl) rfl) (by decide)) (xr_call (G__law_take.fk hr) (tk_of cx_takes) rfl (xa_ref (pe_var (i := 0) rfl (by first | exact .inl rfl | exact .inr (.inl rfl) | exact .inr (.inr rfl)) rfl rfl) (xa_val xr_int xa_nil rfl) rfl) rfl rfl rfl rfl) (fun _ _ => rfl)) (by intro k z; cases z))
    xb_nil) xb_nil)
    (xb_cons (xs_if (xt_cmp (o_eq (rm64 hr)) (xr_name (i := 2) rfl (by first | exact .inl rfl | exact .inr (.inl rfl) | exact .inr (.inr rfl)) rfl rfl) xr_int rfl) (xb_cons (xs_insert (i := 5) rfl (by first | exact .inl rfl | exact .inr (.inl rfl) | exact .inr (.inr rfl)) rfl rfl (xr_name (i := 6) rfl (by first | exact .inl rfl | exact .inr (.inl rfl) | exact .inr (.inr rfl)) rfl rfl) (xr_item (rm1 hr) (xr_name (i := 7) rfl (by first | exact .inl rfl | exact .inr (.inl rfl) | exact .inr (.inr rfl)) rfl rfl) (xr_call (G__law_take.fk hr) (tk_of cx_takes) rfl (xa_ref (pe_var (i := 0) rfl (by first | exact .inl rfl | exact .inr (.inl rfl) | exact .inr (.inr rfl)) rfl rfl) (xa_val xr_int xa_nil rfl) rfl) rfl rfl rfl rfl) (fun _ _ => rfl)) rfl rfl rfl rfl)
    xb_nil) (xb_cons (xs_if (xt_cmp (o_eq (rm64 hr)) (xr_name (i := 2) rfl (by first | exact .inl rfl | exact .inr (.inl rfl) | exact .inr (.inr rfl)) rfl rfl) xr_int rfl) (xb_cons (xs_popAt (i := 5) rfl (by first | exact .inl rfl | exact .inr (.inl rfl) | exact .inr (.inr rfl)) rfl rfl (xr_name (i := 6) rfl (by first | exact .inl rfl | exact .inr (.inl rfl) | exact .inr (.inr rfl)) rfl rfl) rfl rfl rfl)
    xb_nil) (xb_cons (xs_setItem (i := 5) (rm1 hr) rfl (by first | exact .inl rfl | exact .inr (.inl rfl) | exact .inr (.inr rfl)) rfl rfl (xr_name (i := 6) rfl (by first | exact .inl rfl | exact .inr (.inl rfl) | exact .inr (.inr rfl)) rfl rfl) (xr_item (rm1 hr) (xr_name (i := 7) rfl (by first | exact .inl rfl | exact .inr (.inl rfl) | exact .inr (.inr rfl)) rfl rfl) (xr_call (G__law_take.fk hr) (tk_of cx_takes) rfl (xa_ref (pe_var (i := 0) rfl (by first | exact .inl rfl | exact .inr (.inl rfl) | exact .inr (.inr rfl)) rfl rfl) (xa_val xr_int xa_nil rfl) rfl) rfl rfl rfl rfl) (fun _ _ => rfl)) (fun _ => rfl) rfl rfl rfl)
    xb_nil))
    xb_nil))
    (xb_cons (xs_ret (xr_meth1 F.plainAttrs_str F.slot_str_join F.type_str_join m_join (recv_str (.inr rfl)) xr_str (xr_name (i := 5) rfl (by first | exact .inl rfl | exact .inr (.inl rfl) | exact .inr (.inr rfl)) rfl rfl) rfl rfl rfl) (by intro k z; cases z))
    xb_nil)))))))))))))

def i_law : List S := [.for_ 0 [(.op .add [(.lst [(.op .pow [(.int 10), (.int 18)])]), (.op .slHi [(.var 0), (.int 30)])])] (.name 1) [.set 3 (.call f__law_deck [false] [(.var 1)]), .set 4 (.call f__law_text [true] [(.var 3)]), .for_ 0 [(.op .add [(.lst [(.var 4)]), (.comp [6] 1 [(.int 3)] (.name 6) none (.call f__law_spoilt [true, false] [(.var 3), (.var 4)]))])] (.name 5) [.ifs (.op .ne [(.call f__law_told [false] [(.var 5)]), (.call f__law_read [false] [(.var 5)])]) [.ret (.bl false)] []]], .set 2 (.lst [(.str ""), (.str " "), (.str "wire"), (.str "leg"), (.str "wire 0"), (.str "wire 0 2"), (.str "wire 0 01"), (.str "leg 0 1"), (.str "leg 0 0 2"), (.str "wire 0 0 0"), (.str "well")]), .set 2 (.op .add [(.var 2), (.lst [(.str "leg 0 0 0 0"), (.str "wire 0 0\n"), (.op .add [(.str "wire 0 "), (.op .mul [(.str "1"), (.int 60)])]), (.str "leg 0 0")])]), .ret (.op .eq [(.comp [5] 0 [(.var 2)] (.name 5) (some (.op .notN [(.call f__law_told [false] [(.var 5)])])) (.var 5)), (.lst [])])]
def f_law : Fn := fnOf 7 i_law
theorem sc_law : FnScope ["script", "cell", "menu", "deck", "text", "told", "k"] ["script"] (defScope (top 20)) := ⟨rfl, rfl, rfl, by decide +kernel, rfl, by decide +kernel, by decide +kernel⟩
theorem k_law {N : Nm} {P : Program} {w : World} {K : PySem.W.Frag} {mg : Str → Option Value} {base : Heap} {f : Addr} {fd : FuncData} (fx : Fx N K mg) (G__law_deck : FnG N P w K mg base 3 "_law_deck" 1 f__law_deck) (G__law_text : FnG N P w K mg base 3 "_law_text" 1 f__law_text) (G__law_spoilt : FnG N P w K mg base 3 "_law_spoilt" 2 f__law_spoilt) (G__law_told : FnG N P w K mg base 3 "_law_told" 1 f__law_told) (G__law_read : FnG N P w K mg base 3 "_law_read" 1 f__law_read) (FD : FnP K "law" (top 20) f fd) :
    FnOk P w K mg base (L2.CX P w) 4 f fd ["script"] (spF N K 1 f_law) :=
  have ND := sc_law.nd
  def_ok FD sc_law (by decide) (fun cdv A outer s H E hr =>
    (xb_cons (xs_for cx_passes rfl (xi_seq (xr_bin o_add (xr_lst (xv_cons (xr_bin o_pow xr_int xr_int) xv_nil rfl) (by decide)) (xr_slHi (xr_name (i := 0) rfl (by first | exact .inl rfl | exact .inr (.inl rfl) | exact .inr (.inr rfl)) rfl rfl) xr_int))) (xg_name (i := 1) ND rfl (by first | exact .inl rfl | exact .inr rfl) (by first | exact .inl rfl | exact .inr rfl)) (xb_cons (xs_set ND rfl (by first | exact .inl rfl | exact .inr rfl) (xr_call (G__law_deck.fk hr) (tk_of cx_takes) rfl (xa_val (xr_name (i := 1) rfl (by first | exact .inl rfl | exact .inr (.inl rfl) | exact .inr (.inr rfl)) rfl rfl) xa_nil rfl) rfl rfl rfl rfl) rfl (by first | exact .inl rfl | exact .inr rfl))
    (xb_cons (xs_set ND rfl (by first | exact .inl rfl | exact .inr rfl) (xr_call (G__law_text.fk hr) (tk_of cx_takes) rfl (xa_ref (pe_var (i := 3) rfl (by first | exact .inl rfl | exact .inr (.inl rfl) | exact .inr (.inr rfl)) rfl rfl) xa_nil rfl) rfl rfl rfl rfl) rfl (by first | exact .inl rfl | exact .inr rfl))
    (xb_cons (xs_for cx_passes rfl (xi_seq (xr_bin o_add (xr_lst (xv_cons (xr_name (i := 4) rfl (by first | exact .inl rfl | exact .inr (.inl rfl) | exact .inr (.inr rfl)) rfl rfl) xv_nil rfl) (by decide)) (xr_comp rfl rfl cx_takes rfl ND (xi_range1 (by rfl) fx.b_range xr_int (by rfl)) (blkOk_by (own := [("k", 6)]) (by kernel_rfl)) rfl (fun _ _ _ _ _ _ => (xg_name (i := 6) ND rfl (by first | exact .inl rfl | exact .inr rfl) (by first | exact .inl rfl | exact .inr rfl))) (fun W1 _ _ _ _ _ _ tk1 => pts_none) (fun W1 _ _ _ _ _ _ tk1 => (xr_call (G__law_spoilt.fk hr) tk1 rfl (xa_ref (pe_var (i := 3) rfl (by first | exact .inl rfl | exact .inr (.inl rfl) | exact .inr (.inr rfl)) rfl rfl) (xa_val (xr_name (i := 4) rfl (by first | exact .inl rfl | exact .inr (.inl rfl) | exact .inr (.inr rfl)) rfl rfl) xa_nil rfl) rfl) rfl rfl rfl rfl)) (fun _ => rfl)))) (xg_name (i := 5) ND rfl (by first | exact .inl rfl | exact .inr rfl) (by first | exact .inl rfl | exact .inr rfl)) (xb_cons (xs_if (xt_cmp (o_ne (rm64 hr)) (xr_call (G__law_told.fk hr) (tk_of cx_takes) rfl (xa_val (xr_name (i := 5) rfl (by first | exact .inl rfl | exact .inr (.inl rfl) | exact .inr (.inr rfl)) rfl rfl) xa_nil rfl) rfl rfl rfl rfl) (xr_call (G__law_read.fk hr) (tk_of cx_takes) rfl (xa_val (xr_name (i := 5) rfl (by first | exact .inl rfl | exact .inr (.inl rfl) | exact .inr (.inr rfl)) rfl rfl) xa_nil rfl) rfl rfl rfl rfl) rfl) (xb_cons (xs_ret xr_bl (by intro k z; cases z))
    xb_nil) xb_nil)
    xb_nil) (fun _ => rfl))
    xb_nil))) (fun _ => rfl))
    (xb_cons (xs_set ND rfl (by first | exact .inl rfl | exact .inr rfl) (xr_lst (xv_cons xr_str (xv_cons xr_str (xv_cons xr_str (xv_cons xr_str (xv_cons xr_str (xv_cons xr_str (xv_cons xr_str (xv_cons xr_str (xv_cons xr_str (xv_cons xr_str (xv_cons xr_str xv_nil rfl) rfl) rfl) rfl) rfl) rfl) rfl) rfl) rfl) rfl) rfl) (by decide)) rfl (by first | exact .inl rfl | exact .inr rfl))
    (xb_cons (xs_set ND rfl (by first | exact .inl rfl | exact .inr rfl) (xr_bin o_add (xr_name (i := 2) rfl (by first | exact .inl rfl | exact .inr (.inl rfl) | exact .inr (.inr rfl)) rfl rfl) (xr_lst (xv_cons xr_str (xv_cons xr_str (xv_cons (xr_bin o_add xr_str (xr_bin o_mul xr_str xr_int)) (xv_cons xr_str xv_nil rfl) rfl) rfl) rfl) (by decide))) rfl (by first | exact .inl rfl | exact .inr rfl))
    (xb_cons (xs_ret (xr_cmp (o_eq (rm64 hr)) (xr_comp rfl rfl cx_takes rfl ND (xi_seq (xr_name (i := 2) rfl (by first | exact .inl rfl | exact .inr (.inl rfl) | exact .inr (.inr rfl)) rfl rfl)) (blkOk_by (own := [("told", 5)]) (by kernel_rfl)) rfl (fun _ _ _ _ _ _ => (xg_name (i := 5) ND rfl (by first | exact .inl rfl | exact .inr rfl) (by first | exact .inl rfl | exact .inr rfl))) (fun W1 _ _ _ _ _ _ tk1 => (pts_some (xt_notN (xr_call (G__law_told.fk hr) tk1 rfl (xa_val (xr_name (i := 5) rfl (by first | exact .inl rfl | exact .inr (.inl rfl) | exact .inr (.inr rfl)) rfl rfl) xa_nil rfl) rfl rfl rfl rfl)))) (fun W1 _ _ _ _ _ _ tk1 => (xr_name (i := 5) rfl (by first | exact .inl rfl | exact .inr (.inl rfl) | exact .inr (.inr rfl)) rfl rfl)) (fun _ => rfl)) (xr_lst xv_nil (by decide)) rfl) (by intro k z; cases z))
    xb_nil)))))

end PW

set_option linter.all false
/-! PS1: plain lemmas about texts, loops; no program in sight. -/
namespace PS
open PySem PD
/-- all signs are code points -/
def Ok (s : Str) : Prop := ∀ c ∈ s.cps.toList, c < 0x110000
theorem ok_strOk {s : Str} (h : Ok s) : PyData.strOk s = true := by
  unfold PyData.strOk
  rw [Array.all_eq_true']
  intro c hc
  exact decide_eq_true (h c (Array.mem_toList_iff.mpr hc))
theorem ok_app {a b : Str} (ha : Ok a) (hb : Ok b) : Ok (a ++ b) := fun c hc => by
  have e : (a ++ b).cps.toList = a.cps.toList ++ b.cps.toList := by
    show (a.cps ++ b.cps).toList = _
    exact Array.toList_append
  rw [e] at hc
  rcases List.mem_append.mp hc with h | h
  · exact ha c h
  · exact hb c h
theorem ok_sub {s : Str} (h : Ok s) (i j : Nat) : Ok (Builtin.Str.strSub s i j) := fun c hc => by
  have : c ∈ (s.cps.extract i j).toList := hc
  rw [Array.toList_extract] at this
  exact h c (List.mem_of_mem_drop (List.mem_of_mem_take this))
theorem ok_parts {s : Str} (h : Ok s) (cuts : List Nat) (w : Nat) : ∀ p ∈ Builtin.Str.partsBetween s cuts w, Ok p := fun p hp => by
  unfold Builtin.Str.partsBetween at hp
  obtain ⟨⟨i, j⟩, _, e⟩ := List.mem_map.mp hp
  subst e
  exact ok_sub h i j
theorem ok_glued {g : Str} (hg : Ok g) {ps : List Str} (hp : ∀ p ∈ ps, Ok p) : Ok (Builtin.Str.glued g ps) := by
  have go : ∀ (qs : List Str) (acc : Array Nat), (∀ c ∈ acc.toList, c < 0x110000) → (∀ q ∈ qs, Ok q) → ∀ c ∈ (qs.foldl (fun acc p => acc ++ g.cps ++ p.cps) acc).toList, c < 0x110000 := by
    intro qs
    induction qs with
    | nil => intro acc h _; exact h
    | cons q qs ih =>
      intro acc h hq
      refine ih _ (fun c hc => ?_) fun z hz => hq z (List.mem_cons_of_mem _ hz)
      rw [Array.toList_append, Array.toList_append] at hc
      rcases List.mem_append.mp hc with hc | hc
      · rcases List.mem_append.mp hc with hc | hc
        · exact h c hc
        · exact hg c hc
      · exact hq q List.mem_cons_self c hc
  unfold Builtin.Str.glued
  cases ps with
  | nil => intro c hc; exact absurd hc (by simp [Str.empty])
  | cons p ps => exact go ps p.cps (hp p List.mem_cons_self) fun q hq => hp q (List.mem_cons_of_mem _ hq)
theorem ok_split {s b : Str} (h : Ok s) : ∀ p ∈ Txt.split s b, Ok p := fun p hp => by
  unfold Txt.split at hp
  split at hp
  · rw [List.mem_singleton] at hp; subst hp; exact h
  · split at hp
    · rw [List.mem_singleton] at hp; subst hp; exact h
    · exact ok_parts h _ _ p hp
theorem ok_join {g : Str} (hg : Ok g) {ps : List Str} (hp : ∀ p ∈ ps, Ok p) : Ok (Txt.join g ps) := ok_glued hg hp
theorem ok_repN {x y z : Str} (hx : Ok x) (hz : Ok z) (n : Nat) : Ok (repN x y z n) := by
  unfold repN
  split
  · exact hx
  · exact ok_glued hz (ok_parts hx _ _)
theorem ok_cut {s : Str} (h : Ok s) (lo hi : Option Int) : Ok ⟨(cut s.cps.toList lo hi).toArray⟩ := fun c hc => by
  have : c ∈ cut s.cps.toList lo hi := by simpa using hc
  unfold cut at this
  exact h c (List.mem_of_mem_drop (List.mem_of_mem_take this))
theorem ok_sign {s : Str} (h : Ok s) {c : Nat} (hc : c ∈ s.cps.toList) : Ok ⟨#[c]⟩ := fun d hd => by
  have : d = c := by simpa using hd
  subst this; exact h d hc
theorem len_app (a b : Str) : (a ++ b).length = a.length + b.length := by
  show (a.cps ++ b.cps).size = _
  exact Array.size_append
theorem cut_len {α : Type} (xs : List α) (lo hi : Option Int) : (cut xs lo hi).length ≤ xs.length := by
  unfold cut
  rw [List.length_take, List.length_drop]
  omega
/-! ### == -/
theorem dEq_str (a b : Str) : dEq (.str a) (.str b) = some (a == b) := rfl
theorem dEq_int (a b : Int) : dEq (.int a) (.int b) = some (a == b) := rfl
theorem pls_all (n : Nat) : ∀ ds : List D, pls n ds = ds.all (pl n)
  | [] => rfl
  | d :: ds => by
    show (pl n d && pls n ds) = (pl n d && ds.all (pl n))
    rw [pls_all n ds]
theorem dEq_nil {ds : List D} (h : ds.all (pl 39) = true) : dEq (.lst ds) (.lst []) = some (ds.isEmpty) := by
  unfold dEq
  have h1 : pl 40 (.lst ds) = true := by show pls 39 ds = true; rw [pls_all]; exact h
  have h2 : pl 40 (.lst []) = true := rfl
  rw [h1, h2, Bool.and_self, Bool.or_true, if_pos rfl]
  cases ds <;> rfl
/-! ### loops -/
theorem compLoop_acc (own : List Nat) (tg : Tg) (test : Sm Bool) (elt : Sm D) (p : D → Bool) (g : D → D) (ρ : List Slot) (st : List D) : ∀ (its acc : List D),
    (∀ d ∈ its, ∃ ρ1, setT tg d ρ = some ρ1 ∧ test ρ1 st = .ok ρ1 st (p d) ∧ (p d = true → elt ρ1 st = .ok ρ1 st (g d)) ∧ wipeS ρ1 own = ρ) → compLoop own tg test elt its acc ρ st = .ok ρ st (acc ++ (its.filter p).map g)
  | [], acc, _ => by simp [compLoop]
  | d :: its, acc, h => by
    obtain ⟨ρ1, h1, h2, h3, h4⟩ := h d List.mem_cons_self
    have ih := fun acc => compLoop_acc own tg test elt p g ρ st its acc fun x hx => h x (List.mem_cons_of_mem _ hx)
    unfold compLoop
    rw [h1]
    simp only [h2, bind_ok]
    cases hp : p d with
    | true =>
      simp only [if_true, h3 hp, bind_ok, h4]
      rw [ih, List.filter_cons_of_pos (by rw [hp])]
      simp
    | false =>
      simp only [Bool.false_eq_true, if_false, h4]
      rw [ih, List.filter_cons_of_neg (by rw [hp]; exact Bool.false_ne_true)]
theorem compLoop_exc (own : List Nat) (tg : Tg) (test : Sm Bool) (elt : Sm D) (ok : D → Bool) (g : D → D) (e : Ex) (ρ : List Slot) (st : List D) : ∀ (its acc : List D),
    (∀ d ∈ its, ∃ ρ1, setT tg d ρ = some ρ1 ∧ test ρ1 st = .ok ρ1 st true ∧ (elt ρ1 st = if ok d then .ok ρ1 st (g d) else .exc e ρ1 st) ∧ wipeS ρ1 own = ρ) →
      (its.all ok = true → compLoop own tg test elt its acc ρ st = .ok ρ st (acc ++ its.map g)) ∧ (its.all ok = false → ∃ ρ', compLoop own tg test elt its acc ρ st = .exc e ρ' st)
  | [], acc, _ => ⟨fun _ => by simp [compLoop], fun h => by simp at h⟩
  | d :: its, acc, h => by
    obtain ⟨ρ1, h1, h2, h3, h4⟩ := h d List.mem_cons_self
    have ih := fun acc => compLoop_exc own tg test elt ok g e ρ st its acc fun x hx => h x (List.mem_cons_of_mem _ hx)
    unfold compLoop
    rw [h1]
    simp only [h2, bind_ok, if_true, h3]
    cases hp : ok d with
    | true =>
      simp only [if_true, bind_ok, h4]
      obtain ⟨a, b⟩ := ih (acc ++ [g d])
      refine ⟨fun q => ?_, fun q => ?_⟩
      · rw [a (by simpa [hp] using q)]; simp
      · exact b (by simpa [hp] using q)
    | false =>
      simp only [Bool.false_eq_true, if_false, bind_exc]
      exact ⟨fun q => by simp [hp] at q, fun _ => ⟨ρ1, rfl⟩⟩
/-- a loop whose turns go on -/
theorem forLoop_inv (tg : Tg) (body : Sm Fl) (P : List Slot → List D → Prop) : ∀ (its : List D) (ρ : List Slot) (st : List D), P ρ st →
    (∀ d ∈ its, ∀ ρ st, P ρ st → ∃ ρ1 ρ2 st2, setT tg d ρ = some ρ1 ∧ body ρ1 st = .ok ρ2 st2 .next ∧ P ρ2 st2) → ∃ ρ' st', forLoop tg body its ρ st = .ok ρ' st' .next ∧ P ρ' st'
  | [], ρ, st, h, _ => ⟨ρ, st, rfl, h⟩
  | d :: its, ρ, st, h, hs => by
    obtain ⟨ρ1, ρ2, st2, h1, h2, h3⟩ := hs d List.mem_cons_self ρ st h
    obtain ⟨ρ', st', h4, h5⟩ := forLoop_inv tg body P its ρ2 st2 h3 fun x hx => hs x (List.mem_cons_of_mem _ hx)
    refine ⟨ρ', st', ?_, h5⟩
    unfold forLoop
    rw [h1]
    simp only [h2, bind_ok]
    exact h4
/-- a comprehension whose items change the store -/
theorem compLoop_inv (own : List Nat) (tg : Tg) (elt : Sm D) (P : List Slot → List D → Prop) (G : D → Prop) : ∀ (its acc : List D) (ρ : List Slot) (st : List D), P ρ st →
    (∀ d ∈ its, ∀ ρ st, P ρ st → ∃ ρ1 ρ2 st2 y, setT tg d ρ = some ρ1 ∧ elt ρ1 st = .ok ρ2 st2 y ∧ P (wipeS ρ2 own) st2 ∧ G y) → (∀ y ∈ acc, G y) →
      ∃ ρ' st' r, compLoop own tg (fun ρ st => .ok ρ st true) elt its acc ρ st = .ok ρ' st' r ∧ P ρ' st' ∧ ∀ y ∈ r, G y
  | [], acc, ρ, st, h, _, ha => ⟨ρ, st, acc, by simp [compLoop], h, ha⟩
  | d :: its, acc, ρ, st, h, hs, ha => by
    obtain ⟨ρ1, ρ2, st2, y, h1, h2, h3, h4⟩ := hs d List.mem_cons_self ρ st h
    obtain ⟨ρ', st', r, h5, h6, h7⟩ := compLoop_inv own tg elt P G its (acc ++ [y]) (wipeS ρ2 own) st2 h3 (fun x hx => hs x (List.mem_cons_of_mem _ hx)) fun z hz => by
      rcases List.mem_append.mp hz with z | z
      · exact ha _ z
      · rw [List.mem_singleton] at z; rw [z]; exact h4
    refine ⟨ρ', st', r, ?_, h6, h7⟩
    unfold compLoop
    rw [h1]
    simp only [bind_ok, if_true, h2]
    exact h5
end PS

set_option linter.all false
/-! PS2: comprehensions of one name; texts of digits. -/
namespace PS
open PySem PD
open NumText
theorem set_getD {α : Type} (l : List α) (k : Nat) (d : α) : l.set k (l.getD k d) = l := by
  refine List.ext_getElem? fun j => ?_
  rw [set_map]
  by_cases e : j = k
  · subst e
    rw [List.getD_eq_getElem?_getD]
    cases h : l[j]? <;> simp
  · simp [e]
/-- what comes out is put in place -/
theorem back1 (ρ : List Slot) (k : Nat) (s : Slot) : unlend [] (backS ρ (ρ.set k s) [k]) = ρ := by
  show (ρ.set k s).set k (ρ.getD k .un) = ρ
  rw [List.set_set]
  exact set_getD ρ k .un
theorem run_comp1 {k kind : Nat} {src : E} {cond : Option E} {elt : E} {ρ : List Slot} {st : List D} {o : Nat ⊕ D} {d0 : D} {its : List D} {p : D → Bool} {g : D → D}
    (h1 : runO [src] ρ st = .ok ρ st [o]) (h2 : rezs ρ [] [o] = some [d0]) (h3 : items kind [d0] = some its) (h4 : lends ρ [o] = []) (h5 : ownFree ρ [k] = true) (hk : k < ρ.length)
    (h : ∀ d ∈ its, condS cond (ρ.set k (.sh d)) st = .ok (ρ.set k (.sh d)) st (p d) ∧ (p d = true → frz (PD.run elt (ρ.set k (.sh d)) st) = .ok (ρ.set k (.sh d)) st (g d))) :
    PD.run (.comp [k] kind [src] (.name k) cond elt) ρ st = .ok ρ st (true, .lst ((its.filter p).map g)) := by
  rw [run_comp, h1]
  simp only [bind_ok, h2, h3, h5, if_true, h4]
  have := compLoop_acc [k] (.name k) (condS cond) (fun ρ st => frz (PD.run elt ρ st)) p g (ρ.set k .un) st its [] fun d hd => by
    refine ⟨ρ.set k (.sh d), ?_, (h d hd).1, (h d hd).2, ?_⟩
    · show (if k < (ρ.set k .un).length then some ((ρ.set k .un).set k (.sh d)) else none) = _
      rw [if_pos (by rw [List.length_set]; exact hk), List.set_set]
    · show (ρ.set k (.sh d)).set k .un = _
      rw [List.set_set]
  show (blkS [k] (.name k) cond elt its [] (ρ.set k .un) st).bindX _ _ = _
  unfold blkS
  rw [this]
  simp only [bindX_ok, back1, List.nil_append]
theorem run_comp1X {k kind : Nat} {src : E} {elt : E} {ρ : List Slot} {st : List D} {o : Nat ⊕ D} {d0 : D} {its : List D} {ok : D → Bool} {g : D → D} {e : Ex}
    (h1 : runO [src] ρ st = .ok ρ st [o]) (h2 : rezs ρ [] [o] = some [d0]) (h3 : items kind [d0] = some its) (h4 : lends ρ [o] = []) (h5 : ownFree ρ [k] = true) (hk : k < ρ.length)
    (h : ∀ d ∈ its, frz (PD.run elt (ρ.set k (.sh d)) st) = if ok d then .ok (ρ.set k (.sh d)) st (g d) else .exc e (ρ.set k (.sh d)) st) :
    (its.all ok = true → PD.run (.comp [k] kind [src] (.name k) none elt) ρ st = .ok ρ st (true, .lst (its.map g))) ∧ (its.all ok = false → ∃ ρ', PD.run (.comp [k] kind [src] (.name k) none elt) ρ st = .exc e ρ' st) := by
  have hl := compLoop_exc [k] (.name k) (condS none) (fun ρ st => frz (PD.run elt ρ st)) ok g e (ρ.set k .un) st its [] fun d hd => by
    refine ⟨ρ.set k (.sh d), ?_, rfl, h d hd, ?_⟩
    · show (if k < (ρ.set k .un).length then some ((ρ.set k .un).set k (.sh d)) else none) = _
      rw [if_pos (by rw [List.length_set]; exact hk), List.set_set]
    · show (ρ.set k (.sh d)).set k .un = _
      rw [List.set_set]
  have start : PD.run (.comp [k] kind [src] (.name k) none elt) ρ st = (blkS [k] (.name k) none elt its [] (ρ.set k .un) st).bindX (fun ρ' => unlend [] (backS ρ ρ' [k])) fun ρ' st' acc => .ok ρ' st' (true, .lst acc) := by
    rw [run_comp, h1]
    simp only [bind_ok, h2, h3, h5, if_true, h4]
    rfl
  refine ⟨fun q => ?_, fun q => ?_⟩
  · rw [start]; unfold blkS; rw [hl.1 q]
    simp only [bindX_ok, back1, List.nil_append]
  · obtain ⟨ρ', hr⟩ := hl.2 q
    rw [start]; unfold blkS; rw [hr]
    exact ⟨_, rfl⟩
/-! ### digits -/
theorem str_beq (a b : Str) : (a == b) = decide (a.cps.toList = b.cps.toList) := by
  by_cases h : a = b
  · subst h; simp
  · have h2 : a.cps.toList ≠ b.cps.toList := fun e => h (by
      obtain ⟨x⟩ := a
      obtain ⟨y⟩ := b
      have : x = y := by simpa using e
      rw [this])
    rw [decide_eq_false h2]
    exact beq_false_of_ne h
def digB (c : Nat) : Bool := decide (48 ≤ c) && decide (c ≤ 57)
def figs : Str := "0123456789"
theorem figs_in (c : Nat) : decide (c ∈ figs.cps.toList) = digB c := by
  have e : figs.cps.toList = [48, 49, 50, 51, 52, 53, 54, 55, 56, 57] := by decide +kernel
  rw [e]
  unfold digB
  by_cases h1 : 48 ≤ c
  · by_cases h2 : c ≤ 57
    · have : c = 48 ∨ c = 49 ∨ c = 50 ∨ c = 51 ∨ c = 52 ∨ c = 53 ∨ c = 54 ∨ c = 55 ∨ c = 56 ∨ c = 57 := by omega
      rcases this with rfl | rfl | rfl | rfl | rfl | rfl | rfl | rfl | rfl | rfl <;> decide
    · have : c ∉ [48, 49, 50, 51, 52, 53, 54, 55, 56, 57] := by simp; omega
      simp [this, h2]
  · have : c ∉ [48, 49, 50, 51, 52, 53, 54, 55, 56, 57] := by simp; omega
    simp [this, h1]
def badSigns (w : Str) : List D := (w.cps.toList.filter fun c => !digB c).map fun c => .str ⟨#[c]⟩
/-- [sign for sign in word if sign not in figures] -/
theorem signs_run {v k : Nat} {w : Str} {ρ : List Slot} {st : List D} (hv : ρ[v]? = some (.sh (.str w))) (hvk : v ≠ k) (h5 : ownFree ρ [k] = true) (hk : k < ρ.length) (hl : w.length ≤ 16777216) :
    PD.run (.comp [k] 5 [.var v] (.name k) (some (.op .notin [.var k, .str "0123456789"])) (.var k)) ρ st = .ok ρ st (true, .lst (badSigns w)) := by
  have e : badSigns w = ((w.cps.toList.map fun c => D.str ⟨#[c]⟩).filter fun d => match d with | .str s => !digB (s.cps.toList.headD 0) | _ => false).map id := by
    unfold badSigns
    rw [List.map_id, List.filter_map]
    rfl
  rw [e]
  refine run_comp1 (o := .inl v) (d0 := .str w) ?_ ?_ ?_ ?_ h5 hk ?_
  · simp [runO, hv, isUn]
  · simp [rezs, rez, hv, deref]
  · show (if w.length ≤ 16777216 then some (w.cps.toList.map fun c => D.str ⟨#[c]⟩) else none) = _
    rw [if_pos hl]
  · simp [lends, hv]
  · intro d hd
    obtain ⟨c, hc, rfl⟩ := List.mem_map.mp hd
    have hget : (ρ.set k (.sh (.str ⟨#[c]⟩)))[k]? = some (.sh (.str ⟨#[c]⟩)) := List.getElem?_set_self hk
    have hf := figs_in c
    unfold figs at hf
    constructor
    · simp [condS, PD.run, runO, hget, isUn, rezs, rez, deref, opSem, sb, dIn, ofOp, asB]
      have h1 : (⟨#[c]⟩ : Str).length = 1 := rfl
      have hf' : digB c = true ↔ c ∈ (Str.ofString "0123456789").cps := by rw [← hf]; simp
      simp only [h1, if_true]
      by_cases hm : c ∈ (Str.ofString "0123456789").cps
      · simp [hm, hf'.mpr hm]
      · have : digB c = false := by
          cases z : digB c with
          | false => rfl
          | true => exact absurd (hf'.mp z) hm
        simp [hm, this]
    · intro _
      simp [frz, PD.run, getV, hget]
theorem signs_nil (w : Str) : (badSigns w).isEmpty = w.cps.toList.all digB := by
  unfold badSigns
  rw [List.isEmpty_map]
  induction w.cps.toList with
  | nil => rfl
  | cons c cs ih =>
    rw [List.filter_cons, List.all_cons]
    cases h : digB c <;> simp [ih]
theorem signs_pl {w : Str} (h : Ok w) : (badSigns w).all (pl 39) = true := by
  refine List.all_eq_true.mpr fun d hd => ?_
  obtain ⟨c, hc, rfl⟩ := List.mem_map.mp hd
  exact ok_strOk (ok_sign h (List.mem_filter.mp hc).1)
/-- [..] != [] -/
theorem signs_ne {w : Str} (h : Ok w) : dEq (.lst (badSigns w)) (.lst []) = some (w.cps.toList.all digB) := by rw [dEq_nil (signs_pl h), signs_nil]
/-- no sign but figures, none ahead that is naught -/
def goodB (w : Str) : Bool := match w.cps.toList with
  | [] => false
  | c :: cs => (digB c && cs.all digB) && !(c == 48 && !cs.isEmpty)
def numV (w : Str) : Int := (digitsVal w.cps.toList : Nat)
theorem allDig {cs : List Nat} (h : cs.all digB = true) : AllDigits cs := fun c hc => by
  have := List.all_eq_true.mp h c hc
  unfold digB at this
  rw [Bool.and_eq_true, decide_eq_true_eq, decide_eq_true_eq] at this
  exact this
theorem num_int {w : Str} (h : goodB w = true) (hl : w.length ≤ 600) : intText? w = some (numV w) := by
  unfold goodB at h
  cases hc : w.cps.toList with
  | nil => rw [hc] at h; cases h
  | cons c cs =>
    rw [hc] at h
    rw [Bool.and_eq_true] at h
    refine intText_digits (allDig ?_) (by rw [hc]; exact fun z => nomatch z) (by omega)
    rw [hc]; exact h.1
end PS

set_option linter.all false
/-! PS3: the run, form by form. -/
namespace PS
open PySem PD
section
variable (ρ : List Slot) (st : List D)
theorem r_var (i : Nat) : PD.run (.var i) ρ st = (getV i ρ st).bind fun ρ st d => .ok ρ st (false, d) := by rw [PD.run]
theorem r_int (i : Int) : PD.run (.int i) ρ st = .ok ρ st (false, .int i) := by rw [PD.run]
theorem r_str (i : Str) : PD.run (.str i) ρ st = .ok ρ st (false, .str i) := by rw [PD.run]
theorem r_bl (i : Bool) : PD.run (.bl i) ρ st = .ok ρ st (false, .bl i) := by rw [PD.run]
theorem r_non : PD.run .non ρ st = .ok ρ st (false, .non) := by rw [PD.run]
theorem o_one (e : E) : runO [e] ρ st = (runO1 e ρ st).bind fun ρ st o => .ok ρ st [o] := by
  rw [runO_one]
  cases runO1 e ρ st <;> rfl
theorem r_op1 (o : Op) (a : E) : PD.run (.op o [a]) ρ st = (runO1 a ρ st).bind fun ρ st x => match rez ρ st x with
    | some d => ofOp ρ st (opSem o [d])
    | none => .stuck := by
  rw [PD.run, o_one]
  cases runO1 a ρ st with
  | ok ρ1 st1 x =>
    simp only [bind_ok]
    unfold rezs
    cases h : rez ρ1 st1 x <;> rfl
  | _ => rfl
theorem r_op2 (o : Op) (a b : E) : PD.run (.op o [a, b]) ρ st = (runO1 a ρ st).bind fun ρ st x => (runO1 b ρ st).bind fun ρ st y => match rez ρ st x, rez ρ st y with
    | some d, some d2 => ofOp ρ st (opSem o [d, d2])
    | _, _ => .stuck := by
  rw [PD.run, runO_one]
  cases runO1 a ρ st with
  | ok ρ1 st1 x =>
    simp only [bind_ok, o_one]
    cases runO1 b ρ1 st1 with
    | ok ρ2 st2 y =>
      simp only [bind_ok]
      unfold rezs
      cases h : rez ρ2 st2 x with
      | none => rfl
      | some d =>
        unfold rezs
        cases h2 : rez ρ2 st2 y <;> rfl
    | _ => rfl
  | _ => rfl
theorem r_meth (o : Op) (a b : E) : PD.run (.meth o [a] [b]) ρ st = (runO1 a ρ st).bind fun ρ st x => match rez ρ st x with
    | some d => if recv o [d] then (runO1 b ρ st).bind fun ρ st y => (match rez ρ st x, rez ρ st y with
      | some d, some d2 => ofOp ρ st (opSem o [d, d2])
      | _, _ => .stuck) else .stuck
    | none => .stuck := by
  rw [PD.run, o_one]
  cases runO1 a ρ st with
  | ok ρ1 st1 x =>
    simp only [bind_ok]
    rw [show rezs ρ1 st1 [x] = (match rez ρ1 st1 x with | some d => some [d] | none => none) by unfold rezs; cases rez ρ1 st1 x <;> rfl]
    cases h : rez ρ1 st1 x with
    | none => rfl
    | some d =>
      simp only [o_one]
      cases hr : recv o [d] with
      | false => rfl
      | true =>
        simp only [if_true]
        cases runO1 b ρ1 st1 with
        | ok ρ2 st2 y =>
          simp only [bind_ok]
          show (match rezs ρ2 st2 [x, y] with | some ds => ofOp ρ2 st2 (opSem o ds) | none => .stuck) = _
          unfold rezs
          cases h : rez ρ2 st2 x with
          | none => rfl
          | some d =>
            unfold rezs
            cases h2 : rez ρ2 st2 y <;> rfl
        | _ => rfl
  | _ => rfl
theorem r_slLoHi (a b c : E) : PD.run (.meth .slLoHi [a, b] [c]) ρ st = (runO1 a ρ st).bind fun ρ st x => (runO1 b ρ st).bind fun ρ st y => match rez ρ st x, rez ρ st y with
    | some d, some d2 => if recv .slLoHi [d, d2] then (runO1 c ρ st).bind fun ρ st z => (match rez ρ st x, rez ρ st y, rez ρ st z with
      | some d, some d2, some d3 => ofOp ρ st (opSem .slLoHi [d, d2, d3])
      | _, _, _ => .stuck) else .stuck
    | _, _ => .stuck := by
  rw [PD.run, runO_one]
  cases runO1 a ρ st with
  | ok ρ1 st1 x =>
    simp only [bind_ok, o_one]
    cases runO1 b ρ1 st1 with
    | ok ρ2 st2 y =>
      simp only [bind_ok]
      rw [show rezs ρ2 st2 [x, y] = (match rez ρ2 st2 x, rez ρ2 st2 y with | some d, some d2 => some [d, d2] | _, _ => none) by
        unfold rezs; cases rez ρ2 st2 x <;> (try rfl); unfold rezs; cases rez ρ2 st2 y <;> rfl]
      cases h : rez ρ2 st2 x with
      | none => rfl
      | some d =>
        cases h2 : rez ρ2 st2 y with
        | none => rfl
        | some d2 =>
          simp only []
          cases hr : recv .slLoHi [d, d2] with
          | false => rfl
          | true =>
            simp only [if_true]
            cases runO1 c ρ2 st2 with
            | ok ρ3 st3 z =>
              simp only [bind_ok]
              show (match rezs ρ3 st3 [x, y, z] with | some ds => ofOp ρ3 st3 (opSem .slLoHi ds) | none => .stuck) = _
              unfold rezs
              cases h : rez ρ3 st3 x with
              | none => rfl
              | some d =>
                unfold rezs
                cases h2 : rez ρ3 st3 y with
                | none => rfl
                | some d2 =>
                  unfold rezs
                  cases h3 : rez ρ3 st3 z <;> rfl
            | _ => rfl
    | _ => rfl
  | _ => rfl
theorem r_and (a b : E) : PD.run (.and_ a b) ρ st = (asB (PD.run a ρ st)).bind fun ρ st c => if c then PD.run b ρ st else .ok ρ st (false, .bl false) := by rw [PD.run]
theorem r_or (a b : E) : PD.run (.or_ a b) ρ st = (asB (PD.run a ρ st)).bind fun ρ st c => if c then .ok ρ st (false, .bl true) else PD.run b ρ st := by rw [PD.run]
theorem r_not (a : E) : PD.run (.not_ a) ρ st = (asB (PD.run a ρ st)).bind fun ρ st c => .ok ρ st (false, .bl (!c)) := by rw [PD.run]
theorem r_tup (es : List E) : PD.run (.tup es) ρ st = (runV es ρ st).bind fun ρ st ds => .ok ρ st (false, .tup ds) := by rw [PD.run]
theorem r_lst (es : List E) : PD.run (.lst es) ρ st = (runV es ρ st).bind fun ρ st ds => .ok ρ st (true, .lst ds) := by rw [PD.run]
theorem r_call (f : Fn) (refs : List Bool) (es : List E) : PD.run (.call f refs es) ρ st = (runA refs es ρ st).bind fun ρ st ds => ofFR ρ (f ds st) := by rw [PD.run]
theorem v_nil : runV [] ρ st = .ok ρ st [] := by rw [runV]
theorem v_cons (e : E) (es : List E) : runV (e :: es) ρ st = (PD.run e ρ st).bind fun ρ st p => (runV es ρ st).bind fun ρ st ds => .ok ρ st (p.2 :: ds) := by rw [runV]
theorem a_nil (rs : List Bool) : runA rs [] ρ st = .ok ρ st [] := runA_nil rs ρ st
theorem a_ref (i : Nat) (rs : List Bool) (es : List E) : runA (true :: rs) (.var i :: es) ρ st = (boxV i ρ st).bind fun ρ st d => (runA rs es ρ st).bind fun ρ st ds => .ok ρ st (d :: ds) := by rw [runA]
theorem a_val (e : E) (rs : List Bool) (es : List E) : runA (false :: rs) (e :: es) ρ st = (PD.run e ρ st).bind fun ρ st p => (runA rs es ρ st).bind fun ρ st ds => .ok ρ st (p.2 :: ds) := runA_val e es rs ρ st
theorem o1_var (i : Nat) : runO1 (.var i) ρ st = if isUn ρ[i]? then .stuck else .ok ρ st (.inl i) := rfl
theorem o1_int (i : Int) : runO1 (.int i) ρ st = .ok ρ st (.inr (.int i)) := by show (PD.run (.int i) ρ st).bind (fun ρ st p => Out.ok ρ st (Sum.inr (α := Nat) p.2)) = _; rw [r_int]; rfl
theorem o1_str (i : Str) : runO1 (.str i) ρ st = .ok ρ st (.inr (.str i)) := by show (PD.run (.str i) ρ st).bind (fun ρ st p => Out.ok ρ st (Sum.inr (α := Nat) p.2)) = _; rw [r_str]; rfl
theorem o1_bl (i : Bool) : runO1 (.bl i) ρ st = .ok ρ st (.inr (.bl i)) := by show (PD.run (.bl i) ρ st).bind (fun ρ st p => Out.ok ρ st (Sum.inr (α := Nat) p.2)) = _; rw [r_bl]; rfl
theorem o1_non : runO1 .non ρ st = .ok ρ st (.inr .non) := by show (PD.run .non ρ st).bind (fun ρ st p => Out.ok ρ st (Sum.inr (α := Nat) p.2)) = _; rw [r_non]; rfl
theorem o1_op (o : Op) (es : List E) : runO1 (.op o es) ρ st = (PD.run (.op o es) ρ st).bind fun ρ st p => .ok ρ st (.inr p.2) := rfl
theorem o1_meth (o : Op) (a b : List E) : runO1 (.meth o a b) ρ st = (PD.run (.meth o a b) ρ st).bind fun ρ st p => .ok ρ st (.inr p.2) := rfl
theorem o1_tup (es : List E) : runO1 (.tup es) ρ st = (PD.run (.tup es) ρ st).bind fun ρ st p => .ok ρ st (.inr p.2) := rfl
theorem o1_lst (es : List E) : runO1 (.lst es) ρ st = (PD.run (.lst es) ρ st).bind fun ρ st p => .ok ρ st (.inr p.2) := rfl
theorem o1_call (f : Fn) (refs : List Bool) (es : List E) : runO1 (.call f refs es) ρ st = (PD.run (.call f refs es) ρ st).bind fun ρ st p => .ok ρ st (.inr p.2) := rfl
theorem o1_comp (own : List Nat) (k : Nat) (src : List E) (tg : Tg) (c : Option E) (e : E) : runO1 (.comp own k src tg c e) ρ st = (PD.run (.comp own k src tg c e) ρ st).bind fun ρ st p => .ok ρ st (.inr p.2) := rfl
theorem o1_not (a : E) : runO1 (.not_ a) ρ st = (PD.run (.not_ a) ρ st).bind fun ρ st p => .ok ρ st (.inr p.2) := rfl
end
end PS

set_option linter.all false
/-! PS4: the run of statements, form by form. -/
namespace PS
open PySem PD
section
variable (ρ : List Slot) (st : List D)
theorem b_nil : runB [] ρ st = .ok ρ st .next := by rw [runB]
theorem b_cons (s : S) (ss : List S) : runB (s :: ss) ρ st = (runS s ρ st).bind fun ρ st f => match f with
    | .next => runB ss ρ st
    | .ret fl d => .ok ρ st (.ret fl d)
    | .brk => .ok ρ st .brk
    | .cont => .ok ρ st .cont := by rw [runB] <;> rfl
theorem s_expr (e : E) : runS (.expr e) ρ st = (PD.run e ρ st).bind fun ρ st _ => .ok ρ st .next := by rw [runS]
theorem s_set (i : Nat) (e : E) : runS (.set i e) ρ st = (PD.run e ρ st).bind fun ρ st p => if i < ρ.length then .ok (ρ.set i (if p.1 then .own p.2 else .sh p.2)) st .next else .stuck := by rw [runS]
theorem s_append (i : Nat) (e : E) : runS (.append i e) ρ st = if lstAt ρ st i = false then .stuck else (PD.run e ρ st).bind fun ρ st p => noFl (modV i (mApp p.2) ρ st) := by rw [runS]
theorem s_insert (i : Nat) (a b : E) : runS (.insert i a b) ρ st = if lstAt ρ st i = false then .stuck else (PD.run a ρ st).bind fun ρ st p => (PD.run b ρ st).bind fun ρ st q => noFl (modV i (mIns p.2 q.2) ρ st) := by rw [runS]
theorem s_popAt (i : Nat) (a : E) : runS (.popAt i a) ρ st = if lstAt ρ st i = false then .stuck else (PD.run a ρ st).bind fun ρ st p => noFl (modV i (mPop p.2) ρ st) := by rw [runS]
theorem s_setItem (i : Nat) (k e : E) : runS (.setItem i k e) ρ st = (PD.run e ρ st).bind fun ρ st p => if isUn ρ[i]? then .stuck else (PD.run k ρ st).bind fun ρ st q => noFl (modV i (mPut q.2 p.2) ρ st) := by rw [runS]
theorem s_ifs (c : E) (a b : List S) : runS (.ifs c a b) ρ st = (asB (PD.run c ρ st)).bind fun ρ st c => if c then runB a ρ st else runB b ρ st := by rw [runS]
theorem s_for (k : Nat) (src : List E) (tg : Tg) (body : List S) : runS (.for_ k src tg body) ρ st = (runO src ρ st).bind fun ρ st os => match rezs ρ [] os with
    | some ds => match items k ds with
      | some its => (forLoop tg (fun ρ st => runB body ρ st) its (lend (lends ρ os) ρ) st).bindX (unlend (lends ρ os)) fun ρ' st' f => .ok ρ' st' f
      | none => .stuck
    | none => .stuck := by rw [runS] <;> rfl
theorem s_ret (e : E) : runS (.ret e) ρ st = runRet e ρ st := by rw [runS]
theorem s_retN : runS .retN ρ st = .ok ρ st (.ret false .non) := by rw [runS]
theorem s_raise (x : Ex) : runS (.raise x) ρ st = .exc x ρ st := by rw [runS]
theorem s_try (body : List S) (x : Ex) (e : Nat) (suite : List S) : runS (.try_ body x e suite) ρ st = (match runB body ρ st with
    | .exc y ρ' st' => if exUnder y x then (if e < ρ'.length then (match runB suite (ρ'.set e (.sh (.exn y))) st' with
        | .ok ρ st f => .ok (ρ.set e .un) st f
        | _ => .stuck) else .stuck) else .exc y ρ' st'
    | .ok ρ st f => .ok ρ st f
    | .stuck => .stuck) := by rw [runS] <;> rfl
end
end PS

set_option linter.all false
namespace PW
open PySem PD PS
theorem number_run {w : Str} (hok : Ok w) (hl : w.length ≤ 600) (st : List D) : f_number_in [.str w] st = if goodB w then .ok st false (.int (numV w)) else .exc .text st := by
  have hs := signs_run (v := 0) (k := 1) (w := w) (ρ := [.sh (.str w), .un]) (st := st) rfl (by decide) rfl (by simp) (by omega)
  have hne := signs_ne hok
  have hw : w.length = w.cps.toList.length := rfl
  have e0 : (w == ("" : Str)) = decide (w.cps.toList = []) := by rw [str_beq]; rfl
  have e1 : (w == ("0" : Str)) = decide (w.cps.toList = [48]) := by rw [str_beq]; rfl
  cases hc : w.cps.toList with
  | nil =>
    have hg : goodB w = false := by unfold goodB; rw [hc]
    rw [hc] at e0
    simp [f_number_in, fnOf, i_number_in, runB, runS, r_var, r_int, r_str, r_bl, r_non, r_op1, r_op2, r_and, r_or, r_not, r_tup, r_lst, r_call, r_meth, r_slLoHi, v_nil, v_cons, a_nil, a_ref, a_val, o1_var, o1_int, o1_str, o1_bl, o1_non, o1_op, o1_meth, o1_tup, o1_lst, o1_call, o1_comp, o1_not, rez, deref, isUn, opSem, sb, sv, ofOp, asB, recv, dEq_str, e0, hg]
  | cons c cs =>
    have hci : ((⟨#[c]⟩ : Str) == ("0" : Str)) = decide (c = 48) := by
      rw [str_beq]
      show decide ([c] = [48]) = _
      simp
    rw [hc] at e0 e1
    have hle : w.length ≤ 16777216 := by omega
    have hat : L2.atI w.cps.toList 0 = some c := by rw [hc]; simp [L2.atI, L2.ixN]
    have hg : goodB w = ((digB c && cs.all digB) && !(c == 48 && !cs.isEmpty)) := by unfold goodB; rw [hc]
    have hi : goodB w = true → intText? w = some (numV w) := fun h => num_int h hl
    rw [hc, List.all_cons] at hne
    have h640 : w.length ≤ 640 := by omega
    cases hd : (digB c && cs.all digB) with
    | false =>
      rw [hd] at hne hg
      by_cases h48 : c = 48
      · subst h48
        have hcp : (⟨#[48]⟩ : Str) = "0" := by decide
        by_cases hcs : cs = []
        · simp [f_number_in, fnOf, i_number_in, runB, runS, r_var, r_int, r_str, r_bl, r_non, r_op1, r_op2, r_and, r_or, r_not, r_tup, r_lst, r_call, r_meth, r_slLoHi, v_nil, v_cons, a_nil, a_ref, a_val, o1_var, o1_int, o1_str, o1_bl, o1_non, o1_op, o1_meth, o1_tup, o1_lst, o1_call, o1_comp, o1_not, rez, deref, isUn, opSem, sb, sv, ofOp, asB, recv, dEq_str, e0, e1, dItem, hle, hat, hci, hs, hne, runRet, dToInt, h640, hg, hd, hcp, hcs]
        · simp [f_number_in, fnOf, i_number_in, runB, runS, r_var, r_int, r_str, r_bl, r_non, r_op1, r_op2, r_and, r_or, r_not, r_tup, r_lst, r_call, r_meth, r_slLoHi, v_nil, v_cons, a_nil, a_ref, a_val, o1_var, o1_int, o1_str, o1_bl, o1_non, o1_op, o1_meth, o1_tup, o1_lst, o1_call, o1_comp, o1_not, rez, deref, isUn, opSem, sb, sv, ofOp, asB, recv, dEq_str, e0, e1, dItem, hle, hat, hci, hs, hne, runRet, dToInt, h640, hg, hd, hcp, hcs]
      · simp [f_number_in, fnOf, i_number_in, runB, runS, r_var, r_int, r_str, r_bl, r_non, r_op1, r_op2, r_and, r_or, r_not, r_tup, r_lst, r_call, r_meth, r_slLoHi, v_nil, v_cons, a_nil, a_ref, a_val, o1_var, o1_int, o1_str, o1_bl, o1_non, o1_op, o1_meth, o1_tup, o1_lst, o1_call, o1_comp, o1_not, rez, deref, isUn, opSem, sb, sv, ofOp, asB, recv, dEq_str, e0, e1, dItem, hle, hat, hci, hs, hne, runRet, dToInt, h640, hg, hd, h48]
    | true =>
      rw [hd] at hne hg
      by_cases h48 : c = 48
      · subst h48
        have hcp : (⟨#[48]⟩ : Str) = "0" := by decide
        by_cases hcs : cs = []
        · have hgt : goodB w = true := by rw [hg, hcs]; simp
          have hi := hi hgt
          simp [f_number_in, fnOf, i_number_in, runB, runS, r_var, r_int, r_str, r_bl, r_non, r_op1, r_op2, r_and, r_or, r_not, r_tup, r_lst, r_call, r_meth, r_slLoHi, v_nil, v_cons, a_nil, a_ref, a_val, o1_var, o1_int, o1_str, o1_bl, o1_non, o1_op, o1_meth, o1_tup, o1_lst, o1_call, o1_comp, o1_not, rez, deref, isUn, opSem, sb, sv, ofOp, asB, recv, dEq_str, e0, e1, dItem, hle, hat, hci, hs, hne, runRet, dToInt, h640, hg, hd, hcp, hcs, hi]
        · simp [f_number_in, fnOf, i_number_in, runB, runS, r_var, r_int, r_str, r_bl, r_non, r_op1, r_op2, r_and, r_or, r_not, r_tup, r_lst, r_call, r_meth, r_slLoHi, v_nil, v_cons, a_nil, a_ref, a_val, o1_var, o1_int, o1_str, o1_bl, o1_non, o1_op, o1_meth, o1_tup, o1_lst, o1_call, o1_comp, o1_not, rez, deref, isUn, opSem, sb, sv, ofOp, asB, recv, dEq_str, e0, e1, dItem, hle, hat, hci, hs, hne, runRet, dToInt, h640, hg, hd, hcp, hcs]
      · have hgt : goodB w = true := by rw [hg]; simp [h48]
        have hi := hi hgt
        simp [f_number_in, fnOf, i_number_in, runB, runS, r_var, r_int, r_str, r_bl, r_non, r_op1, r_op2, r_and, r_or, r_not, r_tup, r_lst, r_call, r_meth, r_slLoHi, v_nil, v_cons, a_nil, a_ref, a_val, o1_var, o1_int, o1_str, o1_bl, o1_non, o1_op, o1_meth, o1_tup, o1_lst, o1_call, o1_comp, o1_not, rez, deref, isUn, opSem, sb, sv, ofOp, asB, recv, dEq_str, e0, e1, dItem, hle, hat, hci, hs, hne, runRet, dToInt, h640, hg, hd, h48, hi]
end PW

set_option linter.all false
namespace PW
open PySem PD PS
theorem cut_hd {α : Type} (a : α) (r : List α) : cut (a :: r) none (some 1) = [a] := by
  unfold cut HT.sIx
  simp
theorem cut_tl {α : Type} (a : α) (r : List α) : cut (a :: r) (some 1) none = r := by
  unfold cut HT.sIx
  simp
/-- the last of a list -/
theorem at_last {α : Type} (l : List α) (a : α) (h : l.getLast? = some a) : L2.atI l (-1) = some a := by
  cases hl : l with
  | nil => rw [hl] at h; cases h
  | cons x r =>
    rw [hl] at h
    unfold L2.atI L2.ixN
    have h1 : ¬ (0 : Int) ≤ -1 := by omega
    have h2 : -((x :: r).length : Int) ≤ -1 := by rw [List.length_cons]; omega
    rw [if_neg h1, if_pos h2]
    have e : ((-1 : Int) + ((x :: r).length : Nat)).toNat = (x :: r).length - 1 := by omega
    rw [e]
    show (some _).bind _ = _
    rw [List.getLast?_eq_getElem?] at h
    exact h
def shape (ws : List Str) : Bool := (decide (ws.head? = some "wire") && ws.length == 3) || (decide (ws.head? = some "leg") && ws.length == 4)
def lastOk (ws : List Str) : Bool := match ws.getLast? with
  | some w => w == "0" || w == "1"
  | none => false
theorem in_shape (a : Str) (n : Nat) (h : Ok a) : dIn (.lst [.str a, .int n]) (.lst [.lst [.str "wire", .int 3], .lst [.str "leg", .int 4]]) = some ((a == "wire" && n == 3) || (a == "leg" && n == 4)) := by
  show (if (pl 40 (.lst [.str a, .int n]) && pls 40 [.lst [.str "wire", .int 3], .lst [.str "leg", .int 4]]) = true then some ([D.lst [.str "wire", .int 3], .lst [.str "leg", .int 4]].any fun y => PyData.eqv (toP y) (toP (.lst [.str a, .int n]))) else none) = _
  have h1 : pl 40 (.lst [.str a, .int n]) = true := by
    show (PyData.strOk a && (true && true)) = true
    rw [ok_strOk h]; rfl
  have h2 : pls 40 [.lst [.str "wire", .int 3], .lst [.str "leg", .int 4]] = true := by decide +kernel
  rw [h1, h2]
  simp only [Bool.and_self, if_true, List.any_cons, List.any_nil, Bool.or_false]
  have e : ∀ (x : Str) (k : Int), PyData.eqv (toP (.lst [.str x, .int k])) (toP (.lst [.str a, .int n])) = (x == a && (k == (n : Int))) := fun x k => by
    show ((x == a) && ((k == (n : Int)) && true)) = _
    rw [Bool.and_true]
  rw [e, e]
  have s : ∀ x : Str, (x == a) = (a == x) := fun x => by rw [str_beq, str_beq]; congr 1; exact propext eq_comm
  have q : ∀ k : Nat, (((k : Nat) : Int) == (n : Int)) = (n == k) := fun k => by
    by_cases h : n = k
    · subst h; simp
    · have h2 : ¬ ((k : Nat) : Int) = (n : Int) := by omega
      rw [beq_false_of_ne h, beq_false_of_ne h2]
  rw [s, s, show ((3 : Int) == (n : Int)) = (n == 3) from q 3, show ((4 : Int) == (n : Int)) = (n == 4) from q 4]
theorem in_01 (a : Str) : dIn (.str a) (.tup [.str "0", .str "1"]) = some (a == "0" || a == "1") := by
  show (if (flatD (.str a) && [D.str "0", .str "1"].all flatD) = true then some ([D.str "0", .str "1"].any fun y => PyData.eqv (toP y) (toP (.str a))) else none) = _
  have s : ∀ x : Str, (x == a) = (a == x) := fun x => by rw [str_beq, str_beq]; congr 1; exact propext eq_comm
  show some ((("0" : Str) == a) || ((("1" : Str) == a) || false)) = _
  rw [s, s, Bool.or_false]
theorem words_ne (t : Str) : ∃ a r, Txt.split t " " = a :: r := by
  have := PyProof.Rows.split_pos t " "
  cases h : Txt.split t " " with
  | nil => rw [h] at this; simp at this
  | cons a r => exact ⟨a, r, rfl⟩
theorem splitD {t : Str} (hl : t.length ≤ 1000) : dSplit (.str t) (.str " ") = some (true, .lst ((Txt.split t " ").map .str)) := by
  have : (" " : Str).length = 1 := by decide
  show (if (" " : Str).length = 0 ∨ 16777216 < t.length + 2 then none else some (true, D.lst ((Txt.split t " ").map .str))) = _
  rw [if_neg (by omega)]
def okW (d : D) : Bool := match d with
  | .str w => goodB w
  | _ => false
def numW (d : D) : D := match d with
  | .str w => .int (numV w)
  | _ => .non
theorem all_okW (r : List Str) : (r.map D.str).all okW = r.all goodB := by
  rw [List.all_map]; rfl
theorem map_numW (r : List Str) : (r.map D.str).map numW = r.map fun w => .int (numV w) := by rw [List.map_map]; rfl
/-- [number_in(word) for word in words[1:]] -/
theorem nums_run {ρ : List Slot} {st : List D} {v k : Nat} {a : Str} {r : List Str} (hv : ρ[v]? = some (.own (.lst (.str a :: r.map .str)))) (hvk : v ≠ k) (h5 : ownFree ρ [k] = true) (hk : k < ρ.length) (hr : ∀ w ∈ r, Ok w ∧ w.length ≤ 600) :
    (r.all goodB = true → PD.run (.comp [k] 0 [.op .slLo [.var v, .int 1]] (.name k) none (.call f_number_in [false] [.var k])) ρ st = .ok ρ st (true, .lst (r.map fun w => .int (numV w)))) ∧
      (r.all goodB = false → ∃ ρ', PD.run (.comp [k] 0 [.op .slLo [.var v, .int 1]] (.name k) none (.call f_number_in [false] [.var k])) ρ st = .exc .text ρ' st) := by
  have := run_comp1X (k := k) (kind := 0) (src := .op .slLo [.var v, .int 1]) (elt := .call f_number_in [false] [.var k]) (ρ := ρ) (st := st) (o := .inr (.lst (r.map .str))) (d0 := .lst (r.map .str)) (its := r.map .str) (ok := okW) (g := numW) (e := .text) ?_ ?_ rfl rfl h5 hk ?_
  · rw [all_okW, map_numW] at this; exact this
  · simp [o_one, fnOf, runB, runS, r_var, r_int, r_str, r_bl, r_non, r_op1, r_op2, r_and, r_or, r_not, r_tup, r_lst, r_call, r_meth, r_slLoHi, v_nil, v_cons, a_nil, a_ref, a_val, o1_var, o1_int, o1_str, o1_bl, o1_non, o1_op, o1_meth, o1_tup, o1_lst, o1_call, o1_comp, o1_not, rez, deref, isUn, opSem, sb, sv, ofOp, asB, recv, runRet, getV, hv, dSlLo, asInt, dSl, cut_tl]
  · simp [rezs, rez, deref]
  · intro d hd
    obtain ⟨w, hw, rfl⟩ := List.mem_map.mp hd
    obtain ⟨h1, h2⟩ := hr w hw
    have hn := number_run h1 h2 st
    have hget : (ρ.set k (.sh (.str w)))[k]? = some (.sh (.str w)) := List.getElem?_set_self hk
    cases hg : goodB w <;> simp [fnOf, runB, runS, r_var, r_int, r_str, r_bl, r_non, r_op1, r_op2, r_and, r_or, r_not, r_tup, r_lst, r_call, r_meth, r_slLoHi, v_nil, v_cons, a_nil, a_ref, a_val, o1_var, o1_int, o1_str, o1_bl, o1_non, o1_op, o1_meth, o1_tup, o1_lst, o1_call, o1_comp, o1_not, rez, deref, isUn, opSem, sb, sv, ofOp, asB, recv, runRet, getV, frz, hget, hn, hg, okW, numW, ofFR]
end PW

set_option linter.all false
namespace PW
open PySem PD PS
def shp (a : Str) (n : Nat) : Bool := (a == "wire" && n == 3) || (a == "leg" && n == 4)
def lst1 (a : Str) (r : List Str) : Str := (a :: r).getLast (fun z => nomatch z)
theorem last_map (a : Str) (r : List Str) : (D.str a :: r.map D.str).getLast? = some (.str (lst1 a r)) := by
  have : D.str a :: r.map D.str = (a :: r).map D.str := rfl
  rw [this, List.getLast?_map]
  unfold lst1
  rw [List.getLast?_eq_getLast (by simp)]
  rfl
theorem at0 (d : D) (r : List D) : L2.atI (d :: r) 0 = some d := by simp [L2.atI, L2.ixN]
theorem read_run {t a : Str} {r : List Str} (hok : Ok t) (hl : t.length ≤ 600) (hw : Txt.split t " " = a :: r) (st : List D) :
    f_read_fault [.str t] st = if shp a (r.length + 1) && ((lst1 a r == "0" || lst1 a r == "1") && r.all goodB) then .ok st false (.tup (.str a :: r.map fun w => .int (numV w))) else .exc .text st := by
  have hsp := splitD (t := t) (by omega)
  rw [hw] at hsp
  have parts : ∀ w ∈ a :: r, Ok w ∧ w.length ≤ 600 := fun w h => by
    rw [← hw] at h
    exact ⟨ok_split hok w h, Nat.le_trans (PyProof.Rows.part_short h) hl⟩
  have ha := (parts a List.mem_cons_self).1
  have hS : dIn (.lst [.str a, .int ((r.length : Int) + 1)]) (.lst [.lst [.str "wire", .int 3], .lst [.str "leg", .int 4]]) = some (shp a (r.length + 1)) := in_shape a (r.length + 1) ha
  have hL := at_last _ _ (last_map a r)
  have h01 := in_01 (lst1 a r)
  have h0 := at0 (.str a) (r.map .str)
  have hN := nums_run (ρ := [.sh (.str t), .own (.lst (.str a :: r.map .str)), .un]) (st := st) (v := 1) (k := 2) (a := a) (r := r) rfl (by decide) rfl (by simp) fun w h => parts w (List.mem_cons_of_mem _ h)
  have hlen : r.length ≤ 700 := by
    have := PyProof.Rows.split_le t " "
    rw [hw, List.length_cons] at this
    omega
  cases h1 : shp a (r.length + 1) with
  | false =>
    rw [h1] at hS
    simp [f_read_fault, i_read_fault, fnOf, runB, runS, r_var, r_int, r_str, r_bl, r_non, r_op1, r_op2, r_and, r_or, r_not, r_tup, r_lst, r_call, r_meth, r_slLoHi, v_nil, v_cons, a_nil, a_ref, a_val, o1_var, o1_int, o1_str, o1_bl, o1_non, o1_op, o1_meth, o1_tup, o1_lst, o1_call, o1_comp, o1_not, rez, deref, isUn, opSem, sb, sv, ofOp, asB, recv, runRet, getV, hsp, dItem, h0, dLen, hS]
  | true =>
    rw [h1] at hS
    cases h2 : (lst1 a r == "0" || lst1 a r == "1") with
    | false =>
      rw [h2] at h01
      simp [f_read_fault, i_read_fault, fnOf, runB, runS, r_var, r_int, r_str, r_bl, r_non, r_op1, r_op2, r_and, r_or, r_not, r_tup, r_lst, r_call, r_meth, r_slLoHi, v_nil, v_cons, a_nil, a_ref, a_val, o1_var, o1_int, o1_str, o1_bl, o1_non, o1_op, o1_meth, o1_tup, o1_lst, o1_call, o1_comp, o1_not, rez, deref, isUn, opSem, sb, sv, ofOp, asB, recv, runRet, getV, hsp, dItem, h0, dLen, hS, dNeg, hL, h01, -Bool.or_eq_true, -beq_iff_eq]
    | true =>
      rw [h2] at h01
      cases h3 : r.all goodB with
      | false =>
        obtain ⟨ρ', hN⟩ := hN.2 h3
        simp [f_read_fault, i_read_fault, fnOf, runB, runS, r_var, r_int, r_str, r_bl, r_non, r_op1, r_op2, r_and, r_or, r_not, r_tup, r_lst, r_call, r_meth, r_slLoHi, v_nil, v_cons, a_nil, a_ref, a_val, o1_var, o1_int, o1_str, o1_bl, o1_non, o1_op, o1_meth, o1_tup, o1_lst, o1_call, o1_comp, o1_not, rez, deref, isUn, opSem, sb, sv, ofOp, asB, recv, runRet, getV, hsp, dItem, h0, dLen, hS, dNeg, hL, h01, dSlHi, asInt, dSl, cut_hd, hN]
      | true =>
        have hN := hN.1 h3
        have hle : 1 + r.length ≤ 16777216 := by omega
        simp [f_read_fault, i_read_fault, fnOf, runB, runS, r_var, r_int, r_str, r_bl, r_non, r_op1, r_op2, r_and, r_or, r_not, r_tup, r_lst, r_call, r_meth, r_slLoHi, v_nil, v_cons, a_nil, a_ref, a_val, o1_var, o1_int, o1_str, o1_bl, o1_non, o1_op, o1_meth, o1_tup, o1_lst, o1_call, o1_comp, o1_not, rez, deref, isUn, opSem, sb, sv, ofOp, asB, recv, runRet, getV, hsp, dItem, h0, dLen, hS, dNeg, hL, h01, dSlHi, asInt, dSl, cut_hd, hN, dAdd, dToTup, hle]
end PW

set_option linter.all false
namespace PW
open PySem PD PS
theorem forLoop_stop {k : Nat} {body : Sm Fl} {ok : D → Bool} {fl : Bool} {d0 : D} {ρ : List Slot} {st : List D} (hk : k < ρ.length) : ∀ (its : List D) (s : Slot), (∀ d ∈ its, body (ρ.set k (.sh d)) st = .ok (ρ.set k (.sh d)) st (if ok d then .next else .ret fl d0)) →
    (its.all ok = true → ∃ s', (s' = s ∨ ∃ d, s' = .sh d) ∧ forLoop (.name k) body its (ρ.set k s) st = .ok (ρ.set k s') st .next) ∧ (its.all ok = false → ∃ s', forLoop (.name k) body its (ρ.set k s) st = .ok (ρ.set k s') st (.ret fl d0))
  | [], s, _ => ⟨fun _ => ⟨s, .inl rfl, rfl⟩, fun h => by simp at h⟩
  | d :: its, s, h => by
    have ih := forLoop_stop (body := body) (ok := ok) (fl := fl) (d0 := d0) (ρ := ρ) (st := st) hk its (.sh d) fun x hx => h x (List.mem_cons_of_mem _ hx)
    have hd := h d List.mem_cons_self
    have hset : setT (.name k) d (ρ.set k s) = some (ρ.set k (.sh d)) := by
      show (if k < (ρ.set k s).length then some ((ρ.set k s).set k (.sh d)) else none) = _
      rw [if_pos (by rw [List.length_set]; exact hk), List.set_set]
    unfold forLoop
    rw [hset]
    simp only [hd, bind_ok]
    cases ho : ok d with
    | true =>
      simp only [if_true]
      refine ⟨fun q => ?_, fun q => ?_⟩
      · obtain ⟨s', h1, h2⟩ := ih.1 (by simpa [ho] using q)
        exact ⟨s', .inr (by rcases h1 with z | z; exact ⟨d, z⟩; exact z), h2⟩
      · exact ih.2 (by simpa [ho] using q)
    | false =>
      simp only [Bool.false_eq_true, if_false]
      exact ⟨fun q => by simp [ho] at q, fun _ => ⟨.sh d, rfl⟩⟩
def wordB : List S := [.ifs (.or_ (.op .eq [(.var 2), (.str "")]) (.or_ (.op .ne [(.comp [4] 5 [(.var 2)] (.name 4) (some (.op .notin [(.var 4), (.str "0123456789")])) (.var 4)), (.lst [])]) (.and_ (.op .eq [(.op .item [(.var 2), (.int 0)]), (.str "0")]) (.op .gt [(.op .len [(.var 2)]), (.int 1)])))) [.ret .non] []]
theorem word_body {w : Str} (hok : Ok w) (hl : w.length ≤ 600) (d1 d2 : D) (st : List D) : runB wordB [.sh d1, .own d2, .sh (.str w), .un, .un] st = .ok [.sh d1, .own d2, .sh (.str w), .un, .un] st (if goodB w then .next else .ret false .non) := by
  have hs := signs_run (v := 2) (k := 4) (w := w) (ρ := [.sh d1, .own d2, .sh (.str w), .un, .un]) (st := st) rfl (by decide) rfl (by simp) (by omega)
  have hne := signs_ne hok
  have hw : w.length = w.cps.toList.length := rfl
  have e0 : (w == ("" : Str)) = decide (w.cps.toList = []) := by rw [str_beq]; rfl
  cases hc : w.cps.toList with
  | nil =>
    have hg : goodB w = false := by unfold goodB; rw [hc]
    rw [hc] at e0
    simp [wordB, fnOf, runB, runS, r_var, r_int, r_str, r_bl, r_non, r_op1, r_op2, r_and, r_or, r_not, r_tup, r_lst, r_call, r_meth, r_slLoHi, v_nil, v_cons, a_nil, a_ref, a_val, o1_var, o1_int, o1_str, o1_bl, o1_non, o1_op, o1_meth, o1_tup, o1_lst, o1_call, o1_comp, o1_not, rez, deref, isUn, opSem, sb, sv, ofOp, asB, recv, runRet, getV, dEq_str, e0, hg]
  | cons c cs =>
    have hci : ((⟨#[c]⟩ : Str) == ("0" : Str)) = decide (c = 48) := by
      rw [str_beq]
      show decide ([c] = [48]) = _
      simp
    rw [hc] at e0
    rw [hc, List.length_cons] at hw
    have hle : w.length ≤ 16777216 := by omega
    have hat : L2.atI w.cps.toList 0 = some c := by rw [hc]; simp [L2.atI, L2.ixN]
    have hg : goodB w = ((digB c && cs.all digB) && !(c == 48 && !cs.isEmpty)) := by unfold goodB; rw [hc]
    rw [hc, List.all_cons] at hne
    cases hd : (digB c && cs.all digB) with
    | false =>
      rw [hd] at hne hg
      simp [wordB, fnOf, runB, runS, r_var, r_int, r_str, r_bl, r_non, r_op1, r_op2, r_and, r_or, r_not, r_tup, r_lst, r_call, r_meth, r_slLoHi, v_nil, v_cons, a_nil, a_ref, a_val, o1_var, o1_int, o1_str, o1_bl, o1_non, o1_op, o1_meth, o1_tup, o1_lst, o1_call, o1_comp, o1_not, rez, deref, isUn, opSem, sb, sv, ofOp, asB, recv, runRet, getV, dEq_str, e0, dItem, hle, hat, hs, hne, hg]
    | true =>
      rw [hd] at hne hg
      by_cases h48 : c = 48
      · subst h48
        have hcp : (⟨#[48]⟩ : Str) = "0" := by decide
        cases cs with
        | nil =>
          have h1 : w.length = 1 := hw
          simp [wordB, fnOf, runB, runS, r_var, r_int, r_str, r_bl, r_non, r_op1, r_op2, r_and, r_or, r_not, r_tup, r_lst, r_call, r_meth, r_slLoHi, v_nil, v_cons, a_nil, a_ref, a_val, o1_var, o1_int, o1_str, o1_bl, o1_non, o1_op, o1_meth, o1_tup, o1_lst, o1_call, o1_comp, o1_not, rez, deref, isUn, opSem, sb, sv, ofOp, asB, recv, runRet, getV, dEq_str, e0, dItem, hle, hat, hs, hne, hg, hcp, dLen, h1, dCmp]
        | cons x xs =>
          have h1 : (1 : Int) < w.length := by rw [hw, List.length_cons]; omega
          simp [wordB, fnOf, runB, runS, r_var, r_int, r_str, r_bl, r_non, r_op1, r_op2, r_and, r_or, r_not, r_tup, r_lst, r_call, r_meth, r_slLoHi, v_nil, v_cons, a_nil, a_ref, a_val, o1_var, o1_int, o1_str, o1_bl, o1_non, o1_op, o1_meth, o1_tup, o1_lst, o1_call, o1_comp, o1_not, rez, deref, isUn, opSem, sb, sv, ofOp, asB, recv, runRet, getV, dEq_str, e0, dItem, hle, hat, hs, hne, hg, hcp, dLen, h1, dCmp]
      · have hcp : ¬ (⟨#[c]⟩ : Str) = "0" := fun z => by
          have : ((⟨#[c]⟩ : Str) == ("0" : Str)) = true := by rw [z]; decide
          rw [hci] at this
          exact h48 (of_decide_eq_true this)
        simp [wordB, fnOf, runB, runS, r_var, r_int, r_str, r_bl, r_non, r_op1, r_op2, r_and, r_or, r_not, r_tup, r_lst, r_call, r_meth, r_slLoHi, v_nil, v_cons, a_nil, a_ref, a_val, o1_var, o1_int, o1_str, o1_bl, o1_non, o1_op, o1_meth, o1_tup, o1_lst, o1_call, o1_comp, o1_not, rez, deref, isUn, opSem, sb, sv, ofOp, asB, recv, runRet, getV, dEq_str, e0, dItem, hle, hat, hs, hne, hg, hcp, h48]
theorem in_wl (a : Str) : dIn (.str a) (.tup [.str "wire", .str "leg"]) = some (a == "wire" || a == "leg") := by
  have s : ∀ x : Str, (x == a) = (a == x) := fun x => by rw [str_beq, str_beq]; congr 1; exact propext eq_comm
  show some ((("wire" : Str) == a) || ((("leg" : Str) == a) || false)) = _
  rw [s, s, Bool.or_false]
/-- [int(word) for word in words[1:]] -/
theorem ints_run {ρ : List Slot} {st : List D} {v k : Nat} {a : Str} {r : List Str} (hv : ρ[v]? = some (.own (.lst (.str a :: r.map .str)))) (hvk : v ≠ k) (h5 : ownFree ρ [k] = true) (hk : k < ρ.length) (hr : ∀ w ∈ r, goodB w = true ∧ w.length ≤ 600) :
    PD.run (.comp [k] 0 [.op .slLo [.var v, .int 1]] (.name k) none (.op .toInt [.var k])) ρ st = .ok ρ st (true, .lst (r.map fun w => .int (numV w))) := by
  have := run_comp1 (k := k) (kind := 0) (src := .op .slLo [.var v, .int 1]) (cond := none) (elt := .op .toInt [.var k]) (ρ := ρ) (st := st) (o := .inr (.lst (r.map .str))) (d0 := .lst (r.map .str)) (its := r.map .str) (p := fun _ => true) (g := numW) ?_ ?_ rfl rfl h5 hk ?_
  · rw [List.filter_eq_self.mpr (fun _ _ => rfl), map_numW] at this; exact this
  · simp [o_one, fnOf, runB, runS, r_var, r_int, r_str, r_bl, r_non, r_op1, r_op2, r_and, r_or, r_not, r_tup, r_lst, r_call, r_meth, r_slLoHi, v_nil, v_cons, a_nil, a_ref, a_val, o1_var, o1_int, o1_str, o1_bl, o1_non, o1_op, o1_meth, o1_tup, o1_lst, o1_call, o1_comp, o1_not, rez, deref, isUn, opSem, sb, sv, ofOp, asB, recv, runRet, getV, hv, dSlLo, asInt, dSl, cut_tl]
  · simp [rezs, rez, deref]
  · intro d hd
    obtain ⟨w, hw, rfl⟩ := List.mem_map.mp hd
    obtain ⟨h1, h2⟩ := hr w hw
    have hi := num_int h1 h2
    have h640 : w.length ≤ 640 := by omega
    have hget : (ρ.set k (.sh (.str w)))[k]? = some (.sh (.str w)) := List.getElem?_set_self hk
    refine ⟨rfl, fun _ => ?_⟩
    simp [fnOf, runB, runS, r_var, r_int, r_str, r_bl, r_non, r_op1, r_op2, r_and, r_or, r_not, r_tup, r_lst, r_call, r_meth, r_slLoHi, v_nil, v_cons, a_nil, a_ref, a_val, o1_var, o1_int, o1_str, o1_bl, o1_non, o1_op, o1_meth, o1_tup, o1_lst, o1_call, o1_comp, o1_not, rez, deref, isUn, opSem, sb, sv, ofOp, asB, recv, runRet, getV, frz, hget, dToInt, h640, hi, numW]
end PW

set_option linter.all false
namespace PW
open PySem PD PS
theorem shp_eq (a : Str) (n : Nat) : shp a n = ((a == "wire" || a == "leg") && ((n : Int) == 3 + if a == "leg" then 1 else 0)) := by
  unfold shp
  by_cases h1 : a = "wire"
  · subst h1
    have e : (("wire" : Str) == "leg") = false := by decide
    rw [e]
    by_cases hn : n = 3
    · subst hn; decide
    · have h1 : (n == 3) = false := beq_false_of_ne hn
      have h2 : ((n : Int) == 3 + if false = true then 1 else 0) = false := beq_false_of_ne (by simp; omega)
      rw [h1, h2]; simp
  · have e1 : (a == ("wire" : Str)) = false := beq_false_of_ne h1
    by_cases h2 : a = "leg"
    · subst h2
      rw [e1]
      by_cases hn : n = 4
      · subst hn; decide
      · have h1 : (n == 4) = false := beq_false_of_ne hn
        have h2 : ((n : Int) == 3 + if (("leg" : Str) == "leg") = true then 1 else 0) = false := beq_false_of_ne (by simp; omega)
        rw [h1, h2]; simp
    · have e2 : (a == ("leg" : Str)) = false := beq_false_of_ne h2
      rw [e1, e2]; simp
theorem ints_last (a : Str) (r : List Str) (hr : r ≠ []) : L2.atI (r.map fun w => D.int (numV w)) (-1) = some (.int (numV (lst1 a r))) := by
  refine at_last _ _ ?_
  rw [List.getLast?_map]
  unfold lst1
  rw [List.getLast_cons hr, List.getLast?_eq_getLast hr]
  rfl
def iread2 : List S := [.set 1 (.meth .split [(.var 0)] [(.str " ")]), .ifs (.or_ (.op .notin [(.op .item [(.var 1), (.int 0)]), (.tup [(.str "wire"), (.str "leg")])]) (.op .ne [(.op .len [(.var 1)]), (.op .add [(.int 3), (.op .toInt [(.op .eq [(.op .item [(.var 1), (.int 0)]), (.str "leg")])])])])) [.ret .non] [],
  .for_ 0 [(.op .slLo [(.var 1), (.int 1)])] (.name 2) wordB, .set 3 (.comp [2] 0 [(.op .slLo [(.var 1), (.int 1)])] (.name 2) none (.op .toInt [(.var 2)])), .ifs (.op .gt [(.op .item [(.var 3), (.op .neg [(.int 1)])]), (.int 1)]) [.ret .non] [], .ret (.op .toTup [(.op .add [(.op .slHi [(.var 1), (.int 1)]), (.var 3)])])]
theorem fread_eq : f__law_read = fnOf 5 iread2 := rfl
theorem for_words {t a : Str} {r : List Str} {st : List D} {s' : Slot} {f : Fl} (hf : forLoop (.name 2) (fun ρ st => runB wordB ρ st) (r.map .str) [.sh (.str t), .own (.lst (.str a :: r.map .str)), .un, .un, .un] st = .ok [.sh (.str t), .own (.lst (.str a :: r.map .str)), s', .un, .un] st f) :
    runS (.for_ 0 [(.op .slLo [(.var 1), (.int 1)])] (.name 2) wordB) [.sh (.str t), .own (.lst (.str a :: r.map .str)), .un, .un, .un] st = .ok [.sh (.str t), .own (.lst (.str a :: r.map .str)), s', .un, .un] st f := by
  rw [s_for]
  have h1 : runO [(.op .slLo [(.var 1), (.int 1)])] [.sh (.str t), .own (.lst (.str a :: r.map .str)), .un, .un, .un] st = .ok [.sh (.str t), .own (.lst (.str a :: r.map .str)), .un, .un, .un] st [.inr (.lst (r.map .str))] := by
    simp [o_one, fnOf, b_nil, b_cons, s_expr, s_set, s_append, s_insert, s_popAt, s_setItem, s_ifs, s_ret, s_retN, s_raise, r_var, r_int, r_str, r_bl, r_non, r_op1, r_op2, r_and, r_or, r_not, r_tup, r_lst, r_call, r_meth, r_slLoHi, v_nil, v_cons, a_nil, a_ref, a_val, o1_var, o1_int, o1_str, o1_bl, o1_non, o1_op, o1_meth, o1_tup, o1_lst, o1_call, o1_comp, o1_not, rez, deref, isUn, opSem, sb, sv, ofOp, asB, recv, runRet, getV, dSlLo, asInt, dSl, cut_tl]
  rw [h1]
  simp [rezs, rez, deref, items, lends, lend, unlend, hf]
theorem lread_run {t a : Str} {r : List Str} (hok : Ok t) (hl : t.length ≤ 600) (hw : Txt.split t " " = a :: r) (st : List D) :
    f__law_read [.str t] st = if shp a (r.length + 1) && (r.all goodB && !decide (1 < numV (lst1 a r))) then .ok st false (.tup (.str a :: r.map fun w => .int (numV w))) else .ok st false .non := by
  have hsp := splitD (t := t) (by omega)
  rw [hw] at hsp
  have parts : ∀ w ∈ a :: r, Ok w ∧ w.length ≤ 600 := fun w h => by
    rw [← hw] at h
    exact ⟨ok_split hok w h, Nat.le_trans (PyProof.Rows.part_short h) hl⟩
  have hlen : r.length ≤ 700 := by
    have := PyProof.Rows.split_le t " "
    rw [hw, List.length_cons] at this
    omega
  have h0 := at0 (.str a) (r.map .str)
  have hin := in_wl a
  have hS := shp_eq a (r.length + 1)
  cases h1 : (a == ("wire" : Str) || a == ("leg" : Str)) with
  | false =>
    rw [h1] at hin hS
    rw [hS]
    simp [fread_eq, iread2, fnOf, b_nil, b_cons, s_expr, s_set, s_append, s_insert, s_popAt, s_setItem, s_ifs, s_ret, s_retN, s_raise, r_var, r_int, r_str, r_bl, r_non, r_op1, r_op2, r_and, r_or, r_not, r_tup, r_lst, r_call, r_meth, r_slLoHi, v_nil, v_cons, a_nil, a_ref, a_val, o1_var, o1_int, o1_str, o1_bl, o1_non, o1_op, o1_meth, o1_tup, o1_lst, o1_call, o1_comp, o1_not, rez, deref, isUn, opSem, sb, sv, ofOp, asB, recv, runRet, getV, hsp, dItem, h0, hin, -Bool.or_eq_true, -beq_iff_eq]
  | true =>
    rw [h1] at hin hS
    have hcast : (((r.length + 1 : Nat) : Int) == 3 + if a == "leg" then 1 else 0) = ((r.length : Int) + 1 == 3 + if a == "leg" then 1 else 0) := rfl
    cases h2 : ((r.length : Int) + 1 == 3 + if a == ("leg" : Str) then 1 else 0) with
    | false =>
      have hS2 : shp a (r.length + 1) = false := by rw [hS, hcast, h2]; rfl
      have hq : dEq (.int ((r.length : Int) + 1)) (.int (3 + if a == ("leg" : Str) then 1 else 0)) = some false := by rw [dEq_int, h2]
      rw [hS2]
      simp [fread_eq, iread2, fnOf, b_nil, b_cons, s_expr, s_set, s_append, s_insert, s_popAt, s_setItem, s_ifs, s_ret, s_retN, s_raise, r_var, r_int, r_str, r_bl, r_non, r_op1, r_op2, r_and, r_or, r_not, r_tup, r_lst, r_call, r_meth, r_slLoHi, v_nil, v_cons, a_nil, a_ref, a_val, o1_var, o1_int, o1_str, o1_bl, o1_non, o1_op, o1_meth, o1_tup, o1_lst, o1_call, o1_comp, o1_not, rez, deref, isUn, opSem, sb, sv, ofOp, asB, recv, runRet, getV, hsp, dItem, h0, hin, dLen, dAdd, dToInt, dEq_str, hq, -beq_iff_eq, -Bool.or_eq_true]
    | true =>
      have hS2 : shp a (r.length + 1) = true := by rw [hS, hcast, h2]; rfl
      have hq : dEq (.int ((r.length : Int) + 1)) (.int (3 + if a == ("leg" : Str) then 1 else 0)) = some true := by rw [dEq_int, h2]
      have hr : r ≠ [] := fun z => by
        subst z
        unfold shp at hS2
        simp at hS2
      rw [hS2]
      have hloop := forLoop_stop (k := 2) (body := fun ρ st => runB wordB ρ st) (ok := okW) (fl := false) (d0 := .non) (ρ := [.sh (.str t), .own (.lst (.str a :: r.map .str)), .un, .un, .un]) (st := st) (by simp) (r.map .str) .un fun d hd => by
        obtain ⟨w, hw', rfl⟩ := List.mem_map.mp hd
        obtain ⟨p1, p2⟩ := parts w (List.mem_cons_of_mem _ hw')
        exact word_body p1 p2 _ _ st
      rw [all_okW] at hloop
      cases h3 : r.all goodB with
      | false =>
        obtain ⟨s', hf⟩ := hloop.2 h3
        simp only [List.set_cons_succ, List.set_cons_zero] at hf
        have hfor := for_words hf
        simp [fread_eq, iread2, fnOf, b_nil, b_cons, s_expr, s_set, s_append, s_insert, s_popAt, s_setItem, s_ifs, s_ret, s_retN, s_raise, r_var, r_int, r_str, r_bl, r_non, r_op1, r_op2, r_and, r_or, r_not, r_tup, r_lst, r_call, r_meth, r_slLoHi, v_nil, v_cons, a_nil, a_ref, a_val, o1_var, o1_int, o1_str, o1_bl, o1_non, o1_op, o1_meth, o1_tup, o1_lst, o1_call, o1_comp, o1_not, rez, deref, isUn, opSem, sb, sv, ofOp, asB, recv, runRet, getV, hsp, dItem, h0, hin, dLen, dAdd, dToInt, dEq_str, hq, dSlLo, asInt, dSl, cut_tl, hfor, -beq_iff_eq, -Bool.or_eq_true]
      | true =>
        obtain ⟨s', hs', hf⟩ := hloop.1 h3
        simp only [List.set_cons_succ, List.set_cons_zero] at hf
        have hfor := for_words hf
        have hof : ownFree [.sh (.str t), .own (.lst (.str a :: r.map .str)), s', .un, .un] [2] = true := by
          rcases hs' with z | ⟨d, z⟩ <;> (subst z; rfl)
        have hI := ints_run (ρ := [.sh (.str t), .own (.lst (.str a :: r.map .str)), s', .un, .un]) (st := st) (v := 1) (k := 2) (a := a) (r := r) rfl (by decide) hof (by simp) fun w h => ⟨List.all_eq_true.mp h3 w h, (parts w (List.mem_cons_of_mem _ h)).2⟩
        have hla := ints_last a r hr
        have hle : 1 + r.length ≤ 16777216 := by omega
        cases h4 : decide (1 < numV (lst1 a r)) with
        | false => simp [fread_eq, iread2, fnOf, b_nil, b_cons, s_expr, s_set, s_append, s_insert, s_popAt, s_setItem, s_ifs, s_ret, s_retN, s_raise, r_var, r_int, r_str, r_bl, r_non, r_op1, r_op2, r_and, r_or, r_not, r_tup, r_lst, r_call, r_meth, r_slLoHi, v_nil, v_cons, a_nil, a_ref, a_val, o1_var, o1_int, o1_str, o1_bl, o1_non, o1_op, o1_meth, o1_tup, o1_lst, o1_call, o1_comp, o1_not, rez, deref, isUn, opSem, sb, sv, ofOp, asB, recv, runRet, getV, hsp, dItem, h0, hin, dLen, dAdd, dToInt, dEq_str, hq, dSlLo, asInt, dSl, cut_tl, hfor, hI, dNeg, hla, dCmp, h4, dSlHi, cut_hd, dToTup, hle, -beq_iff_eq, -Bool.or_eq_true, -decide_eq_true_eq, -decide_eq_false_iff_not]
        | true => simp [fread_eq, iread2, fnOf, b_nil, b_cons, s_expr, s_set, s_append, s_insert, s_popAt, s_setItem, s_ifs, s_ret, s_retN, s_raise, r_var, r_int, r_str, r_bl, r_non, r_op1, r_op2, r_and, r_or, r_not, r_tup, r_lst, r_call, r_meth, r_slLoHi, v_nil, v_cons, a_nil, a_ref, a_val, o1_var, o1_int, o1_str, o1_bl, o1_non, o1_op, o1_meth, o1_tup, o1_lst, o1_call, o1_comp, o1_not, rez, deref, isUn, opSem, sb, sv, ofOp, asB, recv, runRet, getV, hsp, dItem, h0, hin, dLen, dAdd, dToInt, dEq_str, hq, dSlLo, asInt, dSl, cut_tl, hfor, hI, dNeg, hla, dCmp, h4, -beq_iff_eq, -Bool.or_eq_true, -decide_eq_true_eq, -decide_eq_false_iff_not]
end PW

set_option linter.all false
namespace PW
open PySem PD PS NumText
theorem fold_ge (cs : List Nat) : ∀ acc : Nat, acc ≤ cs.foldl (fun acc c => acc * 10 + (c - 48)) acc := by
  induction cs with
  | nil => intro acc; exact Nat.le_refl _
  | cons c cs ih => intro acc; exact Nat.le_trans (show acc ≤ acc * 10 + (c - 48) by omega) (ih _)
theorem good_last {w : Str} (h : goodB w = true) : (w == "0" || w == "1") = !decide (1 < numV w) := by
  have e0 : (w == ("0" : Str)) = decide (w.cps.toList = [48]) := by rw [str_beq]; rfl
  have e1 : (w == ("1" : Str)) = decide (w.cps.toList = [49]) := by rw [str_beq]; rfl
  rw [e0, e1]
  unfold numV
  unfold goodB at h
  cases hc : w.cps.toList with
  | nil => rw [hc] at h; cases h
  | cons c cs =>
    rw [hc] at h
    simp only [Bool.and_eq_true, Bool.not_eq_true', Bool.and_eq_false_iff, beq_eq_false_iff_ne] at h
    obtain ⟨⟨h1, h2⟩, h3⟩ := h
    unfold digB at h1
    simp only [Bool.and_eq_true, decide_eq_true_eq] at h1
    cases cs with
    | nil =>
      have e : digitsVal [c] = c - 48 := by simp [digitsVal]
      rw [e]
      by_cases a : c = 48
      · subst a; decide
      · by_cases b : c = 49
        · subst b; decide
        · have : (1 : Int) < ((c - 48 : Nat) : Int) := by omega
          simp [a, b, this]
    | cons d ds =>
      have hc48 : c ≠ 48 := by
        rcases h3 with z | z
        · exact z
        · simp at z
      have : 10 ≤ digitsVal (c :: d :: ds) := by
        unfold digitsVal
        rw [List.foldl_cons, List.foldl_cons]
        exact Nat.le_trans (by omega) (fold_ge ds _)
      have h1 : (1 : Int) < ((digitsVal (c :: d :: ds) : Nat) : Int) := by omega
      simp [h1]
theorem told_run {t : Str} (st : List D) {ok : Bool} {d : D} (h : f_read_fault [.str t] st = if ok then .ok st false d else .exc .text st) : f__law_told [.str t] st = .ok st false (if ok then d else .non) := by
  cases ok with
  | true =>
    rw [if_pos rfl] at h
    simp [f__law_told, i__law_told, fnOf, b_nil, b_cons, s_expr, s_set, s_append, s_insert, s_popAt, s_setItem, s_ifs, s_ret, s_retN, s_raise, r_var, r_int, r_str, r_bl, r_non, r_op1, r_op2, r_and, r_or, r_not, r_tup, r_lst, r_call, r_meth, r_slLoHi, v_nil, v_cons, a_nil, a_ref, a_val, o1_var, o1_int, o1_str, o1_bl, o1_non, o1_op, o1_meth, o1_tup, o1_lst, o1_call, o1_comp, o1_not, rez, deref, isUn, opSem, sb, sv, ofOp, asB, recv, runRet, getV, s_try, h, ofFR, dIsN]
  | false =>
    simp only [Bool.false_eq_true, if_false] at h
    simp [f__law_told, i__law_told, fnOf, b_nil, b_cons, s_expr, s_set, s_append, s_insert, s_popAt, s_setItem, s_ifs, s_ret, s_retN, s_raise, r_var, r_int, r_str, r_bl, r_non, r_op1, r_op2, r_and, r_or, r_not, r_tup, r_lst, r_call, r_meth, r_slLoHi, v_nil, v_cons, a_nil, a_ref, a_val, o1_var, o1_int, o1_str, o1_bl, o1_non, o1_op, o1_meth, o1_tup, o1_lst, o1_call, o1_comp, o1_not, rez, deref, isUn, opSem, sb, sv, ofOp, asB, recv, runRet, getV, s_try, h, ofFR, dIsN, exUnder, dIsExc, dIsVal, dItem, L2.atI, L2.ixN, dToInt]
/-- both readers, at every text -/
theorem agree {t : Str} (hok : Ok t) (hl : t.length ≤ 600) (st : List D) : ∃ d, f__law_told [.str t] st = .ok st false d ∧ f__law_read [.str t] st = .ok st false d ∧ (d = .non ∨ ∃ (a : Str) (ns : List Int), d = .tup (.str a :: ns.map .int) ∧ Ok a) := by
  obtain ⟨a, r, hw⟩ := words_ne t
  have h1 := told_run st (read_run hok hl hw st)
  have h2 := lread_run hok hl hw st
  have e : (shp a (r.length + 1) && ((lst1 a r == "0" || lst1 a r == "1") && r.all goodB)) = (shp a (r.length + 1) && (r.all goodB && !decide (1 < numV (lst1 a r)))) := by
    cases hs : shp a (r.length + 1) with
    | false => rfl
    | true =>
      cases hg : r.all goodB with
      | false => simp
      | true =>
        have hr : r ≠ [] := fun z => by subst z; unfold shp at hs; simp at hs
        have : goodB (lst1 a r) = true := by
          refine List.all_eq_true.mp hg _ ?_
          unfold lst1
          rw [List.getLast_cons hr]
          exact List.getLast_mem hr
        rw [good_last this]; simp
  rw [e] at h1
  refine ⟨_, h1, ?_, ?_⟩
  · rw [h2]; split <;> rfl
  · split
    · exact .inr ⟨a, r.map numV, by rw [List.map_map]; rfl, ok_split hok a (by rw [hw]; exact List.mem_cons_self)⟩
    · exact .inl rfl
/-- they are told alike -/
theorem agree_ne {d : D} (h : d = .non ∨ ∃ (a : Str) (ns : List Int), d = .tup (.str a :: ns.map .int) ∧ Ok a) : dEq d d = some true := by
  rcases h with rfl | ⟨a, ns, rfl, ha⟩
  · rfl
  · have hn : (ns.map D.int).all (pl 39) = true := by
      rw [List.all_map]
      exact List.all_eq_true.mpr fun _ _ => rfl
    have hp : pl 40 (.tup (.str a :: ns.map .int)) = true := by
      show (PyData.strOk a && pls 39 (ns.map .int)) = true
      rw [pls_all, ok_strOk ha, hn]; rfl
    unfold dEq
    rw [hp, Bool.and_self, Bool.or_true, if_pos rfl]
    congr 1
    have go : ∀ ns : List Int, PyData.eqvAll (toPs (ns.map .int)) (toPs (ns.map .int)) = true := fun ns => by
      induction ns with
      | nil => rfl
      | cons n ns ih =>
        show ((n == n) && PyData.eqvAll (toPs (ns.map .int)) (toPs (ns.map .int))) = true
        rw [ih]; simp
    show ((a == a) && PyData.eqvAll (toPs (ns.map .int)) (toPs (ns.map .int))) = true
    rw [go]; simp
end PW

set_option linter.all false
namespace PW
open PySem PD PS
theorem log_lt {n k : Nat} (h : n < 2 ^ k) (hk : 0 < k) : n.log2 < k := by
  by_cases h0 : n = 0
  · subst h0; simpa using hk
  · exact (Nat.log2_lt h0).mpr h
theorem mul_ok {i j : Int} {a b : Nat} (hi : i.natAbs < 2 ^ a) (hj : j.natAbs < 2 ^ b) (ha : 0 < a) (hb : 0 < b) (hab : a + b < 1000000) : dMul (.int i) (.int j) = some (false, .int (i * j)) := by
  have h1 := log_lt hi ha
  have h2 := log_lt hj hb
  show (if i.natAbs.log2 + j.natAbs.log2 < 1000000 then some (false, D.int (i * j)) else none) = _
  rw [if_pos (by omega)]
theorem add_ok (i j : Int) : dAdd (.int i) (.int j) = some (false, .int (i + j)) := rfl
theorem mul_lt {i j : Int} {a b : Nat} (hi : i.natAbs < 2 ^ a) (hj : j.natAbs < 2 ^ b) : (i * j).natAbs < 2 ^ (a + b) := by
  rw [Int.natAbs_mul, Nat.pow_add]
  exact Nat.mul_lt_mul'' hi hj
theorem stir_run (c k : Int) (hk : 1 ≤ k ∧ k ≤ 3) (st : List D) : ∃ n, f__law_stir [.int c, .int k] st = .ok st false (.int n) ∧ n.natAbs < 2 ^ 210 := by
  obtain ⟨A, hA, pA⟩ : ∃ A : Int, A = 10 ^ 40 ∧ dPow (.int 10) (.int 40) = some (false, .int A) := ⟨_, rfl, by simp [dPow]⟩
  obtain ⟨B, hB, pB⟩ : ∃ A : Int, A = 3 ^ 60 ∧ dPow (.int 3) (.int 60) = some (false, .int A) := ⟨_, rfl, by simp [dPow]⟩
  obtain ⟨C, hC, pC⟩ : ∃ A : Int, A = 10 ^ 61 ∧ dPow (.int 10) (.int 61) = some (false, .int A) := ⟨_, rfl, by simp [dPow]⟩
  have A0 : A ≠ 0 := by rw [hA]; decide
  obtain ⟨M, hM, pM⟩ : ∃ M : Int, (0 ≤ M ∧ M < A) ∧ dMod (.int c) (.int A) = some (false, .int M) := ⟨c.fmod A, ⟨Int.fmod_nonneg_of_pos c (by rw [hA]; decide), Int.fmod_lt_of_pos c (by rw [hA]; decide)⟩, by show (if A = 0 then none else some (false, D.int (c.fmod A))) = _; rw [if_neg A0]⟩
  have bM : M.natAbs < 2 ^ 140 := by have : A < 2 ^ 140 := by rw [hA]; decide
                                     omega
  have bB : B.natAbs < 2 ^ 100 := by rw [hB]; decide
  have bK : (k + 1).natAbs < 2 ^ 3 := by omega
  have p1 := mul_ok (i := M) (j := 48271) bM (b := 16) (by decide) (by decide) (by decide) (by decide)
  have b1 := mul_lt (i := M) (j := 48271) bM (b := 16) (by decide)
  have p2 := mul_ok bB bK (by decide) (by decide) (by decide)
  have b2 := mul_lt bB bK
  have p3 := mul_ok b2 bK (by decide) (by decide) (by decide)
  have b3 := mul_lt b2 bK
  generalize M * 48271 = X1 at p1 b1
  generalize B * (k + 1) = X2 at p2 b2 p3 b3
  generalize X2 * (k + 1) = X3 at p3 b3
  have b4 : (X1 + X3 + k).natAbs < 2 ^ 160 := by
    have h1 : (2 : Nat) ^ (140 + 16) = 2 ^ 156 := rfl
    have h2 : (2 : Nat) ^ (100 + 3 + 3) ≤ 2 ^ 156 := by decide
    have h3 : (2 : Nat) ^ 160 = 16 * 2 ^ 156 := by decide
    have h4 : (3 : Nat) ≤ 2 ^ 156 := by decide
    rw [h1] at b1
    rw [h3]
    omega
  have q1 := add_ok X1 X3
  have q2 := add_ok (X1 + X3) k
  generalize X1 + X3 = Y1 at q1 q2 b4
  generalize Y1 + k = Y2 at q2 b4
  have p5 := mul_ok b4 b4 (by decide) (by decide) (by decide)
  have b5 := mul_lt b4 b4
  have p6 := mul_ok (i := 69621) (j := Y2) (a := 17) (by decide) b4 (by decide) (by decide) (by decide)
  have b6 := mul_lt (i := 69621) (j := Y2) (a := 17) (by decide) b4
  generalize Y2 * Y2 = Z1 at p5 b5
  generalize 69621 * Y2 = Z2 at p6 b6
  have b7 : (Z1 + Z2).natAbs < 2 ^ (160 + 160 + 1) := by
    have h2 : (2 : Nat) ^ (17 + 160) ≤ 2 ^ (160 + 160) := Nat.pow_le_pow_right (by decide) (by decide)
    rw [Nat.pow_succ]
    omega
  have q3 := add_ok Z1 Z2
  generalize Z1 + Z2 = Z3 at q3 b7
  have p8 := mul_ok b7 b7 (by decide) (by decide) (by decide)
  generalize Z3 * Z3 = Z4 at p8
  have q4 := add_ok C 7
  have C0 : 0 < C + 7 := by rw [hC]; decide
  have Cb : C + 7 < 2 ^ 210 := by rw [hC]; decide
  generalize C + 7 = C7 at q4 C0 Cb
  obtain ⟨R, hR, pR⟩ : ∃ M : Int, (0 ≤ M ∧ M < C7) ∧ dMod (.int Z4) (.int C7) = some (false, .int M) := ⟨Z4.fmod C7, ⟨Int.fmod_nonneg_of_pos Z4 C0, Int.fmod_lt_of_pos Z4 C0⟩, by show (if C7 = 0 then none else some (false, D.int (Z4.fmod C7))) = _; rw [if_neg (by omega)]⟩
  have p9 : dFdiv (.int R) (.int 8) = some (false, .int (R / 8)) := by
    show (if (0 : Int) < 8 ∧ (8 : Int).natAbs.log2 < 9000 then some (false, D.int (R / 8)) else none) = _
    rw [if_pos (by decide)]
  refine ⟨R / 8, ?_, by omega⟩
  simp [f__law_stir, i__law_stir, fnOf, b_nil, b_cons, s_expr, s_set, s_append, s_insert, s_popAt, s_setItem, s_ifs, s_ret, s_retN, s_raise, r_var, r_int, r_str, r_bl, r_non, r_op1, r_op2, r_and, r_or, r_not, r_tup, r_lst, r_call, r_meth, r_slLoHi, v_nil, v_cons, a_nil, a_ref, a_val, o1_var, o1_int, o1_str, o1_bl, o1_non, o1_op, o1_meth, o1_tup, o1_lst, o1_call, o1_comp, o1_not, rez, deref, isUn, opSem, sb, sv, ofOp, asB, recv, runRet, getV, pA, pB, pC, pM, p1, p2, p3, p5, p6, p8, p9, q1, q2, q3, q4, pR, add_ok k 1]
end PW

set_option linter.all false
namespace PW
open PySem PD PS
theorem take_run (n m : Int) (hm : 0 < m) (hl : m.natAbs < 2 ^ 250) (i : Nat) (st : List D) (hs : st[i]? = some (.lst [.int n])) :
    f__law_take [.cell i, .int m] st = .ok (st.set i (.lst [.int (n / m)])) false (.int (n.fmod m)) := by
  have h0 : m ≠ 0 := by omega
  have hi : i < st.length := (List.getElem?_eq_some_iff.mp hs).1
  have hg : m.natAbs.log2 < 9000 := Nat.lt_trans (log_lt hl (by decide)) (by decide)
  simp [f__law_take, i__law_take, fnOf, b_nil, b_cons, s_expr, s_set, s_append, s_insert, s_popAt, s_setItem, s_ifs, s_ret, s_retN, s_raise, r_var, r_int, r_str, r_bl, r_non, r_op1, r_op2, r_and, r_or, r_not, r_tup, r_lst, r_call, r_meth, r_slLoHi, v_nil, v_cons, a_nil, a_ref, a_val, o1_var, o1_int, o1_str, o1_bl, o1_non, o1_op, o1_meth, o1_tup, o1_lst, o1_call, o1_comp, o1_not, rez, deref, isUn, opSem, sb, sv, ofOp, asB, recv, runRet, getV, hs, dItem, L2.atI, L2.ixN, dMod, h0, dFdiv, hm, hg, modV, mPut, noFl]
/-- a deck -/
def Dk (st : List D) (i : Nat) : Prop := ∃ n : Int, st[i]? = some (.lst [.int n])
theorem Dk.set {st : List D} {i : Nat} (h : Dk st i) (n : Int) : Dk (st.set i (.lst [.int n])) i := by
  obtain ⟨m, h⟩ := h
  exact ⟨n, List.getElem?_set_self (List.getElem?_eq_some_iff.mp h).1⟩
/-- a draw: the number, the deck goes on -/
theorem take_any {m : Int} (hm : 0 < m) (hl : m.natAbs < 2 ^ 250) {i : Nat} {st : List D} (h : Dk st i) : ∃ st' j, f__law_take [.cell i, .int m] st = .ok st' false (.int j) ∧ 0 ≤ j ∧ j < m ∧ Dk st' i ∧ st'.length = st.length := by
  obtain ⟨n, hs⟩ := h
  exact ⟨_, _, take_run n m hm hl i st hs, Int.fmod_nonneg_of_pos n hm, Int.fmod_lt_of_pos n hm, Dk.set ⟨n, hs⟩ _, List.length_set⟩
theorem deck_run (c : Int) (st : List D) : ∃ n, f__law_deck [.int c] st = .ok st true (.lst [.int n]) := by
  obtain ⟨A, hA, pA⟩ : ∃ A : Int, A = 10 ^ 18 ∧ dPow (.int 10) (.int 18) = some (false, .int A) := ⟨_, rfl, by simp [dPow]⟩
  obtain ⟨B, hB, pB⟩ : ∃ A : Int, A = 10 ^ 60 ∧ dPow (.int 10) (.int 60) = some (false, .int A) := ⟨_, rfl, by simp [dPow]⟩
  have bB : B.natAbs < 2 ^ 200 := by rw [hB]; decide
  obtain ⟨n1, e1, l1⟩ := stir_run c 1 (by omega) st
  obtain ⟨n2, e2, l2⟩ := stir_run c 2 (by omega) st
  obtain ⟨n3, e3, l3⟩ := stir_run c 3 (by omega) st
  have p1 := mul_ok l1 bB (by decide) (by decide) (by decide)
  have b1 := mul_lt l1 bB
  have q1 := add_ok (n1 * B) n2
  have b2 : (n1 * B + n2).natAbs < 2 ^ (210 + 200 + 1) := by
    have h2 : (2 : Nat) ^ 210 ≤ 2 ^ (210 + 200) := Nat.pow_le_pow_right (by decide) (by decide)
    rw [Nat.pow_succ]
    omega
  have p2 := mul_ok b2 bB (by decide) (by decide) (by decide)
  cases h : decide (A ≤ c) with
  | true =>
    refine ⟨c - A, ?_⟩
    simp [f__law_deck, i__law_deck, fnOf, b_nil, b_cons, s_expr, s_set, s_append, s_insert, s_popAt, s_setItem, s_ifs, s_ret, s_retN, s_raise, r_var, r_int, r_str, r_bl, r_non, r_op1, r_op2, r_and, r_or, r_not, r_tup, r_lst, r_call, r_meth, r_slLoHi, v_nil, v_cons, a_nil, a_ref, a_val, o1_var, o1_int, o1_str, o1_bl, o1_non, o1_op, o1_meth, o1_tup, o1_lst, o1_call, o1_comp, o1_not, rez, deref, isUn, opSem, sb, sv, ofOp, asB, recv, runRet, getV, pA, dCmp, h, dSub, -decide_eq_true_eq, -decide_eq_false_iff_not]
  | false =>
    refine ⟨(n1 * B + n2) * B + n3, ?_⟩
    simp [f__law_deck, i__law_deck, fnOf, b_nil, b_cons, s_expr, s_set, s_append, s_insert, s_popAt, s_setItem, s_ifs, s_ret, s_retN, s_raise, r_var, r_int, r_str, r_bl, r_non, r_op1, r_op2, r_and, r_or, r_not, r_tup, r_lst, r_call, r_meth, r_slLoHi, v_nil, v_cons, a_nil, a_ref, a_val, o1_var, o1_int, o1_str, o1_bl, o1_non, o1_op, o1_meth, o1_tup, o1_lst, o1_call, o1_comp, o1_not, rez, deref, isUn, opSem, sb, sv, ofOp, asB, recv, runRet, getV, pA, pB, dCmp, h, e1, e2, e3, ofFR, p1, q1, p2, dAdd, -decide_eq_true_eq, -decide_eq_false_iff_not]
theorem num_str {j : Int} (h0 : 0 ≤ j) (h1 : j < 10 ^ 40) : ∃ s, dToStr (.int j) = some (false, .str s) ∧ Ok s ∧ s.length ≤ 40 := by
  obtain ⟨n, rfl⟩ := Int.eq_ofNat_of_zero_le h0
  have hn : n < 10 ^ 40 := by omega
  have hl : ((n : Int)).natAbs.log2 < 1920 := by
    have : ((n : Int)).natAbs < 2 ^ 200 := by
      have : (10 : Nat) ^ 40 < 2 ^ 200 := by decide
      omega
    exact Nat.lt_trans (log_lt this (by decide)) (by decide)
  refine ⟨toString (n : Int), ?_, ?_, ?_⟩
  · show (if ((n : Int)).natAbs.log2 < 1920 then some (false, D.str (toString (n : Int))) else none) = _
    rw [if_pos hl]
  · intro c hc
    have e : (Str.ofString (toString ((n : Nat) : Int))).cps.toList = TL.numL n := TL.tl_num n
    have hc' : c ∈ TL.numL n := by rw [← e]; exact hc
    have := TL.numL_digits n c hc'
    omega
  · have e : (Str.ofString (toString ((n : Nat) : Int))).cps.toList = TL.numL n := TL.tl_num n
    show (Str.ofString (toString ((n : Nat) : Int))).cps.size ≤ 40
    rw [← Array.length_toList, e]
    exact TL.numL_len (by decide) hn
theorem ok_lit {s : Str} (h : s.cps.all (fun c => decide (c < 0x110000)) = true) : Ok s := fun c hc => by
  rw [Array.all_eq_true'] at h
  exact of_decide_eq_true (h c (Array.mem_toList_iff.mp hc))
end PW

set_option linter.all false
namespace PW
open PySem PD PS
theorem join_len (g : Str) (ps : List Str) : (Txt.join g ps).length ≤ (ps.map (·.length)).sum + ps.length * g.length := by
  have go : ∀ (qs : List Str) (acc : Array Nat), (qs.foldl (fun acc p => acc ++ g.cps ++ p.cps) acc).size ≤ acc.size + ((qs.map (·.length)).sum + qs.length * g.length) := by
    intro qs
    induction qs with
    | nil => intro acc; simp
    | cons q qs ih =>
      intro acc
      have := ih (acc ++ g.cps ++ q.cps)
      rw [Array.size_append, Array.size_append] at this
      rw [List.foldl_cons, List.map_cons, List.sum_cons, List.length_cons, Nat.succ_mul]
      have e1 : g.cps.size = g.length := rfl
      have e2 : q.cps.size = q.length := rfl
      omega
  cases ps with
  | nil => exact Nat.zero_le _
  | cons p ps =>
    have := go ps p.cps
    show (ps.foldl (fun acc p => acc ++ g.cps ++ p.cps) p.cps).size ≤ _
    rw [List.map_cons, List.sum_cons, List.length_cons, Nat.succ_mul]
    have e2 : p.cps.size = p.length := rfl
    omega
theorem at1 (a b : D) (r : List D) : L2.atI (a :: b :: r) 1 = some b := by
  have : (1 : Int) < ↑r.length + 1 + 1 := by omega
  simp [L2.atI, L2.ixN, this]
theorem two {j : Int} (h0 : 0 ≤ j) (h1 : j < 2) : j = 0 ∨ j = 1 := by omega
theorem join_ok {ps : List Str} (h : ∀ p ∈ ps, Ok p) (hl : (ps.map (·.length)).sum + ps.length ≤ 10000) : dJoin (.str " ") (.lst (ps.map .str)) = some (false, .str (Txt.join " " ps)) ∧ Ok (Txt.join " " ps) ∧ (Txt.join " " ps).length ≤ (ps.map (·.length)).sum + ps.length := by
  have e : ∀ ps : List Str, strsD (ps.map .str) = some ps := fun ps => by
    induction ps with
    | nil => rfl
    | cons p ps ih => show (match strsD (ps.map .str) with | some r => some (p :: r) | none => none) = _; rw [ih]
  have h1 : (" " : Str).length = 1 := by decide
  refine ⟨?_, ok_join (ok_lit (by decide +kernel)) h, ?_⟩
  · show (strsD (ps.map .str)).bind (fun ys => if (ys.map (·.length)).sum + ys.length * (" " : Str).length ≤ 16777216 then some (false, D.str (Txt.join " " ys)) else none) = _
    rw [e]
    show (if (ps.map (·.length)).sum + ps.length * (" " : Str).length ≤ 16777216 then some (false, D.str (Txt.join " " ps)) else none) = _
    rw [if_pos (by rw [h1]; omega)]
  · have := join_len " " ps
    rw [h1] at this
    omega
theorem text_run {i : Nat} {st : List D} (h : Dk st i) : ∃ st' t, f__law_text [.cell i] st = .ok st' false (.str t) ∧ Ok t ∧ t.length ≤ 200 ∧ Dk st' i ∧ st'.length = st.length := by
  obtain ⟨A, hA, pA⟩ : ∃ A : Int, A = 10 ^ 40 ∧ dPow (.int 10) (.int 40) = some (false, .int A) := ⟨_, rfl, by simp [dPow]⟩
  obtain ⟨st1, j1, e1, a1, b1, h1, l1⟩ := take_any (m := 2) (by decide) (by decide) h
  obtain ⟨far, hfar, efar⟩ : ∃ far : Int, (0 < far ∧ far ≤ 10 ^ 40) ∧ L2.atI [D.int 26, D.int A] j1 = some (.int far) := by
    rcases two a1 b1 with rfl | rfl
    · exact ⟨26, by decide, rfl⟩
    · exact ⟨A, by rw [hA]; decide, rfl⟩
  have bfar : far.natAbs < 2 ^ 250 := by
    have : (10 : Int) ^ 40 < 2 ^ 250 := by decide
    omega
  obtain ⟨st2, j2, e2, a2, b2, h2, l2⟩ := take_any hfar.1 bfar h1
  obtain ⟨s2, n2, o2, k2⟩ := num_str a2 (by omega)
  obtain ⟨st3, j3, e3, a3, b3, h3, l3⟩ := take_any (m := 2) (by decide) (by decide) h2
  obtain ⟨st4, j4, e4, a4, b4, h4, l4⟩ := take_any hfar.1 bfar h3
  obtain ⟨s4, n4, o4, k4⟩ := num_str a4 (by omega)
  obtain ⟨st5, j5, e5, a5, b5, h5, l5⟩ := take_any (m := 2) (by decide) (by decide) h4
  obtain ⟨s5, n5, o5, k5⟩ := num_str a5 (by omega)
  have hw : (("wire" : Str)).length = 4 := by decide
  have hg : (("leg" : Str)).length = 3 := by decide
  rcases two a3 b3 with rfl | rfl
  · have J := join_ok (ps := ["wire", s4, s5]) (by
      intro p hp
      simp only [List.mem_cons, List.not_mem_nil, or_false] at hp
      rcases hp with rfl | rfl | rfl
      · exact ok_lit (by decide +kernel)
      · exact o4
      · exact o5) (by simp [hw]; omega)
    obtain ⟨J1, J2, J3⟩ := J
    refine ⟨st5, _, ?_, J2, ?_, h5, by rw [l5, l4, l3, l2, l1]⟩
    · simp only [List.map_cons, List.map_nil] at J1
      simp [f__law_text, i__law_text, fnOf, b_nil, b_cons, s_expr, s_set, s_append, s_insert, s_popAt, s_setItem, s_ifs, s_ret, s_retN, s_raise, r_var, r_int, r_str, r_bl, r_non, r_op1, r_op2, r_and, r_or, r_not, r_tup, r_lst, r_call, r_meth, r_slLoHi, v_nil, v_cons, a_nil, a_ref, a_val, o1_var, o1_int, o1_str, o1_bl, o1_non, o1_op, o1_meth, o1_tup, o1_lst, o1_call, o1_comp, o1_not, rez, deref, isUn, opSem, sb, sv, ofOp, asB, recv, runRet, getV, boxV, pA, e1, ofFR, dItem, efar, e2, n2, e3, e4, n4, e5, n5, dAdd, J1, at0, at1]
    · simp [hw] at J3; omega
  · have J := join_ok (ps := ["leg", s2, s4, s5]) (by
      intro p hp
      simp only [List.mem_cons, List.not_mem_nil, or_false] at hp
      rcases hp with rfl | rfl | rfl | rfl
      · exact ok_lit (by decide +kernel)
      · exact o2
      · exact o4
      · exact o5) (by simp [hg]; omega)
    obtain ⟨J1, J2, J3⟩ := J
    refine ⟨st5, _, ?_, J2, ?_, h5, by rw [l5, l4, l3, l2, l1]⟩
    · simp only [List.map_cons, List.map_nil] at J1
      simp [f__law_text, i__law_text, fnOf, b_nil, b_cons, s_expr, s_set, s_append, s_insert, s_popAt, s_setItem, s_ifs, s_ret, s_retN, s_raise, r_var, r_int, r_str, r_bl, r_non, r_op1, r_op2, r_and, r_or, r_not, r_tup, r_lst, r_call, r_meth, r_slLoHi, v_nil, v_cons, a_nil, a_ref, a_val, o1_var, o1_int, o1_str, o1_bl, o1_non, o1_op, o1_meth, o1_tup, o1_lst, o1_call, o1_comp, o1_not, rez, deref, isUn, opSem, sb, sv, ofOp, asB, recv, runRet, getV, boxV, pA, e1, ofFR, dItem, efar, e2, n2, e3, e4, n4, e5, n5, dAdd, J1, at0, at1]
    · simp [hg] at J3; omega
end PW

set_option linter.all false
namespace PW
open PySem PD PS
theorem at_all {G : D → Prop} {l : List D} (h : ∀ d ∈ l, G d) {j : Int} (h0 : 0 ≤ j) (h1 : j < l.length) : ∃ d, L2.atI l j = some d ∧ G d := by
  have hj : j.toNat < l.length := by omega
  refine ⟨l[j.toNat], ?_, h _ (List.getElem_mem hj)⟩
  unfold L2.atI L2.ixN
  rw [if_pos h0, if_pos h1]
  exact List.getElem?_eq_getElem hj
theorem item_sign {s : Str} (hs : Ok s) (hl : s.length ≤ 1000) {j : Int} (h0 : 0 ≤ j) (h1 : j < s.length) : ∃ u, dItem (.str s) (.int j) = some (.str u) ∧ Ok u ∧ u.length = 1 := by
  have hj : j.toNat < s.cps.toList.length := by
    have : s.cps.toList.length = s.length := rfl
    omega
  refine ⟨⟨#[s.cps.toList[j.toNat]]⟩, ?_, ok_sign hs (List.getElem_mem hj), rfl⟩
  have e : L2.atI s.cps.toList j = some s.cps.toList[j.toNat] := by
    unfold L2.atI L2.ixN
    rw [if_pos h0, if_pos (show j < s.cps.toList.length by have : s.cps.toList.length = s.length := rfl; omega)]
    exact List.getElem?_eq_getElem hj
  show (if s.length ≤ 16777216 then (L2.atI s.cps.toList j).map (fun c => D.str ⟨#[c]⟩) else none) = _
  rw [if_pos (by omega), e]
  rfl
theorem sl_hi {s : Str} (hs : Ok s) (hl : s.length ≤ 1000) (k : Int) : ∃ u, dSlHi (.str s) (.int k) = some (false, .str u) ∧ Ok u ∧ u.length ≤ s.length := by
  refine ⟨_, ?_, ok_cut hs none (some k), ?_⟩
  · show (if s.length ≤ 16777216 then some (false, D.str ⟨(cut s.cps.toList none (some k)).toArray⟩) else none) = _
    rw [if_pos (by omega)]
  · have := cut_len s.cps.toList none (some k)
    show ((cut s.cps.toList none (some k)).toArray).size ≤ s.cps.size
    rw [List.size_toArray]; exact this
theorem sl_lo {s : Str} (hs : Ok s) (hl : s.length ≤ 1000) (k : Int) : ∃ u, dSlLo (.str s) (.int k) = some (false, .str u) ∧ Ok u ∧ u.length ≤ s.length := by
  refine ⟨_, ?_, ok_cut hs (some k) none, ?_⟩
  · show (if s.length ≤ 16777216 then some (false, D.str ⟨(cut s.cps.toList (some k) none).toArray⟩) else none) = _
    rw [if_pos (by omega)]
  · have := cut_len s.cps.toList (some k) none
    show ((cut s.cps.toList (some k) none).toArray).size ≤ s.cps.size
    rw [List.size_toArray]; exact this
theorem str_add {a b : Str} (h : a.length + b.length ≤ 5000) : dAdd (.str a) (.str b) = some (false, .str (a ++ b)) := by
  show (if a.length + b.length ≤ 16777216 then some (false, D.str (a ++ b)) else none) = _
  rw [if_pos (by omega)]
def GStr (d : D) : Prop := ∃ u, d = .str u ∧ Ok u ∧ u.length ≤ 300
theorem nines : ∃ P, dMul (.str "9") (.int 50) = some (false, .str P) ∧ Ok P ∧ P.length ≤ 60 := by
  refine ⟨⟨(List.replicate 50 ("9" : Str).cps.toList).flatten.toArray⟩, ?_, ok_lit (by decide +kernel), by decide +kernel⟩
  show (if (-1000000 : Int) < 50 ∧ (50 : Int) < 1000000 ∧ ("9" : Str).length = 1 then some (false, D.str ⟨(List.replicate (50 : Int).toNat ("9" : Str).cps.toList).flatten.toArray⟩) else none) = _
  rw [if_pos (by decide)]
  rfl
theorem sum_erase (l : List Nat) (k : Nat) : (l.eraseIdx k).sum ≤ l.sum := by
  induction l generalizing k with
  | nil => simp
  | cons x l ih =>
    cases k with
    | zero => simp
    | succ k => have := ih k; simp; omega
theorem sum_set (l : List Nat) (k y : Nat) : (l.set k y).sum ≤ l.sum + y := by
  induction l generalizing k with
  | nil => simp
  | cons x l ih =>
    cases k with
    | zero => simp; omega
    | succ k => have := ih k; simp; omega
theorem sum_ins (l : List Nat) (k y : Nat) : (l.take k ++ y :: l.drop k).sum = l.sum + y := by
  have := List.sum_append (l₁ := l.take k) (l₂ := l.drop k)
  rw [List.take_append_drop] at this
  rw [List.sum_append, List.sum_cons]
  omega
end PW

set_option linter.all false
set_option maxHeartbeats 0
namespace PW
open PySem PD PS
/-- a join of words that are not long -/
theorem join_any {ps : List Str} (h : ∀ p ∈ ps, Ok p) (hl : (ps.map (·.length)).sum + ps.length ≤ 600) : ∃ u, dJoin (.str " ") (.lst (ps.map .str)) = some (false, .str u) ∧ Ok u ∧ u.length ≤ 600 := by
  obtain ⟨h1, h2, h3⟩ := join_ok h (by omega)
  exact ⟨_, h1, h2, by omega⟩
theorem map_erase {α β : Type} (f : α → β) (l : List α) (k : Nat) : (l.eraseIdx k).map f = (l.map f).eraseIdx k := by
  induction l generalizing k with
  | nil => simp
  | cons x l ih =>
    cases k with
    | zero => simp
    | succ k => simp [ih k]
theorem small {n : Int} (h0 : 0 ≤ n) (h1 : n ≤ 1000) : n.natAbs < 2 ^ 250 := by
  have : (1000 : Nat) < 2 ^ 250 := by decide
  omega
theorem lit29 : ("0123456789 wirelgWL-+.,;_#~\n " : Str).length = 29 := by decide +kernel
theorem spoilt_run {i : Nat} {st : List D} {t : Str} (h : Dk st i) (ht : Ok t) (hl : t.length ≤ 200) : ∃ st' t', f__law_spoilt [.cell i, .str t] st = .ok st' false (.str t') ∧ Ok t' ∧ t'.length ≤ 600 ∧ Dk st' i ∧ st'.length = st.length := by
  obtain ⟨st1, j1, e1, a1, b1, h1, l1⟩ := take_any (m := 7) (by decide) (by decide) h
  have hlen : dLen (.str t) = some t.length := by
    show (if t.length ≤ 16777216 then some t.length else none) = _
    rw [if_pos (by omega)]
  obtain ⟨st2, j2, e2, a2, b2, h2, l2⟩ := take_any (m := (t.length : Int) + 1) (by omega) (small (by omega) (by omega)) h1
  obtain ⟨st3, j3, e3, a3, b3, h3, l3⟩ := take_any (m := 29) (by decide) (by decide) h2
  obtain ⟨sg, hsg, osg, lsg⟩ := item_sign (s := "0123456789 wirelgWL-+.,;_#~\n ") (ok_lit (by decide +kernel)) (by decide +kernel) a3 (by rw [lit29]; exact b3)
  have hsp := splitD (t := t) (by omega)
  obtain ⟨a, r, hw⟩ := words_ne t
  have okw : ∀ w ∈ a :: r, Ok w := fun w hm => ok_split ht w (by rw [hw]; exact hm)
  have wt := PyProof.Rows.split_weight t " " (by decide)
  rw [hw] at hsp wt
  generalize hws : a :: r = ws at hsp wt okw
  have wl : 0 < ws.length := by rw [← hws]; simp
  have wl2 : ws.length ≤ 201 := by omega
  obtain ⟨st4, j4, e4, a4, b4, h4, l4⟩ := take_any (m := (ws.length : Int)) (by omega) (small (by omega) (by omega)) h3
  have L4 : st4.length = st.length := by rw [l4, l3, l2, l1]
  obtain ⟨P, pP, oP, lP⟩ := nines
  obtain ⟨hi, qhi, ohi, lhi⟩ := sl_hi ht (by omega) j2
  obtain ⟨lo, qlo, olo, llo⟩ := sl_lo ht (by omega) j2
  obtain ⟨lo1, qlo1, olo1, llo1⟩ := sl_lo ht (by omega) (j2 + 1)
  have s1 := str_add (a := hi) (b := sg) (by omega)
  have s1l := len_app hi sg
  have s2 := str_add (a := hi ++ sg) (b := lo) (by omega)
  have s2l := len_app (hi ++ sg) lo
  have s3 := str_add (a := hi) (b := lo1) (by omega)
  have s3l := len_app hi lo1
  have s4 := str_add (a := hi ++ sg) (b := lo1) (by omega)
  have s4l := len_app (hi ++ sg) lo1
  have hc : j1 = 0 ∨ j1 = 1 ∨ j1 = 2 ∨ j1 = 3 ∨ j1 = 4 ∨ j1 = 5 ∨ j1 = 6 := by omega
  let menu : List D := [.str "", .str "0", .str "1", .str "2", .str "00", .str "01", .str "-1", .str "+1", .str "1_0", .str P, .str "wire", .str "leg", .str "Wire", .str "legs", .str "x", .str "10"]
  have gmenu : ∀ d ∈ menu, GStr d := by
    intro d hd
    simp only [menu, List.mem_cons, List.not_mem_nil, or_false] at hd
    rcases hd with rfl | rfl | rfl | rfl | rfl | rfl | rfl | rfl | rfl | rfl | rfl | rfl | rfl | rfl | rfl | rfl
    all_goals first
      | exact ⟨_, rfl, oP, by omega⟩
      | exact ⟨_, rfl, ok_lit (by decide +kernel), by decide +kernel⟩
  have pick : ∃ st5 m, (∃ j5, f__law_take [.cell i, .int 16] st4 = .ok st5 false (.int j5) ∧ L2.atI menu j5 = some (.str m)) ∧ Ok m ∧ m.length ≤ 300 ∧ Dk st5 i ∧ st5.length = st.length := by
    obtain ⟨st5, j5, e5, a5, b5, h5, l5⟩ := take_any (m := 16) (by decide) (by decide) h4
    obtain ⟨d, hd, m, rfl, om, lm⟩ := at_all gmenu a5 (by show j5 < ((16 : Nat) : Int); exact b5)
    exact ⟨st5, m, ⟨j5, e5, hd⟩, om, lm, h5, by rw [l5, L4]⟩
  obtain ⟨st5, m, ⟨j5, e5, hm⟩, om, lm, h5, L5⟩ := pick
  have e0 : L2.ixN ws.length j4 = some j4.toNat := by unfold L2.ixN; rw [if_pos a4, if_pos b4]
  simp only [menu] at hm
  have hm' : dItem (.lst [.str "", .str "0", .str "1", .str "2", .str "00", .str "01", .str "-1", .str "+1", .str "1_0", .str P, .str "wire", .str "leg", .str "Wire", .str "legs", .str "x", .str "10"]) (.int j5) = some (.str m) := hm
  have hlt : t.length ≤ 16777216 := by omega
  have hwl : ws.length < 1000000 := by omega
  rcases hc with rfl | rfl | rfl | rfl | rfl | rfl | rfl
  · refine ⟨st4, hi ++ sg ++ lo, ?_, ok_app (ok_app ohi osg) olo, by omega, h4, L4⟩
    simp [f__law_spoilt, i__law_spoilt, fnOf, b_nil, b_cons, s_expr, s_set, s_append, s_insert, s_popAt, s_setItem, s_ifs, s_ret, s_retN, s_raise, r_var, r_int, r_str, r_bl, r_non, r_op1, r_op2, r_and, r_or, r_not, r_tup, r_lst, r_call, r_meth, r_slLoHi, v_nil, v_cons, a_nil, a_ref, a_val, o1_var, o1_int, o1_str, o1_bl, o1_non, o1_op, o1_meth, o1_tup, o1_lst, o1_call, o1_comp, o1_not, rez, deref, isUn, opSem, sb, sv, ofOp, asB, recv, runRet, getV, boxV, e1, ofFR, hlt, add_ok, e2, e3, hsg, hsp, dLen, e4, pP, dEq_int, qhi, qlo, s1, s2]
  · refine ⟨st4, hi ++ lo1, ?_, ok_app ohi olo1, by omega, h4, L4⟩
    simp [f__law_spoilt, i__law_spoilt, fnOf, b_nil, b_cons, s_expr, s_set, s_append, s_insert, s_popAt, s_setItem, s_ifs, s_ret, s_retN, s_raise, r_var, r_int, r_str, r_bl, r_non, r_op1, r_op2, r_and, r_or, r_not, r_tup, r_lst, r_call, r_meth, r_slLoHi, v_nil, v_cons, a_nil, a_ref, a_val, o1_var, o1_int, o1_str, o1_bl, o1_non, o1_op, o1_meth, o1_tup, o1_lst, o1_call, o1_comp, o1_not, rez, deref, isUn, opSem, sb, sv, ofOp, asB, recv, runRet, getV, boxV, e1, ofFR, hlt, add_ok, e2, e3, hsg, hsp, dLen, e4, pP, dEq_int, qhi, qlo1, s3]
  · refine ⟨st4, hi ++ sg ++ lo1, ?_, ok_app (ok_app ohi osg) olo1, by omega, h4, L4⟩
    simp [f__law_spoilt, i__law_spoilt, fnOf, b_nil, b_cons, s_expr, s_set, s_append, s_insert, s_popAt, s_setItem, s_ifs, s_ret, s_retN, s_raise, r_var, r_int, r_str, r_bl, r_non, r_op1, r_op2, r_and, r_or, r_not, r_tup, r_lst, r_call, r_meth, r_slLoHi, v_nil, v_cons, a_nil, a_ref, a_val, o1_var, o1_int, o1_str, o1_bl, o1_non, o1_op, o1_meth, o1_tup, o1_lst, o1_call, o1_comp, o1_not, rez, deref, isUn, opSem, sb, sv, ofOp, asB, recv, runRet, getV, boxV, e1, ofFR, hlt, add_ok, e2, e3, hsg, hsp, dLen, e4, pP, dEq_int, qhi, qlo1, s1, s4]
  · obtain ⟨st6, j6, e6, a6, b6, h6, l6⟩ := take_any (m := 4) (by decide) (by decide) h4
    have lb : (" " : Str).length = 1 := by decide
    have ln : ("\n" : Str).length = 1 := by decide
    have lbb : ("  " : Str).length = 2 := by decide
    have x1 := str_add (a := " ") (b := t) (by omega)
    have x2 := str_add (a := t) (b := " ") (by omega)
    have x3 := str_add (a := t) (b := "\n") (by omega)
    have y1 := len_app " " t
    have y2 := len_app t " "
    have y3 := len_app t "\n"
    have y4 := repN_len t " " "  " 1
    have ob : Ok " " := ok_lit (by decide +kernel)
    have on : Ok "\n" := ok_lit (by decide +kernel)
    have obb : Ok "  " := ok_lit (by decide +kernel)
    have x4 : dRep1 (.str t) = some (false, .str (repN t " " "  " 1)) := by
      show (if t.length ≤ 1000000 then some (false, D.str (repN t " " "  " 1)) else none) = _
      rw [if_pos (by omega)]
    have g4 : ∀ d ∈ [D.str (" " ++ t), .str (t ++ " "), .str (t ++ "\n"), .str (repN t " " "  " 1)], GStr d := by
      intro d hd
      simp only [List.mem_cons, List.not_mem_nil, or_false] at hd
      rcases hd with rfl | rfl | rfl | rfl
      · exact ⟨_, rfl, ok_app ob ht, by omega⟩
      · exact ⟨_, rfl, ok_app ht ob, by omega⟩
      · exact ⟨_, rfl, ok_app ht on, by omega⟩
      · exact ⟨_, rfl, ok_repN ht obb 1, by omega⟩
    obtain ⟨d, hd, u, rfl, ou, lu⟩ := at_all g4 a6 (by show j6 < ((4 : Nat) : Int); exact b6)
    have hd' : dItem (.lst [D.str (" " ++ t), .str (t ++ " "), .str (t ++ "\n"), .str (repN t " " "  " 1)]) (.int j6) = some (.str u) := hd
    refine ⟨st6, u, ?_, ou, by omega, h6, by rw [l6, L4]⟩
    simp [f__law_spoilt, i__law_spoilt, fnOf, b_nil, b_cons, s_expr, s_set, s_append, s_insert, s_popAt, s_setItem, s_ifs, s_ret, s_retN, s_raise, r_var, r_int, r_str, r_bl, r_non, r_op1, r_op2, r_and, r_or, r_not, r_tup, r_lst, r_call, r_meth, r_slLoHi, v_nil, v_cons, a_nil, a_ref, a_val, o1_var, o1_int, o1_str, o1_bl, o1_non, o1_op, o1_meth, o1_tup, o1_lst, o1_call, o1_comp, o1_not, rez, deref, isUn, opSem, sb, sv, ofOp, asB, recv, runRet, getV, boxV, e1, ofFR, hlt, add_ok, e2, e3, hsg, hsp, dLen, e4, pP, dEq_int, x1, x2, x3, x4, e6, hd']
  · obtain ⟨u, ju, ou, lu⟩ := join_any (ps := ws.take j4.toNat ++ m :: ws.drop j4.toNat) (fun p hp => by
      rcases List.mem_append.mp hp with z | z
      · exact okw p (List.mem_of_mem_take z)
      · rcases List.mem_cons.mp z with z | z
        · rw [z]; exact om
        · exact okw p (List.mem_of_mem_drop z)) (by
      have := sum_ins (ws.map (·.length)) j4.toNat m.length
      rw [List.map_append, List.map_cons, List.map_take, List.map_drop, this, List.length_append, List.length_cons, List.length_take, List.length_drop]
      omega)
    refine ⟨st5, u, ?_, ou, lu, h5, L5⟩
    have ins : mIns (.int j4) (.str m) (.lst (ws.map .str)) = some (.lst ((ws.take j4.toNat ++ m :: ws.drop j4.toNat).map .str)) := by
      show (if 0 ≤ j4 ∧ j4 ≤ (ws.map D.str).length ∧ (ws.map D.str).length < 1000000 then some (D.lst ((ws.map D.str).take j4.toNat ++ .str m :: (ws.map D.str).drop j4.toNat)) else none) = _
      rw [if_pos (by rw [List.length_map]; omega), List.map_append, List.map_cons, List.map_take, List.map_drop]
    simp only [List.map_append, List.map_cons] at ju ins
    simp [f__law_spoilt, i__law_spoilt, fnOf, b_nil, b_cons, s_expr, s_set, s_append, s_insert, s_popAt, s_setItem, s_ifs, s_ret, s_retN, s_raise, r_var, r_int, r_str, r_bl, r_non, r_op1, r_op2, r_and, r_or, r_not, r_tup, r_lst, r_call, r_meth, r_slLoHi, v_nil, v_cons, a_nil, a_ref, a_val, o1_var, o1_int, o1_str, o1_bl, o1_non, o1_op, o1_meth, o1_tup, o1_lst, o1_call, o1_comp, o1_not, rez, deref, isUn, opSem, sb, sv, ofOp, asB, recv, runRet, getV, boxV, e1, ofFR, hlt, add_ok, e2, e3, hsg, hsp, dLen, e4, pP, dEq_int, lstAt, e5, hm', modV, ins, noFl, ju, -List.map_append, -List.map_take, -List.map_drop]
  · obtain ⟨u, ju, ou, lu⟩ := join_any (ps := ws.eraseIdx j4.toNat) (fun p hp => okw p (List.mem_of_mem_eraseIdx hp)) (by
      have := sum_erase (ws.map (·.length)) j4.toNat
      have h2 := List.length_eraseIdx_le ws j4.toNat
      rw [map_erase]
      omega)
    refine ⟨st4, u, ?_, ou, lu, h4, L4⟩
    have pop : mPop (.int j4) (.lst (ws.map .str)) = some (.lst ((ws.eraseIdx j4.toNat).map .str)) := by
      show (if 0 ≤ j4 ∧ j4 < (ws.map D.str).length ∧ (ws.map D.str).length < 1000000 then some (D.lst ((ws.map D.str).eraseIdx j4.toNat)) else none) = _
      rw [if_pos (by rw [List.length_map]; omega), map_erase]
    simp [f__law_spoilt, i__law_spoilt, fnOf, b_nil, b_cons, s_expr, s_set, s_append, s_insert, s_popAt, s_setItem, s_ifs, s_ret, s_retN, s_raise, r_var, r_int, r_str, r_bl, r_non, r_op1, r_op2, r_and, r_or, r_not, r_tup, r_lst, r_call, r_meth, r_slLoHi, v_nil, v_cons, a_nil, a_ref, a_val, o1_var, o1_int, o1_str, o1_bl, o1_non, o1_op, o1_meth, o1_tup, o1_lst, o1_call, o1_comp, o1_not, rez, deref, isUn, opSem, sb, sv, ofOp, asB, recv, runRet, getV, boxV, e1, ofFR, hlt, add_ok, e2, e3, hsg, hsp, dLen, e4, pP, dEq_int, lstAt, modV, pop, noFl, ju]
  · obtain ⟨u, ju, ou, lu⟩ := join_any (ps := ws.set j4.toNat m) (fun p hp => by
      rcases List.mem_or_eq_of_mem_set hp with z | z
      · exact okw p z
      · rw [z]; exact om) (by
      have := sum_set (ws.map (·.length)) j4.toNat m.length
      rw [List.map_set, List.length_set]
      omega)
    refine ⟨st5, u, ?_, ou, lu, h5, L5⟩
    have put : mPut (.int j4) (.str m) (.lst (ws.map .str)) = some (.lst ((ws.set j4.toNat m).map .str)) := by
      show ((L2.ixN (ws.map D.str).length j4).map fun j => D.lst ((ws.map D.str).set j (.str m))) = _
      rw [List.length_map, e0, List.map_set]
      rfl
    simp [f__law_spoilt, i__law_spoilt, fnOf, b_nil, b_cons, s_expr, s_set, s_append, s_insert, s_popAt, s_setItem, s_ifs, s_ret, s_retN, s_raise, r_var, r_int, r_str, r_bl, r_non, r_op1, r_op2, r_and, r_or, r_not, r_tup, r_lst, r_call, r_meth, r_slLoHi, v_nil, v_cons, a_nil, a_ref, a_val, o1_var, o1_int, o1_str, o1_bl, o1_non, o1_op, o1_meth, o1_tup, o1_lst, o1_call, o1_comp, o1_not, rez, deref, isUn, opSem, sb, sv, ofOp, asB, recv, runRet, getV, boxV, e1, ofFR, hlt, add_ok, e2, e3, hsg, hsp, dLen, e4, pP, dEq_int, lstAt, e5, hm', modV, put, noFl, ju, -List.map_set]
end PW

set_option linter.all false
set_option maxHeartbeats 0
namespace PW
open PySem PD PS
def tellB : List S := [.ifs (.op .ne [(.call f__law_told [false] [(.var 5)]), (.call f__law_read [false] [(.var 5)])]) [.ret (.bl false)] []]
def cellB : List S := [.set 3 (.call f__law_deck [false] [(.var 1)]), .set 4 (.call f__law_text [true] [(.var 3)]), .for_ 0 [(.op .add [(.lst [(.var 4)]), (.comp [6] 1 [(.int 3)] (.name 6) none (.call f__law_spoilt [true, false] [(.var 3), (.var 4)]))])] (.name 5) tellB]
def GT (d : D) : Prop := ∃ u, d = .str u ∧ Ok u ∧ u.length ≤ 600
/-- the slots between the turns -/
def P1 (ns : List Int) (ρ : List Slot) (st : List D) : Prop := ∃ s1 s3 s4 s5, ρ = [.sh (.scr ns), s1, .un, s3, s4, s5, .un] ∧ (s5 = .un ∨ ∃ d, s5 = .sh d)
theorem compLoop_len (own : List Nat) (tg : Tg) (test : Sm Bool) (elt : Sm D) : ∀ (its acc : List D) (ρ : List Slot) (st : List D) (ρ' : List Slot) (st' : List D) (r : List D), compLoop own tg test elt its acc ρ st = .ok ρ' st' r → r.length ≤ acc.length + its.length
  | [], acc, ρ, st, ρ', st', r, h => by
    unfold compLoop at h
    cases h; simp
  | d :: its, acc, ρ, st, ρ', st', r, h => by
    unfold compLoop at h
    cases h1 : setT tg d ρ with
    | none => rw [h1] at h; cases h
    | some ρ1 =>
      rw [h1] at h
      simp only [] at h
      cases h2 : test ρ1 st with
      | stuck => rw [h2] at h; cases h
      | exc e a b => rw [h2] at h; cases h
      | ok ρ2 st2 b =>
        rw [h2] at h
        simp only [bind_ok] at h
        cases b with
        | false =>
          simp only [Bool.false_eq_true, if_false] at h
          have := compLoop_len own tg test elt its acc _ _ _ _ _ h
          rw [List.length_cons]; omega
        | true =>
          simp only [if_true] at h
          cases h3 : elt ρ2 st2 with
          | stuck => rw [h3] at h; cases h
          | exc e a b => rw [h3] at h; cases h
          | ok ρ3 st3 y =>
            rw [h3] at h
            simp only [bind_ok] at h
            have := compLoop_len own tg test elt its (acc ++ [y]) _ _ _ _ _ h
            rw [List.length_append, List.length_singleton] at this
            rw [List.length_cons]; omega
/-- [spoilt(deck, text) for k in range(3)] -/
theorem spoils_run {ns : List Int} {c : D} {i : Nat} {t : Str} {s5 : Slot} {st : List D} (h : Dk st i) (ht : Ok t) (hl : t.length ≤ 200) :
    ∃ st' r, PD.run (.comp [6] 1 [(.int 3)] (.name 6) none (.call f__law_spoilt [true, false] [(.var 3), (.var 4)])) [.sh (.scr ns), .sh c, .un, .sh (.cell i), .sh (.str t), s5, .un] st = .ok [.sh (.scr ns), .sh c, .un, .sh (.cell i), .sh (.str t), s5, .un] st' (true, .lst r) ∧ (∀ d ∈ r, GT d) ∧ r.length ≤ 3 := by
  have hi : items 1 [.int 3] = some [.int 0, .int 1, .int 2] := by
    show (if (3 : Int) ≤ 16777216 ∧ -(2 ^ 62) ≤ (3 : Int) then some ((List.range (3 : Int).toNat).map fun i => D.int (i : Nat)) else none) = _
    rw [if_pos (by decide)]
    rfl
  obtain ⟨ρ', st', r, h1, ⟨h2, _⟩, h3⟩ := compLoop_inv [6] (.name 6) (fun ρ st => frz (PD.run (.call f__law_spoilt [true, false] [(.var 3), (.var 4)]) ρ st)) (fun ρ st => ρ = [.sh (.scr ns), .sh c, .un, .sh (.cell i), .sh (.str t), s5, .un] ∧ Dk st i) GT [.int 0, .int 1, .int 2] [] [.sh (.scr ns), .sh c, .un, .sh (.cell i), .sh (.str t), s5, .un] st ⟨rfl, h⟩ (fun d hd ρ st ⟨hρ, hD⟩ => by
    subst hρ
    obtain ⟨st2, u, e, ou, lu, h6, _⟩ := spoilt_run hD ht hl
    refine ⟨[.sh (.scr ns), .sh c, .un, .sh (.cell i), .sh (.str t), s5, .sh d], [.sh (.scr ns), .sh c, .un, .sh (.cell i), .sh (.str t), s5, .sh d], st2, .str u, rfl, ?_, ⟨rfl, h6⟩, u, rfl, ou, lu⟩
    simp [frz, r_call, a_ref, a_val, a_nil, boxV, r_var, getV, e, ofFR]) (fun y hy => nomatch hy)
  have hlen := compLoop_len _ _ _ _ _ _ _ _ _ _ _ h1
  refine ⟨st', r, ?_, h3, by simpa using hlen⟩
  rw [run_comp]
  simp only [o_one, o1_int, bind_ok]
  simp only [rezs, rez, deref, hi]
  show (if ownFree [.sh (.scr ns), .sh c, .un, .sh (.cell i), .sh (.str t), s5, .un] [6] = true then (blkS [6] (.name 6) none (.call f__law_spoilt [true, false] [(.var 3), (.var 4)]) [.int 0, .int 1, .int 2] [] [.sh (.scr ns), .sh c, .un, .sh (.cell i), .sh (.str t), s5, .un] st).bindX _ _ else _) = _
  rw [if_pos (by rfl)]
  unfold blkS
  have h1' : compLoop [6] (.name 6) (condS none) (fun ρ st => frz (PD.run (.call f__law_spoilt [true, false] [(.var 3), (.var 4)]) ρ st)) [.int 0, .int 1, .int 2] [] [.sh (.scr ns), .sh c, .un, .sh (.cell i), .sh (.str t), s5, .un] st = .ok ρ' st' r := h1
  rw [h1', h2]
  rfl
theorem tell_run {d : D} (h : GT d) {ns : List Int} {c : D} {s3 s4 : Slot} (st : List D) : runB tellB [.sh (.scr ns), .sh c, .un, s3, s4, .sh d, .un] st = .ok [.sh (.scr ns), .sh c, .un, s3, s4, .sh d, .un] st .next := by
  obtain ⟨u, rfl, ou, lu⟩ := h
  obtain ⟨x, h1, h2, h3⟩ := agree ou lu st
  have h4 := agree_ne h3
  have h5 : ∀ st, deref st x = some x := fun st => by
    rcases h3 with rfl | ⟨a, ns, rfl, _⟩ <;> rfl
  have hu : ∀ st, deref st (.str u) = some (.str u) := fun _ => rfl
  simp [tellB, hu, b_nil, b_cons, s_ifs, r_op2, r_call, o1_call, a_val, a_nil, r_var, getV, h1, h2, ofFR, rez, h5, opSem, sb, h4, ofOp, asB]
theorem cell_run (ns : List Int) (c : Int) (s3 s4 s5 : Slot) (hs5 : s5 = .un ∨ ∃ d, s5 = .sh d) (st : List D) : ∃ ρ' st', runB cellB [.sh (.scr ns), .sh (.int c), .un, s3, s4, s5, .un] st = .ok ρ' st' .next ∧ P1 ns ρ' st' := by
  obtain ⟨n, hd⟩ := deck_run c st
  have h0 : Dk (st ++ [.lst [.int n]]) st.length := ⟨n, by simp⟩
  obtain ⟨st1, t, ht, ot, lt, h1, l1⟩ := text_run h0
  obtain ⟨st2, r, hr, gr, lr⟩ := spoils_run (ns := ns) (c := .int c) (s5 := s5) h1 ot lt
  have hadd : dAdd (.lst [.str t]) (.lst r) = some (true, .lst (.str t :: r)) := by
    show (if [D.str t].length + r.length ≤ 16777216 then some (true, D.lst ([D.str t] ++ r)) else none) = _
    rw [if_pos (by simp; omega)]
    rfl
  have gt : ∀ d ∈ D.str t :: r, GT d := fun d hd => by
    rcases List.mem_cons.mp hd with z | z
    · exact ⟨t, z, ot, by omega⟩
    · exact gr d z
  obtain ⟨ρ', st', hf, s5', e5, hρ⟩ := forLoop_inv (.name 5) (fun ρ st => runB tellB ρ st) (fun ρ _ => ∃ s, (s = .un ∨ ∃ d, s = .sh d) ∧ ρ = [.sh (.scr ns), .sh (.int c), .un, .sh (.cell st.length), .sh (.str t), s, .un]) (.str t :: r) [.sh (.scr ns), .sh (.int c), .un, .sh (.cell st.length), .sh (.str t), s5, .un] st2 ⟨s5, hs5, rfl⟩ fun d hd ρ st3 ⟨s, _, hρ⟩ => by
    subst hρ
    exact ⟨[.sh (.scr ns), .sh (.int c), .un, .sh (.cell st.length), .sh (.str t), .sh d, .un], _, _, rfl, tell_run (gt d hd) st3, .sh d, .inr ⟨d, rfl⟩, rfl⟩
  have hfor : runS (.for_ 0 [(.op .add [(.lst [(.var 4)]), (.comp [6] 1 [(.int 3)] (.name 6) none (.call f__law_spoilt [true, false] [(.var 3), (.var 4)]))])] (.name 5) tellB) [.sh (.scr ns), .sh (.int c), .un, .sh (.cell st.length), .sh (.str t), s5, .un] st1 = .ok ρ' st' .next := by
    have ho : runO [(.op .add [(.lst [(.var 4)]), (.comp [6] 1 [(.int 3)] (.name 6) none (.call f__law_spoilt [true, false] [(.var 3), (.var 4)]))])] [.sh (.scr ns), .sh (.int c), .un, .sh (.cell st.length), .sh (.str t), s5, .un] st1 = .ok [.sh (.scr ns), .sh (.int c), .un, .sh (.cell st.length), .sh (.str t), s5, .un] st2 [.inr (.lst (.str t :: r))] := by
      simp [o_one, o1_op, r_op2, o1_lst, r_lst, v_cons, v_nil, r_var, getV, o1_comp, hr, rez, deref, opSem, hadd, ofOp]
    rw [s_for, ho]
    simp [rezs, rez, deref, items, lends, lend, unlend, hf]
  refine ⟨ρ', st', ?_, .sh (.int c), .sh (.cell st.length), .sh (.str t), s5', hρ, e5⟩
  simp [cellB, b_nil, b_cons, s_set, r_call, a_val, a_ref, a_nil, r_var, getV, hd, ofFR, boxV, ht, hfor]
def lawB : List S := [.for_ 0 [(.op .add [(.lst [(.op .pow [(.int 10), (.int 18)])]), (.op .slHi [(.var 0), (.int 30)])])] (.name 1) cellB, .set 2 (.lst [(.str ""), (.str " "), (.str "wire"), (.str "leg"), (.str "wire 0"), (.str "wire 0 2"), (.str "wire 0 01"), (.str "leg 0 1"), (.str "leg 0 0 2"), (.str "wire 0 0 0"), (.str "well")]), .set 2 (.op .add [(.var 2), (.lst [(.str "leg 0 0 0 0"), (.str "wire 0 0\n"), (.op .add [(.str "wire 0 "), (.op .mul [(.str "1"), (.int 60)])]), (.str "leg 0 0")])]), .ret (.op .eq [(.comp [5] 0 [(.var 2)] (.name 5) (some (.op .notN [(.call f__law_told [false] [(.var 5)])])) (.var 5)), (.lst [])])]
theorem flaw_eq : f_law = fnOf 7 lawB := rfl
end PW

set_option linter.all false
set_option maxHeartbeats 0
namespace PW
open PySem PD PS
theorem tell_none {u a : Str} {r : List Str} (hok : Ok u) (hl : u.length ≤ 600) (hw : Txt.split u " " = a :: r) (hc : (shp a (r.length + 1) && ((lst1 a r == "0" || lst1 a r == "1") && r.all goodB)) = false) (st : List D) : f__law_told [.str u] st = .ok st false .non := by
  have := told_run st (read_run hok hl hw st)
  rw [hc] at this
  exact this
def noB (u : Str) : Bool := u.cps.all (fun c => decide (c < 0x110000)) && (decide (u.length ≤ 600) && match Txt.split u " " with
  | [] => false
  | a :: r => !(shp a (r.length + 1) && ((lst1 a r == "0" || lst1 a r == "1") && r.all goodB)))
theorem tell_no {u : Str} (h : noB u = true) (st : List D) : f__law_told [.str u] st = .ok st false .non := by
  unfold noB at h
  rw [Bool.and_eq_true, Bool.and_eq_true, decide_eq_true_eq] at h
  obtain ⟨h1, h2, h3⟩ := h
  cases hw : Txt.split u " " with
  | nil => rw [hw] at h3; cases h3
  | cons a r =>
    rw [hw] at h3
    exact tell_none (ok_lit h1) h2 hw (by simpa only [Bool.not_eq_true'] using h3) st
def ones : Str := ⟨(List.replicate 60 ("1" : Str).cps.toList).flatten.toArray⟩
def menuT : List Str := ["", " ", "wire", "leg", "wire 0", "wire 0 2", "wire 0 01", "leg 0 1", "leg 0 0 2", "wire 0 0 0", "well", "leg 0 0 0 0", "wire 0 0\n", (("wire 0 " : Str) ++ ones), "leg 0 0"]
theorem menu_no : menuT.all noB = true := by kernel_rfl
theorem ones_mul : dMul (.str "1") (.int 60) = some (false, .str ones) := by
  show (if (-1000000 : Int) < 60 ∧ (60 : Int) < 1000000 ∧ ("1" : Str).length = 1 then some (false, D.str ⟨(List.replicate (60 : Int).toNat ("1" : Str).cps.toList).flatten.toArray⟩) else none) = _
  rw [if_pos (by decide)]
  rfl
theorem ones_add : dAdd (.str "wire 0 ") (.str ones) = some (false, .str (("wire 0 " : Str) ++ ones)) := str_add (by
  have h1 : ("wire 0 " : Str).length = 7 := by decide +kernel
  have h2 : ones.length = 60 := by decide +kernel
  omega)
theorem tells_run {ns : List Int} {s1 s3 s4 s5 : Slot} (h5 : s5 = .un ∨ ∃ d, s5 = .sh d) (st : List D) :
    PD.run (.comp [5] 0 [(.var 2)] (.name 5) (some (.op .notN [(.call f__law_told [false] [(.var 5)])])) (.var 5)) [.sh (.scr ns), s1, .own (.lst (menuT.map .str)), s3, s4, s5, .un] st = .ok [.sh (.scr ns), s1, .own (.lst (menuT.map .str)), s3, s4, s5, .un] st (true, .lst []) := by
  have hl := compLoop_acc [5] (.name 5) (condS (some (.op .notN [(.call f__law_told [false] [(.var 5)])]))) (fun ρ st => frz (PD.run (.var 5) ρ st)) (fun _ => false) id [.sh (.scr ns), s1, .lent (.lst (menuT.map .str)), s3, s4, .un, .un] st (menuT.map .str) [] fun d hd => by
    obtain ⟨u, hu, rfl⟩ := List.mem_map.mp hd
    have ht := tell_no (List.all_eq_true.mp menu_no u hu) st
    refine ⟨[.sh (.scr ns), s1, .lent (.lst (menuT.map .str)), s3, s4, .sh (.str u), .un], rfl, ?_, fun z => (by cases z), rfl⟩
    simp [condS, r_op1, o1_call, r_call, a_val, a_nil, r_var, getV, ht, ofFR, rez, deref, opSem, dIsN, ofOp, asB]
  rw [run_comp]
  have ho : runO [.var 2] [.sh (.scr ns), s1, .own (.lst (menuT.map .str)), s3, s4, s5, .un] st = .ok [.sh (.scr ns), s1, .own (.lst (menuT.map .str)), s3, s4, s5, .un] st [.inl 2] := by simp [o_one, o1_var, isUn]
  rw [ho]
  have hof : ownFree [.sh (.scr ns), s1, .own (.lst (menuT.map .str)), s3, s4, s5, .un] [5] = true := by
    rcases h5 with z | ⟨d, z⟩ <;> (subst z; rfl)
  show (if ownFree [.sh (.scr ns), s1, .own (.lst (menuT.map .str)), s3, s4, s5, .un] [5] = true then (blkS [5] (.name 5) (some (.op .notN [(.call f__law_told [false] [(.var 5)])])) (.var 5) (menuT.map .str) [] [.sh (.scr ns), s1, .lent (.lst (menuT.map .str)), s3, s4, .un, .un] st).bindX (fun ρ' => unlend [2] (backS [.sh (.scr ns), s1, .own (.lst (menuT.map .str)), s3, s4, s5, .un] ρ' [5])) (fun ρ' st' acc => Out.ok ρ' st' (true, D.lst acc)) else .stuck) = _
  rw [hof, if_pos rfl]
  unfold blkS
  rw [hl, List.filter_eq_nil_iff.mpr (fun _ _ => by simp)]
  rfl
theorem law_run : ∀ ns : List Int, ns.length ≤ 63 → (∀ i ∈ ns, Builtin.Int.intBits i ≤ 1048576) → ∃ st, f_law [.scr ns] [] = .ok st false (.bl true) := fun ns _ _ => by
  obtain ⟨A, hA, pA⟩ : ∃ A : Int, A = 10 ^ 18 ∧ dPow (.int 10) (.int 18) = some (false, .int A) := ⟨_, rfl, by simp [dPow]⟩
  obtain ⟨its, hits⟩ : ∃ l : List Int, dSlHi (.scr ns) (.int 30) = some (true, .lst (l.map .int)) ∧ l.length ≤ 63 := ⟨cut ns none (some 30), rfl, Nat.le_trans (cut_len _ _ _) ‹_›⟩
  obtain ⟨hits, li⟩ := hits
  have hadd : dAdd (.lst [.int A]) (.lst (its.map .int)) = some (true, .lst ((A :: its).map .int)) := by
    show (if [D.int A].length + (its.map D.int).length ≤ 16777216 then some (true, D.lst ([D.int A] ++ its.map D.int)) else none) = _
    rw [if_pos (by simp; omega)]
    rfl
  obtain ⟨ρ', st', hf, s1, s3, s4, s5, rfl, e5⟩ := forLoop_inv (.name 1) (fun ρ st => runB cellB ρ st) (P1 ns) ((A :: its).map .int) [.sh (.scr ns), .un, .un, .un, .un, .un, .un] [] ⟨.un, .un, .un, .un, rfl, .inl rfl⟩ fun d hd ρ st ⟨s1, s3, s4, s5, hρ, h5⟩ => by
    obtain ⟨c, _, rfl⟩ := List.mem_map.mp hd
    subst hρ
    obtain ⟨ρ2, st2, h1, h2⟩ := cell_run ns c s3 s4 s5 h5 st
    exact ⟨_, ρ2, st2, rfl, h1, h2⟩
  have hfor : runS (.for_ 0 [(.op .add [(.lst [(.op .pow [(.int 10), (.int 18)])]), (.op .slHi [(.var 0), (.int 30)])])] (.name 1) cellB) [.sh (.scr ns), .un, .un, .un, .un, .un, .un] [] = .ok [.sh (.scr ns), s1, .un, s3, s4, s5, .un] st' .next := by
    have ho : runO [(.op .add [(.lst [(.op .pow [(.int 10), (.int 18)])]), (.op .slHi [(.var 0), (.int 30)])])] [.sh (.scr ns), .un, .un, .un, .un, .un, .un] [] = .ok [.sh (.scr ns), .un, .un, .un, .un, .un, .un] [] [.inr (.lst ((A :: its).map .int))] := by
      simp [o_one, o1_op, r_op2, o1_lst, r_lst, v_cons, v_nil, o1_int, o1_var, pA, isUn, hits, rez, deref, opSem, hadd, ofOp]
    rw [s_for, ho]
    simp only [rezs, rez, deref, bind_ok]
    show ((forLoop (.name 1) (fun ρ st => runB cellB ρ st) ((A :: its).map .int) [.sh (.scr ns), .un, .un, .un, .un, .un, .un] []).bindX (unlend []) fun ρ' st' f => .ok ρ' st' f) = _
    rw [hf]
    rfl
  refine ⟨st', ?_⟩
  have hT := tells_run (ns := ns) (s1 := s1) (s3 := s3) (s4 := s4) e5 st'
  have hm : dAdd (.lst [.str "", .str " ", .str "wire", .str "leg", .str "wire 0", .str "wire 0 2", .str "wire 0 01", .str "leg 0 1", .str "leg 0 0 2", .str "wire 0 0 0", .str "well"]) (.lst [.str "leg 0 0 0 0", .str "wire 0 0\n", .str (("wire 0 " : Str) ++ ones), .str "leg 0 0"]) = some (true, .lst (menuT.map .str)) := rfl
  have he : dEq (.lst []) (.lst []) = some true := rfl
  rw [flaw_eq]
  simp [fnOf, lawB, b_nil, b_cons, s_set, s_ret, hfor, r_lst, v_cons, v_nil, r_str, r_op2, o1_var, isUn, o1_lst, o1_op, o1_str, o1_int, ones_mul, ones_add, rez, deref, opSem, ofOp, hm, runRet, o1_comp, hT, sb, he]
end PW

set_option Elab.async false
set_option linter.all false
set_option maxRecDepth 100000
set_option maxHeartbeats 0
namespace PW
open PySem PySem.Spec PyProof.Rows L2 PD
def d_number_in : He.DefD := ⟨("number_in", none), "number_in", "number_in", defArgs (top 10), defBody (top 10), defScope (top 10), [], []⟩
def d_read_fault : He.DefD := ⟨("read_fault", none), "read_fault", "read_fault", defArgs (top 11), defBody (top 11), defScope (top 11), [], []⟩
def d__law_stir : He.DefD := ⟨("_law_stir", none), "_law_stir", "_law_stir", defArgs (top 13), defBody (top 13), defScope (top 13), [], []⟩
def d__law_deck : He.DefD := ⟨("_law_deck", none), "_law_deck", "_law_deck", defArgs (top 14), defBody (top 14), defScope (top 14), [], []⟩
def d__law_take : He.DefD := ⟨("_law_take", none), "_law_take", "_law_take", defArgs (top 15), defBody (top 15), defScope (top 15), [], []⟩
def d__law_text : He.DefD := ⟨("_law_text", none), "_law_text", "_law_text", defArgs (top 16), defBody (top 16), defScope (top 16), [], []⟩
def d__law_read : He.DefD := ⟨("_law_read", none), "_law_read", "_law_read", defArgs (top 17), defBody (top 17), defScope (top 17), [], []⟩
def d__law_told : He.DefD := ⟨("_law_told", none), "_law_told", "_law_told", defArgs (top 18), defBody (top 18), defScope (top 18), [], []⟩
def d__law_spoilt : He.DefD := ⟨("_law_spoilt", none), "_law_spoilt", "_law_spoilt", defArgs (top 19), defBody (top 19), defScope (top 19), [], []⟩
def d_law : He.DefD := ⟨("law", none), "law", "law", defArgs (top 20), defBody (top 20), defScope (top 20), [], []⟩
def fn : List He.DefD := [d_number_in, d_read_fault, d__law_stir, d__law_deck, d__law_take, d__law_text, d__law_read, d__law_told, d__law_spoilt, d_law]
def fa0 : List He.Fa := [.glo "number_in", .glo "read_fault", .glo "_law_stir", .glo "_law_deck", .glo "_law_take", .glo "_law_text", .glo "_law_read", .glo "_law_told", .glo "_law_spoilt", .glo "law", .glo "StuckError", .exc "StuckError", .glo "NoWorks", .exc "NoWorks", .glo "NoRow", .exc "NoRow", .glo "NoFault", .exc "NoFault", .glo "NoText", .exc "NoText"]
def fa1 : List He.Fa := [.glo "NoOrder", .exc "NoOrder", .glo "TooMany", .exc "TooMany", .free "len", .free "range", .free "int", .free "str", .free "list", .free "tuple", .free "dict", .free "set", .free "sorted", .free "min", .free "max", .free "sum", .free "all", .free "any", .free "isinstance", .free "enumerate"]
def fa2 : List He.Fa := [.free "zip", .free "ValueError", .free "bool", .str "FIGURES" "0123456789"]
def fa : List He.Fa := fa0 ++ fa1 ++ fa2
abbrev R : PySem.W.OpenRow := PySem.W.OpenLaw.row PySem.Challenge.rw_stuckwires_k63_texts_of_no_fault
abbrev hk : PySem.W.Hook := hookX 4 fa fn [] [clsB]
def ob (s : PySem.W.SharedT) : He.AlT × Bool := obsXG 4 fa fn [] [clsB] (HandSHeadRun.getT s)
theorem ob_eq (s : PySem.W.SharedT) : ob s = hk.obs s.abs := obsXG_eq (HandSHeadRun.getT_eq s)
def nm0 : List Str := ["StuckError", "NoWorks", "NoRow", "NoFault", "NoText", "NoOrder", "TooMany", "number_in", "read_fault", "_law_stir", "_law_deck", "_law_take", "_law_text", "_law_read", "_law_told", "_law_spoilt", "FIGURES"]
def nms : List Str := nm0
theorem run (w : World) : HandSHeadRun.RunEq R (PySem.W.view R.prog [20]) hk ob 20000 nms w := by
  intro os
  kernel_rfl
theorem facts {P : Program} {w : World} {K : PySem.W.Frag} {h : Heap} {mg : Str → Option Value} {f : Addr} (X : K.In h) (G : h.Ns mainGlobals mg) (hfa : mg ("law" : Str) = some (.ref f)) (c : SaysX fa fn [] [clsB] w K) :
    ∃ fd : FuncData, (∀ (s : Shared) (v : Value), BindsTo s fd ⟨[v], []⟩ [("script", v)]) ∧ ∀ base : Heap, K.In base → base.Ns mainGlobals mg → FnOk P w K mg base (L2.CX P w) 4 f fd ["script"] (spF (nmOf K) K 1 f_law) := by
  obtain ⟨hI, hC⟩ := clsB_ok (c.more (p := clsB) List.mem_cons_self)
  have fx : Fx (nmOf K) K mg := {
    isk := hI,
    catx := hC,
    mgx := (fun e => match e with
      | .stuck => He.glo_ok X G (c.d.fact 10 (f := .glo "StuckError") rfl)
      | .works => He.glo_ok X G (c.d.fact 12 (f := .glo "NoWorks") rfl)
      | .row => He.glo_ok X G (c.d.fact 14 (f := .glo "NoRow") rfl)
      | .fault => He.glo_ok X G (c.d.fact 16 (f := .glo "NoFault") rfl)
      | .text => He.glo_ok X G (c.d.fact 18 (f := .glo "NoText") rfl)
      | .order => He.glo_ok X G (c.d.fact 20 (f := .glo "NoOrder") rfl)
      | .many => He.glo_ok X G (c.d.fact 22 (f := .glo "TooMany") rfl)
      ),
    raises := (fun e => match e with
      | .stuck => raises_of (c.d.fact 11 (f := .exc "StuckError") rfl)
      | .works => raises_of (c.d.fact 13 (f := .exc "NoWorks") rfl)
      | .row => raises_of (c.d.fact 15 (f := .exc "NoRow") rfl)
      | .fault => raises_of (c.d.fact 17 (f := .exc "NoFault") rfl)
      | .text => raises_of (c.d.fact 19 (f := .exc "NoText") rfl)
      | .order => raises_of (c.d.fact 21 (f := .exc "NoOrder") rfl)
      | .many => raises_of (c.d.fact 23 (f := .exc "TooMany") rfl)
      ),
    b_len := He.free_ok X G (c.d.fact 24 (f := .free "len") rfl),
    b_range := He.free_ok X G (c.d.fact 25 (f := .free "range") rfl),
    b_int := He.free_ok X G (c.d.fact 26 (f := .free "int") rfl),
    b_str := He.free_ok X G (c.d.fact 27 (f := .free "str") rfl),
    b_list := He.free_ok X G (c.d.fact 28 (f := .free "list") rfl),
    b_tuple := He.free_ok X G (c.d.fact 29 (f := .free "tuple") rfl),
    b_dict := He.free_ok X G (c.d.fact 30 (f := .free "dict") rfl),
    b_set := He.free_ok X G (c.d.fact 31 (f := .free "set") rfl),
    b_sorted := He.free_ok X G (c.d.fact 32 (f := .free "sorted") rfl),
    b_min := He.free_ok X G (c.d.fact 33 (f := .free "min") rfl),
    b_max := He.free_ok X G (c.d.fact 34 (f := .free "max") rfl),
    b_sum := He.free_ok X G (c.d.fact 35 (f := .free "sum") rfl),
    b_all := He.free_ok X G (c.d.fact 36 (f := .free "all") rfl),
    b_any := He.free_ok X G (c.d.fact 37 (f := .free "any") rfl),
    b_isinstance := He.free_ok X G (c.d.fact 38 (f := .free "isinstance") rfl),
    b_enumerate := He.free_ok X G (c.d.fact 39 (f := .free "enumerate") rfl),
    b_zip := He.free_ok X G (c.d.fact 40 (f := .free "zip") rfl),
    b_ValueError := He.free_ok X G (c.d.fact 41 (f := .free "ValueError") rfl),
    b_bool := He.free_ok X G (c.d.fact 42 (f := .free "bool") rfl)
  }
  obtain ⟨_, c_FIGURES⟩ := He.str_ok X G (c.d.fact 43 (f := .str "FIGURES" "0123456789") rfl)
  obtain ⟨fd_number_in, F_number_in⟩ := c.d.def_ 0 (d := d_number_in) rfl
  obtain ⟨fd_read_fault, F_read_fault⟩ := c.d.def_ 1 (d := d_read_fault) rfl
  obtain ⟨fd__law_stir, F__law_stir⟩ := c.d.def_ 2 (d := d__law_stir) rfl
  obtain ⟨fd__law_deck, F__law_deck⟩ := c.d.def_ 3 (d := d__law_deck) rfl
  obtain ⟨fd__law_take, F__law_take⟩ := c.d.def_ 4 (d := d__law_take) rfl
  obtain ⟨fd__law_text, F__law_text⟩ := c.d.def_ 5 (d := d__law_text) rfl
  obtain ⟨fd__law_read, F__law_read⟩ := c.d.def_ 6 (d := d__law_read) rfl
  obtain ⟨fd__law_told, F__law_told⟩ := c.d.def_ 7 (d := d__law_told) rfl
  obtain ⟨fd__law_spoilt, F__law_spoilt⟩ := c.d.def_ 8 (d := d__law_spoilt) rfl
  obtain ⟨fd_law, F_law⟩ := c.d.def_ 9 (d := d_law) rfl
  have e := hfa.symm.trans (He.glo_ok X G (c.d.fact 9 (f := .glo "law") rfl))
  cases e
  refine ⟨fd_law, fun s v => FunD.bindsA (ps := ["script"]) F_law (fun _ _ _ _ _ _ us hl => match us, hl with | [_], _ => rfl) s [v] rfl, fun base _ _ => ?_⟩
  have G_number_in : FnG (nmOf K) P w K mg base 1 "number_in" 1 f_number_in := ⟨_, fd_number_in, ["word"], k_number_in fx c_FIGURES F_number_in, He.glo_ok X G (c.d.fact 0 (f := .glo "number_in") rfl), F_number_in.kp, F_number_in.bindsN fun _ _ _ _ _ _ us hl => match us, hl with | [_], _ => rfl⟩
  have G_read_fault : FnG (nmOf K) P w K mg base 2 "read_fault" 1 f_read_fault := ⟨_, fd_read_fault, ["text"], k_read_fault fx (G_number_in.up (by decide)) F_read_fault, He.glo_ok X G (c.d.fact 1 (f := .glo "read_fault") rfl), F_read_fault.kp, F_read_fault.bindsN fun _ _ _ _ _ _ us hl => match us, hl with | [_], _ => rfl⟩
  have G__law_stir : FnG (nmOf K) P w K mg base 1 "_law_stir" 2 f__law_stir := ⟨_, fd__law_stir, ["cell", "k"], k__law_stir fx  F__law_stir, He.glo_ok X G (c.d.fact 2 (f := .glo "_law_stir") rfl), F__law_stir.kp, F__law_stir.bindsN fun _ _ _ _ _ _ us hl => match us, hl with | [_, _], _ => rfl⟩
  have G__law_deck : FnG (nmOf K) P w K mg base 2 "_law_deck" 1 f__law_deck := ⟨_, fd__law_deck, ["cell"], k__law_deck fx (G__law_stir.up (by decide)) F__law_deck, He.glo_ok X G (c.d.fact 3 (f := .glo "_law_deck") rfl), F__law_deck.kp, F__law_deck.bindsN fun _ _ _ _ _ _ us hl => match us, hl with | [_], _ => rfl⟩
  have G__law_take : FnG (nmOf K) P w K mg base 1 "_law_take" 2 f__law_take := ⟨_, fd__law_take, ["deck", "many"], k__law_take fx  F__law_take, He.glo_ok X G (c.d.fact 4 (f := .glo "_law_take") rfl), F__law_take.kp, F__law_take.bindsN fun _ _ _ _ _ _ us hl => match us, hl with | [_, _], _ => rfl⟩
  have G__law_text : FnG (nmOf K) P w K mg base 2 "_law_text" 1 f__law_text := ⟨_, fd__law_text, ["deck"], k__law_text fx (G__law_take.up (by decide)) F__law_text, He.glo_ok X G (c.d.fact 5 (f := .glo "_law_text") rfl), F__law_text.kp, F__law_text.bindsN fun _ _ _ _ _ _ us hl => match us, hl with | [_], _ => rfl⟩
  have G__law_read : FnG (nmOf K) P w K mg base 1 "_law_read" 1 f__law_read := ⟨_, fd__law_read, ["text"], k__law_read fx  F__law_read, He.glo_ok X G (c.d.fact 6 (f := .glo "_law_read") rfl), F__law_read.kp, F__law_read.bindsN fun _ _ _ _ _ _ us hl => match us, hl with | [_], _ => rfl⟩
  have G__law_told : FnG (nmOf K) P w K mg base 3 "_law_told" 1 f__law_told := ⟨_, fd__law_told, ["text"], k__law_told fx (G_read_fault.up (by decide)) F__law_told, He.glo_ok X G (c.d.fact 7 (f := .glo "_law_told") rfl), F__law_told.kp, F__law_told.bindsN fun _ _ _ _ _ _ us hl => match us, hl with | [_], _ => rfl⟩
  have G__law_spoilt : FnG (nmOf K) P w K mg base 2 "_law_spoilt" 2 f__law_spoilt := ⟨_, fd__law_spoilt, ["deck", "text"], k__law_spoilt fx (G__law_take.up (by decide)) F__law_spoilt, He.glo_ok X G (c.d.fact 8 (f := .glo "_law_spoilt") rfl), F__law_spoilt.kp, F__law_spoilt.bindsN fun _ _ _ _ _ _ us hl => match us, hl with | [_, _], _ => rfl⟩
  exact k_law fx (G__law_deck.up (by decide)) (G__law_text.up (by decide)) (G__law_spoilt.up (by decide)) (G__law_told.up (by decide)) (G__law_read.up (by decide)) F_law
end PW
open PySem PySem.W PySem.Calls PyProof.Rows
theorem PySem.Challenge.cw_stuckwires_k63_texts_of_no_fault_holds : PySem.Challenge.rw_stuckwires_k63_texts_of_no_fault.Holds := by
  w_on; o_law
  refine HandSHeadRun.head_any (r := OpenLaw.row PySem.Challenge.rw_stuckwires_k63_texts_of_no_fault) (q := view (OpenLaw.row PySem.Challenge.rw_stuckwires_k63_texts_of_no_fault).prog [20]) (H := PW.hk) (ob := PW.ob) (M := 20000) (loose := PW.nms) (d := HandSHeadRun.topDef (OpenLaw.row PySem.Challenge.rw_stuckwires_k63_texts_of_no_fault).prog 20) (kwd := []) PW.ob_eq
    (by kernel_rfl) (fun s => by kernel_rfl) PW.run (by kernel_rfl) (by kernel_rfl) (by kernel_rfl) (by rfl) (by first | assumption | decide +kernel) (by decide +kernel) ⟨rfl, rfl, rfl, rfl, rfl, by decide +kernel⟩ ?hw ?hc
  case hw => w_witness2
  case hc =>
    refine PD.walk_pd (l := PySem.Challenge.rw_stuckwires_k63_texts_of_no_fault) (n := 63) (k := 4) (x := "script") (f := PW.f_law) rfl (by decide) (by kernel_rfl) ⟨rfl, by decide, by decide⟩ ?F PW.law_run
    intro w mg fa h Y G hmg0
    obtain ⟨K, KX, c⟩ := Y
    have hmg : mg ("law" : PySem.Str) = some (.ref fa) := by
      have e : (HandSHeadRun.topDef (OpenLaw.row PySem.Challenge.rw_stuckwires_k63_texts_of_no_fault).prog 20).name = ("law" : PySem.Str) := by kernel_rfl
      rw [← e]
      exact hmg0
    obtain ⟨fd, hb, hF⟩ := PW.facts (P := (PySem.Challenge.rw_stuckwires_k63_texts_of_no_fault).prog) (w := w) KX G hmg c
    exact ⟨K, fd, KX, hb, hF⟩

