import PyProof.Rows.All
import Wide.All
import OpenK.AllK
import Wide.FinOn
import HandS.ForExc
import HandS.Text
import HandS.ExcField
import HandS.ExcIs
import HandS.IsInst
import HandS.Wide
import HandS.Gcd
import HandS.FStr
import HandS.Comp
import HandS.Flow
import HandS.Property
import HandS.ClsMeth
import HandS.CallSlots
import HandS.ExcInit
import KE.KOpsOwn
import HandS.RaiseMore
import HandS.Dict
import HandS.Walk
import KE.KExcSuper
import HandS.ExcSuper
import HandS.NestedK
import KE.KIsAll
import HandS.Ends
import HandS.EndBits
import HandS.Codes
import KE.IntTextLaws
import PySem.Challenge.RW_lothall_k01_ratios_by_an_own_walk
set_option Elab.async false
set_option linter.all false
/-! The value machine: values as trees, a small store for what may change, an IR with slots and ids, a total interpreter. Plain Lean. -/
namespace Vm
open PySem

inductive PV where
  | non | bl (b : Bool) | int (i : Int) | str (x : List Nat)
  | tup (xs : List PV) | lst (xs : List PV)
  | clst (xs : List PV)
  | dct (ks : List PV) (vs : List PV)
  | ins (c : Nat) (fs : List PV)
  | cls (c : Nat)

inductive SV where
  | v (x : PV) | ref (n : Nat)

inductive PO where
  | lst (xs : List SV)
  | ins (c : Nat) (fs : List SV)

structure PX where
  c : Nat
  fs : List PV

abbrev PS := List PO
abbrev Sl := List (Option SV)

inductive Res (α : Type) where
  | ok (a : α) (s : PS) | ex (e : PX) (s : PS) | bad

def Res.bind {α β : Type} : Res α → (α → PS → Res β) → Res β
  | .ok a s, k => k a s
  | .ex e s, _ => .ex e s
  | .bad, _ => .bad

abbrev Calls := Nat → List SV → PS → Res SV

/-- the largest length of a text or a list that is made -/
abbrev lim : Nat := 100000

inductive Op2 where | add | sub | mul | fdiv | mod | pow
  deriving DecidableEq
inductive Cm where | eq | ne | lt | le | gt | ge | is | isnot | inn | notin
  deriving DecidableEq
inductive Ty where | int | bool | str | list | tuple | dict | cls (c : Nat)
  deriving DecidableEq
inductive Bi where
  | len | abs | int | str | bool | repr | list | tuple | sum | all | any | gcd
  | isinst (tuple : Bool) (ts : List Ty)
  deriving DecidableEq
/-- methods of built-in types -/
inductive Bm where | split | append
  deriving DecidableEq

inductive Tg where | one (i : Nat) | many (is : List Nat)

mutual
inductive E where
  | var (i : Nat)
  | cst (x : PV)
  | neg (a : E)
  | op (o : Op2) (a b : E)
  | cmp (o : Cm) (a b : E)
  | and (a b : E)
  | or (a b : E)
  | not (a : E)
  | ite (c : B) (a b : E)
  | tup (es : List E)
  | lst (fr : Bool) (es : List E)
  | edct
  | idx (a i : E)
  | sl (fr : Bool) (a : E) (hl hh : Bool) (lo hi : E)
  | fld (a : E) (f : Nat)
  | ccon (c f : Nat)
  | call (d : Nat) (es : List E)
  | meth (a : E) (m : Nat) (es : List E)
  | smeth (c m : Nat) (es : List E)
  | new (c : Nat) (es : List E)
  | newK (c : Nat) (es : List E) (perm : List Nat)
  | callK (d : Nat) (es : List E) (perm : List Nat)
  | bi (b : Bi) (fr : Bool) (es : List E)
  | bm (b : Bm) (fr : Bool) (a : E) (es : List E)
  | fmt (es : List E)
  | lc (fr : Bool) (t : Tg) (it : E) (cs : List B) (e : E)
  | rng (es : List E)
/-- a test -/
inductive B where
  | e (a : E)
  | and (a b : B)
  | or (a b : B)
  | not (a : B)
  | cmp (o : Cm) (a b : E)
end

/-- expressions of an except suite; the error stands in no slot that they name -/
inductive HE where
  | fld (f : Nat)
  | isx (c : Nat)
  | non | tup (es : List HE)
  | not (a : HE) | and (a b : HE) | ite (c a b : HE)

inductive S where
  | set (i : Nat) (e : E)
  | tset (is : List Nat) (e : E)
  | par (i j : Nat) (a b : E)
  | setix (o i e : E)
  | setfld (o : E) (f : Nat) (e : E)
  | ex (e : E)
  | ite (c : B) (a b : List S)
  | loop (t : Tg) (it : E) (body : List S)
  | aug (i : Nat) (o : Op2) (e : E)
  /-- while, at most n turns -/
  | wh (n : Nat) (c : B) (body : List S)
  | brk | cont | pass
  | ret (e : E)
  | retN
  | raise (c : Nat) (es : List E)
  | tryx (body : List S) (c : Nat) (n : Nat) (i : Nat) (h : HE)
  | frz (i : Nat)

structure ClsI where
  frozen : Bool
  init : Option Nat
  flds : List Nat
  meths : List (Nat × Nat)
  props : List (Nat × Nat)
  stats : List (Nat × Nat)
  cons : List (Nat × PV)
  supers : List Nat
  isx : Bool

structure DefI where
  npar : Nat
  nslot : Nat
  dfl : List PV
  esc : Bool
  body : List S

structure Tab where
  cls : List ClsI
  defs : List DefI

def lookN {α : Type} : List (Nat × α) → Nat → Option α
  | [], _ => none
  | (k, v) :: r, n => if k = n then some v else lookN r n

def idxN : List Nat → Nat → Option Nat
  | [], _ => none
  | k :: r, n => if k = n then some 0 else (idxN r n).map (· + 1)

/-! special attributes have fixed ids -/
abbrev aEq : Nat := 0
abbrev aAdd : Nat := 1
abbrev aSub : Nat := 2
abbrev aMul : Nat := 3
abbrev aNeg : Nat := 4
abbrev aAbs : Nat := 5
abbrev aBool : Nat := 6
abbrev aStr : Nat := 7
abbrev aRepr : Nat := 8

section
variable (T : Tab) (C : Calls)

def methOf (c m : Nat) : Option Nat := (T.cls[c]?).bind fun i => lookN i.meths m

/-! ### items, lengths -/
def vs : List SV → Option (List PV)
  | [] => some []
  | .v x :: r => (vs r).map (x :: ·)
  | .ref _ :: _ => none

/-- a list's or tuple's items -/
def seqOf (a : SV) (s : PS) : Option (List SV) :=
  match a with
  | .v (.tup xs) => some (xs.map .v)
  | .v (.lst xs) => some (xs.map .v)
  | .v (.clst xs) => some (xs.map .v)
  | .ref n => match s[n]? with
    | some (.lst xs) => some xs
    | _ => none
  | _ => none

/-- what a for or a comprehension walks: never what may change -/
def itemsOf (a : SV) : Option (List PV) :=
  match a with
  | .v (.tup xs) => some xs
  | .v (.lst xs) => some xs
  | .v (.clst xs) => some xs
  | .v (.str x) => some (x.map fun c => .str [c])
  | _ => none

def rngL (lo : Int) : Nat → List PV
  | 0 => []
  | n + 1 => .int lo :: rngL (lo + 1) n

def ixN (n : Nat) (i : Int) : Option Nat := if 0 ≤ i then (if i < n then some i.toNat else none) else if -(n : Int) ≤ i then some (i + n).toNat else none
def sIx (n d : Nat) : Option Int → Nat
  | none => d
  | some v => if v < 0 then (v + (n : Int)).toNat else min v.toNat n
def cut {α : Type} (xs : List α) (lo hi : Option Int) : List α := (xs.drop (sIx xs.length 0 lo)).take (sIx xs.length xs.length hi - sIx xs.length 0 lo)

def newL (fr : Bool) (xs : List SV) (s : PS) : Res SV :=
  if xs.length ≤ lim then
    if fr then match vs xs with
      | some ys => .ok (.v (.lst ys)) s
      | none => .bad
    else .ok (.ref s.length) (s ++ [.lst xs])
  else .bad

/-! ### data: ==, repr -/
def txt (x : List Nat) : Str := ⟨x.toArray⟩
mutual
def toD : PV → Option PyData
  | .non => some .none
  | .bl b => some (.bool b)
  | .int i => some (.int i)
  | .str x => some (.str (txt x))
  | .tup xs => (toDs xs).map .tuple
  | .lst xs => (toDs xs).map .list
  | .clst xs => (toDs xs).map .list
  | _ => none
def toDs : List PV → Option (List PyData)
  | [] => some []
  | x :: r => match toD x, toDs r with
    | some d, some ds => some (d :: ds)
    | _, _ => none
end
def eqD (x y : PV) : Option Bool :=
  match toD x, toD y with
  | some d, some e => if SeqAt.shaped d && SeqAt.shaped e then some (PyData.eqv d e) else none
  | _, _ => none

def flat : PV → Bool
  | .non | .bl _ | .int _ | .str _ => true
  | _ => false
def eqF : PV → PV → Bool
  | .non, .non => true
  | .bl a, .bl b => a == b
  | .bl a, .int b => (if a then 1 else 0) == b
  | .int a, .bl b => a == (if b then 1 else 0)
  | .int a, .int b => a == b
  | .str a, .str b => a == b
  | _, _ => false

def intText (i : Int) : List Nat := (Str.ofString (toString i)).cps.toList

/-! ### operators -/
def truthS (a : SV) (s : PS) : Res Bool :=
  match a with
  | .v .non => .ok false s
  | .v (.bl b) => .ok b s
  | .v (.int i) => .ok (i != 0) s
  | .v (.str x) => .ok (!x.isEmpty) s
  | .v (.tup xs) => .ok (!xs.isEmpty) s
  | .v (.lst xs) => .ok (!xs.isEmpty) s
  | .v (.clst xs) => .ok (!xs.isEmpty) s
  | .v (.dct ks _) => .ok (!ks.isEmpty) s
  | .v (.ins c _) => match methOf T c aBool with
    | some d => (C d [a] s).bind fun r s1 => match r with
      | .v (.bl k) => .ok k s1
      | _ => .bad
    | none => .bad
  | .ref n => match s[n]? with
    | some (.lst xs) => .ok (!xs.isEmpty) s
    | _ => .bad
  | _ => .bad

def opA : Op2 → Option Nat
  | .add => some aAdd | .sub => some aSub | .mul => some aMul | _ => none

def log2i (i : Int) : Nat := i.natAbs.log2

/-- what may stand at the right of an own operator -/
def okR (c : Nat) : PV → Bool
  | .ins k _ => k == c
  | .cls _ => false
  | _ => true

def bin2 (o : Op2) (a b : SV) (s : PS) : Res SV :=
  match a, b with
  | .v (.int i), .v (.int j) =>
    match o with
    | .add => .ok (.v (.int (i + j))) s
    | .sub => .ok (.v (.int (i - j))) s
    | .mul => if log2i i + log2i j < 1000000 then .ok (.v (.int (i * j))) s else .bad
    | .fdiv => if j ≠ 0 ∧ log2i j < 9000 then .ok (.v (.int (i.fdiv j))) s else .bad
    | .mod => if 0 < j then .ok (.v (.int (i % j))) s else .bad
    | .pow => if 0 ≤ j ∧ j ≤ 1000000 ∧ i.natAbs < 2 ^ 64 then .ok (.v (.int (i ^ j.toNat))) s else .bad
  | .v (.str x), .v (.str y) =>
    match o with
    | .add => if x.length + y.length ≤ lim then .ok (.v (.str (x ++ y))) s else .bad
    | _ => .bad
  | .v (.str x), .v (.int k) =>
    match o with
    | .mul => if -(2 ^ 62) ≤ k ∧ k < 2 ^ 62 ∧ x.length * k.toNat ≤ lim then .ok (.v (.str (List.replicate k.toNat x).flatten)) s else .bad
    | _ => .bad
  | .v (.lst x), .v (.lst y) =>
    match o with
    | .add => if x.length + y.length ≤ lim then .ok (.v (.lst (x ++ y))) s else .bad
    | _ => .bad
  | .v (.ins c _), .v y =>
    if okR c y then (match (opA o).bind (methOf T c) with
    | some d => C d [a, b] s
    | none => .bad) else .bad
  | _, _ => .bad

def isD (a : SV) : Option (PV) := match a with
  | .v x => some x
  | .ref _ => none

def eq2 (a b : SV) (s : PS) : Res Bool :=
  match a, b with
  | .v (.ins c _), .v y => if okR c y then (match methOf T c aEq with
    | some d => (C d [a, b] s).bind fun r s1 => match r with
      | .v (.bl k) => .ok k s1
      | _ => .bad
    | none => .bad) else .bad
  | .v x, .v y => match eqD x y with
    | some k => .ok k s
    | none => .bad
  | _, _ => .bad

def cmp2 (o : Cm) (a b : SV) (s : PS) : Res Bool :=
  match o with
  | .eq => eq2 T C a b s
  | .ne => match a, b with
    | .v x, .v y => (match eqD x y with
      | some k => .ok (!k) s
      | none => .bad)
    | _, _ => .bad
  | .is => match a, b with
    | .v x, .v .non => .ok (match x with | .non => true | _ => false) s
    | .ref _, .v .non => .ok false s
    | _, _ => .bad
  | .isnot => match a, b with
    | .v x, .v .non => .ok (match x with | .non => false | _ => true) s
    | .ref _, .v .non => .ok true s
    | _, _ => .bad
  | .lt => match a, b with
    | .v (.int i), .v (.int j) => .ok (decide (i < j)) s
    | _, _ => .bad
  | .le => match a, b with
    | .v (.int i), .v (.int j) => .ok (decide (i ≤ j)) s
    | _, _ => .bad
  | .gt => match a, b with
    | .v (.int i), .v (.int j) => .ok (decide (j < i)) s
    | _, _ => .bad
  | .ge => match a, b with
    | .v (.int i), .v (.int j) => .ok (decide (j ≤ i)) s
    | _, _ => .bad
  | .inn => match a, b with
    | .v x, .v (.lst ys) => if flat x && ys.all flat then .ok (ys.any fun y => eqF y x) s else .bad
    | .v x, .v (.tup ys) => if flat x && ys.all flat then .ok (ys.any fun y => eqF y x) s else .bad
    | .v (.str [c]), .v (.str y) => .ok (decide (c ∈ y)) s
    | _, _ => .bad
  | .notin => match a, b with
    | .v x, .v (.lst ys) => if flat x && ys.all flat then .ok (!(ys.any fun y => eqF y x)) s else .bad
    | .v x, .v (.tup ys) => if flat x && ys.all flat then .ok (!(ys.any fun y => eqF y x)) s else .bad
    | .v (.str [c]), .v (.str y) => .ok (!decide (c ∈ y)) s
    | _, _ => .bad

def idx2 (a i : SV) (s : PS) : Res SV :=
  match a, i with
  | .v (.str x), .v (.int k) => match ixN x.length k with
    | some j => match x[j]? with
      | some c => .ok (.v (.str [c])) s
      | none => .bad
    | none => .bad
  | a, .v (.int k) => match seqOf a s with
    | some xs => match ixN xs.length k with
      | some j => match xs[j]? with
        | some y => .ok y s
        | none => .bad
      | none => .bad
    | none => .bad
  | _, _ => .bad

def sl2 (fr : Bool) (a : SV) (lo hi : Option Int) (s : PS) : Res SV :=
  match a with
  | .v (.str x) => .ok (.v (.str (cut x lo hi))) s
  | .v (.tup _) => .bad
  | a => match seqOf a s with
    | some xs => newL fr (cut xs lo hi) s
    | none => .bad

def insOf (a : SV) (s : PS) : Option (Nat × List SV) :=
  match a with
  | .v (.ins c fs) => some (c, fs.map SV.v)
  | .ref n => match s[n]? with
    | some (.ins c fs) => some (c, fs)
    | _ => none
  | _ => none

def fld2 (a : SV) (f : Nat) (s : PS) : Res SV :=
  match insOf a s with
  | some (c, fs) => match T.cls[c]? with
    | some ci => match idxN ci.flds f with
      | some j => match fs[j]? with
        | some y => .ok y s
        | none => .bad
      | none => match lookN ci.props f with
        | some d => match C d [a] s with
          | .ok r s1 => .ok r s1
          | _ => .bad
        | none => .bad
    | none => .bad
  | none => .bad

def clsOfV (a : SV) (s : PS) : Option Nat := (insOf a s).map (·.1)

def meth2 (a : SV) (m : Nat) (args : List SV) (s : PS) (c0 : Option Nat) : Res SV :=
  match c0 with
  | some c => match methOf T c m with
    | some d => C d (a :: args) s
    | none => .bad
  | none => .bad

def dflt (d : Nat) (args : List SV) : List SV :=
  match T.defs[d]? with
  | some di => args ++ (di.dfl.drop (args.length + di.dfl.length - di.npar)).map SV.v
  | none => args

/-- what a fresh instance has become -/
def made (ci : ClsI) (c n : Nat) (r : SV) (s2 : PS) : Res SV :=
  match r with
  | .v .non => if ci.frozen then
      (match s2[n]? with
      | some (.ins k fs) => if k = c then (match vs fs with
        | some ys => .ok (.v (.ins c ys)) (s2.take n)
        | none => .bad) else .bad
      | _ => .bad)
    else .ok (.ref n) s2
  | _ => .bad

/-- an instance by its __init__ d, all arguments given -/
def makeD (ci : ClsI) (c d : Nat) (full : List SV) (s : PS) : Res SV :=
  match C d full (s ++ [.ins c []]) with
  | .ok r s2 => made ci c s.length r s2
  | .ex e s2 => .ex e (s2.take s.length)
  | .bad => .bad
def make (c : Nat) (args : List SV) (s : PS) : Res SV :=
  match T.cls[c]? with
  | some ci => if ci.isx then .bad else match ci.init with
    | some d => makeD C ci c d (dflt T d (.ref s.length :: args)) s
    | none => .bad
  | none => .bad
def makeF (c : Nat) (args : List SV) (s : PS) : Res SV :=
  match T.cls[c]? with
  | some ci => if ci.isx then .bad else match ci.init with
    | some d => makeD C ci c d (.ref s.length :: args) s
    | none => .bad
  | none => .bad

def insTy (c : Nat) (t : Ty) : Option Bool :=
  match t with
  | .cls k => (T.cls[c]?).map fun ci => ci.supers.contains k
  | _ => some false
def isTy (a : SV) (s : PS) (t : Ty) : Option Bool :=
  match a with
  | .v .non => some false
  | .v (.bl _) => some (t = .bool || t = .int)
  | .v (.int _) => some (t = .int)
  | .v (.str _) => some (t = .str)
  | .v (.tup _) => some (t = .tuple)
  | .v (.lst _) | .v (.clst _) => some (t = .list)
  | .v (.dct _ _) => some (t = .dict)
  | .v (.ins c _) => insTy T c t
  | .v (.cls _) => none
  | .ref n => match s[n]? with
    | some (.lst _) => some (t = .list)
    | some (.ins c _) => insTy T c t
    | none => none

def isAny (a : SV) (s : PS) : List Ty → Option Bool
  | [] => some false
  | t :: r => match isTy T a s t with
    | some true => some true
    | some false => isAny a s r
    | none => none

def isBox : PV → Bool
  | .tup _ | .lst _ | .clst _ => true
  | _ => false
def shown (x : PV) : Option (List Nat) :=
  match toD x with
  | some d => if isBox x && d.showable && decide (d.depth ≤ 60) && decide (d.shown.length ≤ lim) then some d.shown.cps.toList else none
  | none => none

def sumI : List SV → Option Int
  | [] => some 0
  | .v (.int i) :: r => (sumI r).map (i + ·)
  | _ => none

def strS (a : SV) (s : PS) : Res SV :=
  match a with
  | .v (.int i) => if log2i i < 1900 ∧ (intText i).length ≤ lim then .ok (.v (.str (intText i))) s else .bad
  | .v (.str x) => .ok (.v (.str x)) s
  | .v (.ins c _) => match methOf T c aStr with
    | some d => (C d [a] s).bind fun r s1 => match r with
      | .v (.str x) => .ok (.v (.str x)) s1
      | _ => .bad
    | none => .bad
  | _ => .bad

def allB : List SV → Option Bool
  | [] => some true
  | .v (.bl b) :: r => (allB r).map (b && ·)
  | _ => none
def anyB : List SV → Option Bool
  | [] => some false
  | .v (.bl b) :: r => (anyB r).map (b || ·)
  | _ => none

def bi2 (b : Bi) (fr : Bool) (args : List SV) (s : PS) : Res SV :=
  match b, args with
  | .len, [.v (.str x)] => .ok (.v (.int x.length)) s
  | .len, [a] => match seqOf a s with
    | some xs => .ok (.v (.int xs.length)) s
    | none => .bad
  | .abs, [.v (.int i)] => .ok (.v (.int (if i < 0 then -i else i))) s
  | .abs, [.v (.ins c fs)] => match methOf T c aAbs with
    | some d => C d [.v (.ins c fs)] s
    | none => .bad
  | .int, [.v (.int i)] => .ok (.v (.int i)) s
  | .int, [.v (.str x)] => if x.length ≤ 640 then (match intText? (txt x) with
    | some i => .ok (.v (.int i)) s
    | none => .bad) else .bad
  | .str, [a] => strS T C a s
  | .bool, [.v (.int i)] => .ok (.v (.bl (i != 0))) s
  | .bool, [.v (.bl k)] => .ok (.v (.bl k)) s
  | .bool, [.v (.ins c fs)] => match methOf T c aBool with
    | some d => (C d [.v (.ins c fs)] s).bind fun r s1 => match r with
      | .v (.bl k) => .ok (.v (.bl k)) s1
      | _ => .bad
    | none => .bad
  | .repr, [.v (.ins c fs)] => match methOf T c aRepr with
    | some d => (C d [.v (.ins c fs)] s).bind fun r s1 => match r with
      | .v (.str x) => .ok (.v (.str x)) s1
      | _ => .bad
    | none => .bad
  | .repr, [.v x] => match shown x with
    | some t => .ok (.v (.str t)) s
    | none => .bad
  | .list, [a] => match seqOf a s with
    | some xs => newL fr xs s
    | none => .bad
  | .tuple, [.v (.tup xs)] => .ok (.v (.tup xs)) s
  | .tuple, [a] => match seqOf a s with
    | some xs => match vs xs with
      | some ys => .ok (.v (.tup ys)) s
      | none => .bad
    | none => .bad
  | .sum, [.v (.tup _)] => .bad
  | .sum, [a] => match seqOf a s with
    | some xs => match sumI xs with
      | some i => .ok (.v (.int i)) s
      | none => .bad
    | none => .bad
  | .all, [.v (.lst xs)] => match allB (xs.map SV.v) with
    | some k => .ok (.v (.bl k)) s
    | none => .bad
  | .any, [.v (.lst xs)] => match anyB (xs.map SV.v) with
    | some k => .ok (.v (.bl k)) s
    | none => .bad
  | .gcd, [.v (.int i), .v (.int j)] => .ok (.v (.int (Nat.gcd i.natAbs j.natAbs : Nat))) s
  | .isinst _ ts, [a] => match isAny T a s ts with
    | some k => .ok (.v (.bl k)) s
    | none => .bad
  | _, _ => .bad

/-- y behind the items of the cell n -/
def apnd (n : Nat) (y : SV) (s : PS) : Option PS :=
  match s[n]? with
  | some (.lst acc) => if acc.length < lim then (match y with
    | .v _ => some (s.set n (.lst (acc ++ [y])))
    | .ref m => if m < n then some (s.set n (.lst (acc ++ [y]))) else none) else none
  | _ => none
def bm2 (b : Bm) (fr : Bool) (a : SV) (args : List SV) (s : PS) : Res SV :=
  match b, a, args with
  | .split, .v (.str x), [.v (.str [c])] => if c < 256 then newL fr ((TL.spl [c] 0 [] x).map fun y => .v (.str y)) s else .bad
  | .append, .ref n, [y] => match apnd n y s with
    | some s1 => .ok (.v .non) s1
    | none => .bad
  | _, _, _ => .bad

/-- the receiver of a built-in type's method -/
def bmOk (b : Bm) (x : SV) (s : PS) : Bool :=
  match b, x with
  | .split, .v (.str _) => true
  | .append, .ref n => match s[n]? with
    | some (.lst _) => true
    | _ => false
  | _, _ => false

def fmt1 : SV → Option (List Nat)
  | .v (.str x) => some x
  | .v (.int i) => if log2i i < 1900 then some (intText i) else none
  | _ => none

def Res.calm {α : Type} : Res α → Res α
  | .ok a s => .ok a s
  | _ => .bad

def setMany : List Nat → List PV → Sl → Option Sl
  | [], [], σ => some σ
  | i :: is, x :: xs, σ => setMany is xs (σ.set i (some (.v x)))
  | _, _, _ => none

def asg (t : Tg) (x : PV) (σ : Sl) : Option Sl :=
  match t with
  | .one i => some (σ.set i (some (.v x)))
  | .many is => match x with
    | .tup xs => setMany is xs σ
    | _ => none

/-- a comprehension, item by item, its list the cell n: ce the tests, e the element -/
def lcL (ce : PV → PS → Res Bool) (e : PV → PS → Res SV) (n : Nat) : List PV → PS → Res Unit
  | [], s => .ok () s
  | x :: r, s => (ce x s).bind fun k s1 =>
    if k then (e x s1).bind fun y s2 => match apnd n y s2 with
      | some s3 => lcL ce e n r s3
      | none => .bad
    else lcL ce e n r s1
def lcEnd (fr : Bool) (n : Nat) (s : PS) : Res SV :=
  if fr then match s[n]? with
    | some (.lst acc) => match vs acc with
      | some ys => .ok (.v (.lst ys)) (s.take n)
      | none => .bad
    | _ => .bad
  else .ok (.ref n) s

def putAt {α : Type} (l : List α) : List Nat → Option (List α)
  | [] => some []
  | i :: r => match l[i]?, putAt l r with
    | some x, some xs => some (x :: xs)
    | _, _ => none

mutual
def evE : E → Sl → PS → Res SV
  | .var i, σ, s => match σ[i]? with
    | some (some x) => .ok x s
    | _ => .bad
  | .cst x, _, s => .ok (.v x) s
  | .neg a, σ, s => (evE a σ s).bind fun x s1 => match x with
    | .v (.int i) => .ok (.v (.int (-i))) s1
    | .v (.ins c _) => match methOf T c aNeg with
      | some d => C d [x] s1
      | none => .bad
    | _ => .bad
  | .op o a b, σ, s => (evE a σ s).bind fun x s1 => (evE b σ s1).bind fun y s2 => bin2 T C o x y s2
  | .cmp o a b, σ, s => (evE a σ s).bind fun x s1 => (evE b σ s1).bind fun y s2 => (cmp2 T C o x y s2).bind fun k s3 => .ok (.v (.bl k)) s3
  | .and a b, σ, s => (evE a σ s).bind fun x s1 => (truthS T C x s1).bind fun k s2 => if k then evE b σ s2 else .ok x s2
  | .or a b, σ, s => (evE a σ s).bind fun x s1 => (truthS T C x s1).bind fun k s2 => if k then .ok x s2 else evE b σ s2
  | .not a, σ, s => (evE a σ s).bind fun x s1 => (truthS T C x s1).bind fun k s2 => .ok (.v (.bl (!k))) s2
  | .ite c a b, σ, s => (evB c σ s).bind fun k s1 => if k then evE a σ s1 else evE b σ s1
  | .tup es, σ, s => (evEs es σ s).bind fun xs s1 => match vs xs with
    | some ys => if ys.length ≤ lim then .ok (.v (.tup ys)) s1 else .bad
    | none => .bad
  | .lst fr es, σ, s => (evEs es σ s).bind fun xs s1 => newL fr xs s1
  | .edct, _, s => .ok (.v (.dct [] [])) s
  | .idx a i, σ, s => (evE a σ s).bind fun x s1 => (evE i σ s1).bind fun y s2 => idx2 x y s2
  | .sl fr a hl hh lo hi, σ, s => (evE a σ s).bind fun x s1 =>
      (if hl then (evE lo σ s1).bind fun y s2 => match y with
        | .v (.int i) => .ok (some i) s2
        | _ => .bad
      else .ok none s1).bind fun l s2 =>
      (if hh then (evE hi σ s2).bind fun y s3 => match y with
        | .v (.int i) => .ok (some i) s3
        | _ => .bad
      else .ok none s2).bind fun h s3 => sl2 fr x l h s3
  | .fld a f, σ, s => (evE a σ s).bind fun x s1 => fld2 T C x f s1
  | .ccon c f, _, s => match (T.cls[c]?).bind fun i => lookN i.cons f with
    | some x => .ok (.v x) s
    | none => .bad
  | .call d es, σ, s => (evEs es σ s).bind fun xs s1 => C d (dflt T d xs) s1
  | .meth a m es, σ, s => (evE a σ s).bind fun x s1 =>
      match (clsOfV x s1).bind fun c => methOf T c m with
      | some d => (evEs es σ s1).bind fun xs s2 => C d (dflt T d (x :: xs)) s2
      | none => .bad
  | .smeth c m es, σ, s => (evEs es σ s).bind fun xs s1 => match (T.cls[c]?).bind fun i => lookN i.stats m with
    | some d => C d (dflt T d xs) s1
    | none => .bad
  | .new c es, σ, s => (evEs es σ s).bind fun xs s1 => make T C c xs s1
  | .newK c es p, σ, s => (evEs es σ s).bind fun xs s1 => match putAt xs p with
    | some ys => makeF T C c ys s1
    | none => .bad
  | .callK d es p, σ, s => (evEs es σ s).bind fun xs s1 => match putAt xs p with
    | some ys => C d ys s1
    | none => .bad
  | .bi b fr es, σ, s => (evEs es σ s).bind fun xs s1 => bi2 T C b fr xs s1
  | .bm b fr a es, σ, s => (evE a σ s).bind fun x s1 => if bmOk b x s1 then (evEs es σ s1).bind fun xs s2 => bm2 b fr x xs s2 else .bad
  | .fmt es, σ, s => (evF es [] σ s).bind fun t s1 => .ok (.v (.str t)) s1
  | .lc fr tg it cs e, σ, s => (evE it σ s).bind fun v s1 => match itemsOf v with
    | some xs => ((lcL (fun y t => match asg tg y σ with
        | some σ' => evCs cs σ' t
        | none => .bad) (fun y t => match asg tg y σ with
        | some σ' => evE e σ' t
        | none => .bad) s1.length xs (s1 ++ [.lst []])).calm).bind fun _ s2 => lcEnd fr s1.length s2
    | none => .bad
  | .rng es, σ, s => (evEs es σ s).bind fun xs s1 => match xs with
    | [.v (.int n)] => if -(2 ^ 62) ≤ n ∧ n < 2 ^ 62 then .ok (.v (.lst (rngL 0 n.toNat))) s1 else .bad
    | [.v (.int m), .v (.int n)] => if -(2 ^ 62) ≤ m ∧ m < 2 ^ 62 ∧ -(2 ^ 62) ≤ n ∧ n < 2 ^ 62 then .ok (.v (.lst (rngL m (n - m).toNat))) s1 else .bad
    | _ => .bad
def evEs : List E → Sl → PS → Res (List SV)
  | [], _, s => .ok [] s
  | e :: r, σ, s => (evE e σ s).bind fun x s1 => (evEs r σ s1).bind fun xs s2 => .ok (x :: xs) s2
/-- the parts of an f-string -/
def evF : List E → List Nat → Sl → PS → Res (List Nat)
  | [], acc, _, s => .ok acc s
  | e :: r, acc, σ, s => (evE e σ s).bind fun x s1 => match fmt1 x with
    | some t => if (acc ++ t).length ≤ lim then evF r (acc ++ t) σ s1 else .bad
    | none => .bad
/-- a test -/
def evB : B → Sl → PS → Res Bool
  | .e a, σ, s => (evE a σ s).bind fun x s1 => truthS T C x s1
  | .and a b, σ, s => (evB a σ s).bind fun k s1 => if k then evB b σ s1 else .ok false s1
  | .or a b, σ, s => (evB a σ s).bind fun k s1 => if k then .ok true s1 else evB b σ s1
  | .not a, σ, s => (evB a σ s).bind fun k s1 => .ok (!k) s1
  | .cmp o a b, σ, s => (evE a σ s).bind fun x s1 => (evE b σ s1).bind fun y s2 => cmp2 T C o x y s2
def evCs : List B → Sl → PS → Res Bool
  | [], _, s => .ok true s
  | e :: r, σ, s => (evB e σ s).bind fun k s1 => if k then evCs r σ s1 else .ok false s1
end
end

/-! ### statements -/
inductive Fl where | nx | brk | ct | rt (x : SV)
inductive RS where
  | go (f : Fl) (σ : Sl) (s : PS) | ex (e : PX) (σ : Sl) (s : PS) | bad

def ofE {α : Type} (r : Res α) (σ : Sl) (k : α → PS → RS) : RS :=
  match r with
  | .ok a s => k a s
  | .ex e s => .ex e σ s
  | .bad => .bad

def RS.seq (r : RS) (k : Sl → PS → RS) : RS :=
  match r with
  | .go .nx σ s => k σ s
  | r => r

def forL (t : Tg) (body : Sl → PS → RS) : List PV → Sl → PS → RS
  | [], σ, s => .go .nx σ s
  | x :: r, σ, s => match asg t x σ with
    | none => .bad
    | some σ1 => match body σ1 s with
      | .go .nx σ2 s2 => forL t body r σ2 s2
      | .go .ct σ2 s2 => forL t body r σ2 s2
      | .go .brk σ2 s2 => .go .nx σ2 s2
      | .go (.rt v) σ2 s2 => .go (.rt v) σ2 s2
      | .ex e σ2 s2 => .ex e σ2 s2
      | .bad => .bad

/-- while c: body, at most n turns -/
def whL (c : Sl → PS → Res Bool) (body : Sl → PS → RS) : Nat → Sl → PS → RS
  | 0, _, _ => .bad
  | n + 1, σ, s => ofE (c σ s) σ fun k s1 => if k then (match body σ s1 with
      | .go .nx σ2 s2 => whL c body n σ2 s2
      | .go .ct σ2 s2 => whL c body n σ2 s2
      | .go .brk σ2 s2 => .go .nx σ2 s2
      | .go (.rt v) σ2 s2 => .go (.rt v) σ2 s2
      | .ex e σ2 s2 => .ex e σ2 s2
      | .bad => .bad)
    else .go .nx σ s1

/-- x op= y: ints, texts -/
def aug2 (o : Op2) (a b : SV) (s : PS) : Res SV :=
  match a, b with
  | .v (.int i), .v (.int j) => match o with
    | .add => .ok (.v (.int (i + j))) s
    | .sub => .ok (.v (.int (i - j))) s
    | _ => .bad
  | .v (.str x), .v (.str y) => match o with
    | .add => if x.length + y.length ≤ lim then .ok (.v (.str (x ++ y))) s else .bad
    | _ => .bad
  | _, _ => .bad

section
variable (T : Tab) (C : Calls)
/-- an error's field -/
def xfld (e : PX) (f : Nat) : Option PV := (T.cls[e.c]?).bind fun i => (idxN i.flds f).bind fun j => e.fs[j]?
def xsub (c k : Nat) : Bool := match T.cls[c]? with
  | some i => i.supers.contains k
  | none => false

mutual
def evH (e : PX) : HE → Option PV
  | .fld f => xfld T e f
  | .isx c => if e.fs.isEmpty then none else some (.bl (xsub T e.c c))
  | .non => some .non
  | .tup es => (evHs e es).map .tup
  | .not a => match evH e a with
    | some (.bl k) => some (.bl (!k))
    | _ => none
  | .and a b => match evH e a with
    | some (.bl true) => evH e b
    | some (.bl false) => some (.bl false)
    | _ => none
  | .ite c a b => match evH e c with
    | some (.bl true) => evH e a
    | some (.bl false) => evH e b
    | _ => none
def evHs (e : PX) : List HE → Option (List PV)
  | [] => some []
  | a :: r => match evH e a, evHs e r with
    | some x, some xs => some (x :: xs)
    | _, _ => none
end

def setIx (o i x : SV) (s : PS) : Option PS :=
  match o, i with
  | .ref n, .v (.int k) => match s[n]? with
    | some (.lst xs) => match ixN xs.length k with
      | some j => match x with
        | .v _ => some (s.set n (.lst (xs.set j x)))
        | .ref m => if m < n then some (s.set n (.lst (xs.set j x))) else none
      | none => none
    | _ => none
  | _, _ => none

def setFld (o : SV) (f : Nat) (x : SV) (s : PS) : Option PS :=
  match o with
  | .ref n => match s[n]? with
    | some (.ins c fs) => match T.cls[c]? with
      | some ci => match idxN ci.flds f with
        | some j => if j ≤ fs.length then
            (let fs' := if j < fs.length then fs.set j x else fs ++ [x]
            match x with
            | .v _ => some (s.set n (.ins c fs'))
            | .ref m => if m < n then some (s.set n (.ins c fs')) else none)
          else none
        | none => none
      | none => none
    | _ => none
  | _ => none

/-- what is frozen: the store's last cell -/
def frzS (i n0 : Nat) (σ : Sl) (s : PS) : RS :=
  match σ[i]? with
  | some (some (.ref n)) => if n0 ≤ n ∧ n + 1 = s.length then
      match s[n]? with
      | some (.lst xs) => match vs xs with
        | some ys =>
          let τ := σ.set i (some (.v (.lst ys)))
          if τ.all (fun o => match o with
            | some (.ref m) => m != n
            | _ => true) then .go .nx τ (s.take n) else .bad
        | none => .bad
      | _ => .bad
    else .bad
  | _ => .bad

mutual
def exS (n0 : Nat) : S → Sl → PS → RS
  | .set i e, σ, s => ofE (evE T C e σ s) σ fun x s1 => .go .nx (σ.set i (some x)) s1
  | .tset is e, σ, s => ofE (evE T C e σ s) σ fun x s1 => match x with
    | .v (.tup xs) => match setMany is xs σ with
      | some σ1 => .go .nx σ1 s1
      | none => .bad
    | _ => .bad
  | .par i j a b, σ, s => ofE (evE T C a σ s) σ fun x s1 => ofE (evE T C b σ s1) σ fun y s2 => .go .nx ((σ.set i (some x)).set j (some y)) s2
  | .setix o i e, σ, s => ofE (evE T C e σ s) σ fun x s1 => ofE (evE T C o σ s1) σ fun y s2 => ofE (evE T C i σ s2) σ fun z s3 => match setIx y z x s3 with
    | some s4 => .go .nx σ s4
    | none => .bad
  | .setfld o f e, σ, s => ofE (evE T C e σ s) σ fun x s1 => ofE (evE T C o σ s1) σ fun y s2 => match setFld T y f x s2 with
    | some s3 => .go .nx σ s3
    | none => .bad
  | .ex e, σ, s => ofE (evE T C e σ s) σ fun _ s1 => .go .nx σ s1
  | .ite c a b, σ, s => ofE (evB T C c σ s) σ fun k s1 => if k then exSs n0 a σ s1 else exSs n0 b σ s1
  | .loop t it body, σ, s => ofE (evE T C it σ s) σ fun x s1 => match itemsOf x with
    | some xs => forL t (fun σ2 s2 => exSs n0 body σ2 s2) xs σ s1
    | none => .bad
  | .aug i o e, σ, s => match σ[i]? with
    | some (some x) => ofE (evE T C e σ s) σ fun y s1 => ofE (aug2 o x y s1) σ fun z s2 => .go .nx (σ.set i (some z)) s2
    | _ => .bad
  | .wh n c body, σ, s => whL (fun σ2 s2 => evB T C c σ2 s2) (fun σ2 s2 => exSs n0 body σ2 s2) n σ s
  | .brk, σ, s => .go .brk σ s
  | .cont, σ, s => .go .ct σ s
  | .pass, σ, s => .go .nx σ s
  | .ret e, σ, s => ofE (evE T C e σ s) σ fun x s1 => .go (.rt x) σ s1
  | .retN, σ, s => .go (.rt (.v .non)) σ s
  | .raise c es, σ, s => ofE (evEs T C es σ s) σ fun xs s1 => match vs xs with
    | some ys => .ex ⟨c, ys⟩ σ s1
    | none => .bad
  | .tryx body c n i h, σ, s => match exSs n0 body σ s with
    | .ex e σ1 s1 => if xsub T e.c c then (if n < σ1.length then (match evH T e h with
      | some x => .go .nx ((σ1.set i (some (.v x))).set n none) s1
      | none => .bad) else .bad) else .ex e σ1 s1
    | r => r
  | .frz i, σ, s => frzS i n0 σ s
def exSs (n0 : Nat) : List S → Sl → PS → RS
  | [], σ, s => .go .nx σ s
  | a :: r, σ, s => (exS n0 a σ s).seq fun σ1 s1 => exSs n0 r σ1 s1
end

/-- a def's end: what it made is let go, a new list that it hands back is frozen -/
def leave (esc : Bool) (n0 : Nat) (x : SV) (s : PS) : Res SV :=
  if esc then .ok x s else
  match x with
  | .v y => .ok (.v y) (s.take n0)
  | .ref m => if m < n0 then .ok (.ref m) (s.take n0) else
    match s[m]? with
    | some (.lst xs) => match vs xs with
      | some ys => .ok (.v (.lst ys)) (s.take n0)
      | none => .bad
    | _ => .bad

def runD (di : DefI) (args : List SV) (s : PS) : Res SV :=
  if args.length = di.npar then
    match exSs T C s.length di.body (args.map some ++ List.replicate (di.nslot - args.length) none) s with
    | .go (.rt x) _ s1 => leave di.esc s.length x s1
    | .go .nx _ s1 => leave di.esc s.length (.v .non) s1
    | .ex e _ s1 => if di.esc then .ex e s1 else .ex e (s1.take s.length)
    | _ => .bad
  else .bad
end

/-- the calls of depth n -/
def callN (T : Tab) : Nat → Calls
  | 0 => fun _ _ _ => .bad
  | n + 1 => fun d args s => match T.defs[d]? with
    | some di => runD T (callN T n) di args s
    | none => .bad
end Vm
set_option Elab.async false
set_option linter.all false
set_option maxRecDepth 100000
/-! How the machine's state lies in the abstract heap. -/
namespace Vm
open PySem L2

/-- what a law's text fixes: the written part, the classes' places, the attributes' names -/
structure GD where
  K : PySem.W.Frag
  T : Tab
  nm : Nat → Str
  ca : Nat → Addr

/-- what may be read and is not one of ι -/
def RdN (ι : List Addr) (H : Hp) (a : Addr) (u : HO) : Prop := Rd H a u ∧ a ∉ ι
def TupN (K : PySem.W.Frag) (ι : List Addr) (H : Hp) (a : Addr) (us : List V) : Prop :=
  RdN ι H a (.tup us) ∨ ∃ (o : Obj) (its : Array Value) (n : Nat), K.lookup a = some o ∧ o.cls = .type "tuple" ∧ o.data = .seq its n ∧ its.size ≤ sizeLine ∧ Vals us its.toList
def LstN (K : PySem.W.Frag) (ι : List Addr) (H : Hp) (a : Addr) (us : List V) : Prop :=
  RdN ι H a (.lst us) ∨ ∃ (o : Obj) (its : Array Value) (n : Nat), K.lookup a = some o ∧ o.cls = .type "list" ∧ o.dict = none ∧ o.data = .seq its n ∧ its.size ≤ sizeLine ∧ Vals us its.toList
theorem TupN.sq {K : PySem.W.Frag} {ι : List Addr} {H : Hp} {a : Addr} {us : List V} (h : TupN K ι H a us) : SqT K H a us := h.elim (fun x => .inl x.1) .inr
theorem LstN.sq {K : PySem.W.Frag} {ι : List Addr} {H : Hp} {a : Addr} {us : List V} (h : LstN K ι H a us) : SqL K H a us := h.elim (fun x => .inl x.1) .inr

mutual
inductive Rep (G : GD) (ι : List Addr) (H : Hp) : PV → V → Prop
  | non : Rep G ι H .non .non
  | bl (b : Bool) : Rep G ι H (.bl b) (.bl b)
  | int (i : Int) : Rep G ι H (.int i) (.int i)
  | str (x : List Nat) (h : x.length ≤ lim) : Rep G ι H (.str x) (.str (txt x))
  | tup {xs : List PV} {a : Addr} {us : List V} (h : TupN G.K ι H a us) (r : Reps G ι H xs us) : Rep G ι H (.tup xs) (.ref a)
  | lst {xs : List PV} {a : Addr} {us : List V} (h : H a = some (.lst us)) (n : a ∉ ι) (r : Reps G ι H xs us) : Rep G ι H (.lst xs) (.ref a)
  | clst {xs : List PV} {a : Addr} {us : List V} (h : LstN G.K ι H a us) (r : Reps G ι H xs us) : Rep G ι H (.clst xs) (.ref a)
  | dct0 {a : Addr} (h : H a = some (.dK [])) (n : a ∉ ι) : Rep G ι H (.dct [] []) (.ref a)
  | ins {c : Nat} {fs : List PV} {ci : ClsI} {a dx : Addr} {us : List V} (hc : G.T.cls[c]? = some ci) (hx : ci.isx = false) (h : H a = some (.ins (G.ca c) dx ((ci.flds.map G.nm).zip us))) (n : a ∉ ι)
      (l : fs.length ≤ ci.flds.length) (r : Reps G ι H fs us) : Rep G ι H (.ins c fs) (.ref a)
  | cls (c : Nat) : Rep G ι H (.cls c) (.ref (G.ca c))
inductive Reps (G : GD) (ι : List Addr) (H : Hp) : List PV → List V → Prop
  | nil : Reps G ι H [] []
  | cons {x : PV} {u : V} {xs : List PV} {us : List V} (h : Rep G ι H x u) (r : Reps G ι H xs us) : Reps G ι H (x :: xs) (u :: us)
end

/-- a slot's value -/
def RepS (G : GD) (ι : List Addr) (H : Hp) (x : SV) (u : V) : Prop :=
  match x with
  | .v y => Rep G ι H y u
  | .ref n => ∃ a, ι[n]? = some a ∧ u = .ref a
inductive RepSs (G : GD) (ι : List Addr) (H : Hp) : List SV → List V → Prop
  | nil : RepSs G ι H [] []
  | cons {x : SV} {u : V} {xs : List SV} {us : List V} (h : RepS G ι H x u) (r : RepSs G ι H xs us) : RepSs G ι H (x :: xs) (u :: us)

def blw (n : Nat) : SV → Prop
  | .v _ => True
  | .ref m => m < n

/-- a cell of the store -/
def Cell (G : GD) (ι : List Addr) (H : Hp) (n : Nat) (o : PO) (a : Addr) : Prop :=
  match o with
  | .lst xs => ∃ us, H a = some (.lst us) ∧ RepSs G ι H xs us ∧ ∀ x ∈ xs, blw n x
  | .ins c fs => ∃ ci dx us, (G.T.cls[c]? = some ci ∧ ci.isx = false) ∧ H a = some (.ins (G.ca c) dx ((ci.flds.map G.nm).zip us)) ∧ fs.length ≤ ci.flds.length ∧ RepSs G ι H fs us ∧ ∀ x ∈ fs, blw n x

structure Sim (G : GD) (ι : List Addr) (s : PS) (H : Hp) : Prop where
  len : ι.length = s.length
  nd : ι.Nodup
  at_ : ∀ (n : Nat) (o : PO), s[n]? = some o → ∃ a, ι[n]? = some a ∧ Cell G ι H n o a

/-- what stands and is none of ι stands still -/
def Stay (ι : List Addr) (H : Hp) (ι' : List Addr) (H' : Hp) : Prop := ∀ b o, H b = some o → b ∉ ι → H' b = some o ∧ b ∉ ι'
structure Ext (ι : List Addr) (H : Hp) (ι' : List Addr) (H' : Hp) : Prop where
  pre : ∃ t, ι' = ι ++ t
  stay : Stay ι H ι' H'
structure ExtK (k : Nat) (ι : List Addr) (H : Hp) (ι' : List Addr) (H' : Hp) : Prop where
  lo : k ≤ ι.length
  hi : k ≤ ι'.length
  eq : ι'.take k = ι.take k
  stay : Stay ι H ι' H'

theorem Stay.refl {ι : List Addr} {H : Hp} : Stay ι H ι H := fun _ _ e n => ⟨e, n⟩
theorem Stay.trans {ι ι1 ι2 : List Addr} {H H1 H2 : Hp} (a : Stay ι H ι1 H1) (b : Stay ι1 H1 ι2 H2) : Stay ι H ι2 H2 := fun x o e n => let ⟨e1, n1⟩ := a x o e n; b x o e1 n1
theorem Ext.refl {ι : List Addr} {H : Hp} : Ext ι H ι H := ⟨⟨[], (List.append_nil _).symm⟩, .refl⟩
theorem Ext.trans {ι ι1 ι2 : List Addr} {H H1 H2 : Hp} (a : Ext ι H ι1 H1) (b : Ext ι1 H1 ι2 H2) : Ext ι H ι2 H2 := by
  obtain ⟨t, rfl⟩ := a.pre
  obtain ⟨u, rfl⟩ := b.pre
  exact ⟨⟨t ++ u, List.append_assoc _ _ _⟩, a.stay.trans b.stay⟩
theorem Ext.k {ι ι1 : List Addr} {H H1 : Hp} {k : Nat} (a : Ext ι H ι1 H1) (h : k ≤ ι.length) : ExtK k ι H ι1 H1 := by
  obtain ⟨t, rfl⟩ := a.pre
  exact ⟨h, by rw [List.length_append]; omega, List.take_append_of_le_length h, a.stay⟩
theorem ExtK.refl {k : Nat} {ι : List Addr} {H : Hp} (h : k ≤ ι.length) : ExtK k ι H ι H := ⟨h, h, rfl, .refl⟩
theorem ExtK.trans {k : Nat} {ι ι1 ι2 : List Addr} {H H1 H2 : Hp} (a : ExtK k ι H ι1 H1) (b : ExtK k ι1 H1 ι2 H2) : ExtK k ι H ι2 H2 := ⟨a.lo, b.hi, b.eq.trans a.eq, a.stay.trans b.stay⟩

section
variable {G : GD} {ι ι' : List Addr} {H H' : Hp}
theorem Rd.keep {a : Addr} {u : HO} (k : Stay ι H ι' H') (h : Rd H a u) (n : a ∉ ι) : Rd H' a u ∧ a ∉ ι' := by
  rcases h with h | ⟨o, h⟩
  · exact ⟨.inl (k a _ h n).1, (k a _ h n).2⟩
  · exact ⟨.inr ⟨o, (k a _ h n).1⟩, (k a _ h n).2⟩
theorem TupN.keep {K : PySem.W.Frag} {a : Addr} {us : List V} (k : Stay ι H ι' H') (h : TupN K ι H a us) : TupN K ι' H' a us := by
  rcases h with ⟨h, n⟩ | h
  · exact .inl (Rd.keep k h n)
  · exact .inr h
theorem LstN.keep {K : PySem.W.Frag} {a : Addr} {us : List V} (k : Stay ι H ι' H') (h : LstN K ι H a us) : LstN K ι' H' a us := by
  rcases h with ⟨h, n⟩ | h
  · exact .inl (Rd.keep k h n)
  · exact .inr h
mutual
theorem Rep.keep (k : Stay ι H ι' H') : ∀ {x : PV} {u : V}, Rep G ι H x u → Rep G ι' H' x u
  | _, _, .non => .non
  | _, _, .bl b => .bl b
  | _, _, .int i => .int i
  | _, _, .str x h => .str x h
  | _, _, .tup h r => .tup (h.keep k) (Reps.keep k r)
  | _, _, .lst h n r => .lst (k _ _ h n).1 (k _ _ h n).2 (Reps.keep k r)
  | _, _, .clst h r => .clst (h.keep k) (Reps.keep k r)
  | _, _, .dct0 h n => .dct0 (k _ _ h n).1 (k _ _ h n).2
  | _, _, .ins hc hx h n l r => .ins hc hx (k _ _ h n).1 (k _ _ h n).2 l (Reps.keep k r)
  | _, _, .cls c => .cls c
theorem Reps.keep (k : Stay ι H ι' H') : ∀ {xs : List PV} {us : List V}, Reps G ι H xs us → Reps G ι' H' xs us
  | _, _, .nil => .nil
  | _, _, .cons h r => .cons (Rep.keep k h) (Reps.keep k r)
end
theorem RepS.keep (e : Ext ι H ι' H') {x : SV} {u : V} (h : RepS G ι H x u) : RepS G ι' H' x u := by
  cases x with
  | v y => exact Rep.keep e.stay h
  | ref n =>
    obtain ⟨a, h1, h2⟩ := h
    obtain ⟨t, rfl⟩ := e.pre
    refine ⟨a, ?_, h2⟩
    rw [List.getElem?_append_left (List.getElem?_eq_some_iff.mp h1).1]
    exact h1
theorem RepSs.keep (e : Ext ι H ι' H') : ∀ {xs : List SV} {us : List V}, RepSs G ι H xs us → RepSs G ι' H' xs us
  | _, _, .nil => .nil
  | _, _, .cons h r => .cons (RepS.keep e h) (RepSs.keep e r)

theorem Reps.length : ∀ {xs : List PV} {us : List V}, Reps G ι H xs us → xs.length = us.length
  | _, _, .nil => rfl
  | _, _, .cons _ r => congrArg (· + 1) (Reps.length r)
theorem RepSs.length : ∀ {xs : List SV} {us : List V}, RepSs G ι H xs us → xs.length = us.length
  | _, _, .nil => rfl
  | _, _, .cons _ r => congrArg (· + 1) (RepSs.length r)
theorem Reps.toS : ∀ {xs : List PV} {us : List V}, Reps G ι H xs us → RepSs G ι H (xs.map .v) us
  | _, _, .nil => .nil
  | _, _, .cons h r => .cons h (Reps.toS r)
theorem RepSs.ofVs : ∀ {xs : List SV} {ys : List PV} {us : List V}, vs xs = some ys → RepSs G ι H xs us → Reps G ι H ys us
  | [], _, _, e, .nil => by cases e; exact .nil
  | .v x :: r, _, _, e, .cons h t => by
    simp only [vs] at e
    cases q : vs r with
    | none => rw [q] at e; cases e
    | some ys => rw [q] at e; cases e; exact .cons h (RepSs.ofVs q t)
  | .ref _ :: _, _, _, e, _ => by cases e
theorem Reps.get : ∀ {xs : List PV} {us : List V} {i : Nat} {x : PV}, Reps G ι H xs us → xs[i]? = some x → ∃ u, us[i]? = some u ∧ Rep G ι H x u
  | _, _, 0, _, .cons h _, e => by simp at e; subst e; exact ⟨_, rfl, h⟩
  | _, _, i + 1, _, .cons _ r, e => by
    obtain ⟨u, h1, h2⟩ := Reps.get (i := i) r (by simpa using e)
    exact ⟨u, by simpa using h1, h2⟩
theorem RepSs.get : ∀ {xs : List SV} {us : List V} {i : Nat} {x : SV}, RepSs G ι H xs us → xs[i]? = some x → ∃ u, us[i]? = some u ∧ RepS G ι H x u
  | _, _, 0, _, .cons h _, e => by simp at e; subst e; exact ⟨_, rfl, h⟩
  | _, _, i + 1, _, .cons _ r, e => by
    obtain ⟨u, h1, h2⟩ := RepSs.get (i := i) r (by simpa using e)
    exact ⟨u, by simpa using h1, h2⟩
theorem RepSs.set {x : SV} {u : V} (h : RepS G ι H x u) : ∀ {xs : List SV} {us : List V} (i : Nat), RepSs G ι H xs us → RepSs G ι H (xs.set i x) (us.set i u)
  | _, _, _, .nil => .nil
  | _, _, 0, .cons _ r => .cons h r
  | _, _, i + 1, .cons q r => .cons q (RepSs.set h i r)
theorem RepSs.append : ∀ {xs ys : List SV} {us ws : List V}, RepSs G ι H xs us → RepSs G ι H ys ws → RepSs G ι H (xs ++ ys) (us ++ ws)
  | _, _, _, _, .nil, q => q
  | _, _, _, _, .cons h r, q => .cons h (RepSs.append r q)
theorem Reps.append : ∀ {xs ys : List PV} {us ws : List V}, Reps G ι H xs us → Reps G ι H ys ws → Reps G ι H (xs ++ ys) (us ++ ws)
  | _, _, _, _, .nil, q => q
  | _, _, _, _, .cons h r, q => .cons h (Reps.append r q)
theorem Reps.take : ∀ {xs : List PV} {us : List V} (n : Nat), Reps G ι H xs us → Reps G ι H (xs.take n) (us.take n)
  | _, _, 0, _ => by simpa using Reps.nil
  | _, _, _ + 1, .nil => .nil
  | _, _, n + 1, .cons h r => .cons h (Reps.take n r)
theorem Reps.drop : ∀ {xs : List PV} {us : List V} (n : Nat), Reps G ι H xs us → Reps G ι H (xs.drop n) (us.drop n)
  | _, _, 0, r => r
  | _, _, _ + 1, .nil => .nil
  | _, _, n + 1, .cons _ r => Reps.drop n r
theorem RepSs.take : ∀ {xs : List SV} {us : List V} (n : Nat), RepSs G ι H xs us → RepSs G ι H (xs.take n) (us.take n)
  | _, _, 0, _ => by simpa using RepSs.nil
  | _, _, _ + 1, .nil => .nil
  | _, _, n + 1, .cons h r => .cons h (RepSs.take n r)
theorem RepSs.drop : ∀ {xs : List SV} {us : List V} (n : Nat), RepSs G ι H xs us → RepSs G ι H (xs.drop n) (us.drop n)
  | _, _, 0, r => r
  | _, _, _ + 1, .nil => .nil
  | _, _, n + 1, .cons _ r => RepSs.drop n r

/-! ### the store -/
variable {s : PS}
theorem Sim.tracked (S : Sim G ι s H) {a : Addr} (h : a ∈ ι) : ∃ o, H a = some o := by
  obtain ⟨n, hn, e⟩ := List.getElem_of_mem h
  have hs : n < s.length := by rw [← S.len]; exact hn
  obtain ⟨b, h1, h2⟩ := S.at_ n _ (List.getElem?_eq_getElem hs)
  have : b = a := by
    rw [List.getElem?_eq_getElem hn, e] at h1
    exact (Option.some.inj h1).symm
  subst this
  revert h2
  cases s[n] with
  | lst xs => exact fun ⟨_, h, _⟩ => ⟨_, h⟩
  | ins c fs => exact fun ⟨_, _, _, _, h, _⟩ => ⟨_, h⟩
theorem Sim.fresh (S : Sim G ι s H) {p : Addr} (h : H p = none) : p ∉ ι := fun m => by
  obtain ⟨o, e⟩ := S.tracked m
  rw [h] at e; cases e
/-- something new that is not of the store -/
theorem Stay.new (S : Sim G ι s H) {p : Addr} {o : HO} (h : H p = none) : Stay ι H ι (upd H p o) := fun b u e n => ⟨by rw [upd_ne (ne_of_none e h)]; exact e, n⟩
theorem Ext.new (S : Sim G ι s H) {p : Addr} {o : HO} (h : H p = none) : Ext ι H ι (upd H p o) := ⟨⟨[], (List.append_nil _).symm⟩, Stay.new S h⟩
theorem Cell.keep (e : Ext ι H ι' H') {n : Nat} {o : PO} {a : Addr} (c : Cell G ι H n o a) (h : ∀ u, H a = some u → H' a = some u) : Cell G ι' H' n o a := by
  cases o with
  | lst xs =>
    obtain ⟨us, h1, h2, h3⟩ := c
    exact ⟨us, h _ h1, h2.keep e, h3⟩
  | ins c fs =>
    obtain ⟨ci, dx, us, h0, h1, h2, h3, h4⟩ := c
    exact ⟨ci, dx, us, h0, h _ h1, h2, h3.keep e, h4⟩
theorem Sim.new (S : Sim G ι s H) {p : Addr} {o : HO} (h : H p = none) : Sim G ι s (upd H p o) :=
  ⟨S.len, S.nd, fun n u e => by
    obtain ⟨a, h1, h2⟩ := S.at_ n u e
    exact ⟨a, h1, h2.keep (Ext.new S h) fun u q => by rw [upd_ne (ne_of_none q h)]; exact q⟩⟩
/-- a heap that knows more -/
theorem Sim.more (S : Sim G ι s H) (k : ∀ b o, H b = some o → H' b = some o) : Sim G ι s H' ∧ Ext ι H ι H' := by
  have e : Ext ι H ι H' := ⟨⟨[], (List.append_nil _).symm⟩, fun b o q n => ⟨k b o q, n⟩⟩
  exact ⟨⟨S.len, S.nd, fun n u q => by
    obtain ⟨a, h1, h2⟩ := S.at_ n u q
    exact ⟨a, h1, h2.keep e fun u q => k _ u q⟩⟩, e⟩
/-- a new cell -/
theorem Sim.push (S : Sim G ι s H) {p : Addr} {ho : HO} {o : PO} (h : H p = none) (c : ∀ (e : Ext ι H (ι ++ [p]) (upd H p ho)), Cell G (ι ++ [p]) (upd H p ho) s.length o p) :
    Sim G (ι ++ [p]) (s ++ [o]) (upd H p ho) ∧ Ext ι H (ι ++ [p]) (upd H p ho) := by
  have hp := S.fresh h
  have e : Ext ι H (ι ++ [p]) (upd H p ho) := ⟨⟨[p], rfl⟩, fun b u q n => ⟨by rw [upd_ne (ne_of_none q h)]; exact q, fun m => by
    rcases List.mem_append.mp m with m | m
    · exact n m
    · rw [List.mem_singleton] at m; subst m; rw [h] at q; cases q⟩⟩
  refine ⟨⟨by rw [List.length_append, List.length_append, S.len]; rfl, List.nodup_append.mpr ⟨S.nd, by simp, fun a ha b hb => by
    rw [List.mem_singleton] at hb; subst hb; exact fun q => hp (q ▸ ha)⟩, fun n u q => ?_⟩, e⟩
  by_cases hn : n < s.length
  · rw [List.getElem?_append_left hn] at q
    obtain ⟨a, h1, h2⟩ := S.at_ n u q
    refine ⟨a, by rw [List.getElem?_append_left (by rw [S.len]; exact hn)]; exact h1, h2.keep e fun u q => by rw [upd_ne (ne_of_none q h)]; exact q⟩
  · have hn2 : n = s.length := by
      have := (List.getElem?_eq_some_iff.mp q).1
      rw [List.length_append] at this
      simp at this
      omega
    subst hn2
    rw [List.getElem?_append_right (Nat.le_refl _), Nat.sub_self] at q
    simp at q
    subst q
    exact ⟨p, by rw [← S.len, List.getElem?_append_right (Nat.le_refl _), Nat.sub_self]; rfl, c e⟩
theorem idx_inj {l : List Addr} (nd : l.Nodup) {i j : Nat} {a : Addr} (h1 : l[i]? = some a) (h2 : l[j]? = some a) : i = j := by
  obtain ⟨a1, e1⟩ := List.getElem?_eq_some_iff.mp h1
  obtain ⟨a2, e2⟩ := List.getElem?_eq_some_iff.mp h2
  exact (List.getElem_inj nd).mp (e1.trans e2.symm)
/-- a cell is written -/
theorem Sim.write (S : Sim G ι s H) {n : Nat} {a : Addr} {ho : HO} {o : PO} (h : ι[n]? = some a) (hn : n < s.length) (c : ∀ (e : Ext ι H ι (upd H a ho)), Cell G ι (upd H a ho) n o a) :
    Sim G ι (s.set n o) (upd H a ho) ∧ Ext ι H ι (upd H a ho) := by
  have ha : a ∈ ι := List.mem_of_getElem? h
  have e : Ext ι H ι (upd H a ho) := ⟨⟨[], (List.append_nil _).symm⟩, fun b u q m => ⟨by rw [upd_ne (fun (z : b = a) => m (by rw [z]; exact ha))]; exact q, m⟩⟩
  refine ⟨⟨by rw [List.length_set]; exact S.len, S.nd, fun m u q => ?_⟩, e⟩
  by_cases hm : n = m
  · subst hm
    rw [List.getElem?_set_self hn] at q
    cases q
    exact ⟨a, h, c e⟩
  · rw [List.getElem?_set_ne hm] at q
    obtain ⟨b, h1, h2⟩ := S.at_ m u q
    refine ⟨b, h1, h2.keep e fun u q => ?_⟩
    rw [upd_ne fun z => hm ?_]
    · exact q
    · subst z; exact idx_inj S.nd h h1
theorem RepS.cut {k : Nat} {x : SV} {u : V} (b : blw k x) (h : RepS G ι H x u) : RepS G (ι.take k) H x u := by
  cases x with
  | v y => exact Rep.keep (fun b o e n => ⟨e, fun m => n (List.mem_of_mem_take m)⟩) h
  | ref n =>
    obtain ⟨a, h1, h2⟩ := h
    exact ⟨a, by rw [List.getElem?_take, if_pos (show n < k from b)]; exact h1, h2⟩
theorem RepSs.cut {k : Nat} : ∀ {xs : List SV} {us : List V}, (∀ x ∈ xs, blw k x) → RepSs G ι H xs us → RepSs G (ι.take k) H xs us
  | _, _, _, .nil => .nil
  | _, _, b, .cons h r => .cons (RepS.cut (b _ List.mem_cons_self) h) (RepSs.cut (fun x hx => b x (List.mem_cons_of_mem _ hx)) r)
theorem blw.mono {m n : Nat} {x : SV} (h : m ≤ n) (b : blw m x) : blw n x := by
  cases x with
  | v _ => trivial
  | ref k => exact Nat.lt_of_lt_of_le b h
/-- the last cells are let go -/
theorem Sim.cut (S : Sim G ι s H) (k : Nat) : Sim G (ι.take k) (s.take k) H := by
  refine ⟨by rw [List.length_take, List.length_take, S.len], S.nd.sublist (List.take_sublist _ _), fun n o q => ?_⟩
  rw [List.getElem?_take] at q
  by_cases hn : n < k
  · rw [if_pos hn] at q
    obtain ⟨a, h1, h2⟩ := S.at_ n o q
    refine ⟨a, by rw [List.getElem?_take, if_pos hn]; exact h1, ?_⟩
    cases o with
    | lst xs =>
      obtain ⟨us, g1, g2, g3⟩ := h2
      exact ⟨us, g1, g2.cut fun x hx => (g3 x hx).mono (Nat.le_of_lt hn), g3⟩
    | ins c fs =>
      obtain ⟨ci, dx, us, g0, g1, g2, g3, g4⟩ := h2
      exact ⟨ci, dx, us, g0, g1, g2, g3.cut fun x hx => (g4 x hx).mono (Nat.le_of_lt hn), g4⟩
  · rw [if_neg hn] at q; cases q
theorem Stay.cut {k : Nat} : Stay ι H (ι.take k) H := fun b o e n => ⟨e, fun m => n (List.mem_of_mem_take m)⟩
theorem Sim.ref_lt (S : Sim G ι s H) {n : Nat} {a : Addr} (h : ι[n]? = some a) : n < s.length := by
  rw [← S.len]; exact (List.getElem?_eq_some_iff.mp h).1
/-- the last cell is frozen: its place is none of the store's any more -/
theorem Sim.last_out (S : Sim G ι s H) {n : Nat} {a : Addr} (h : ι[n]? = some a) : a ∉ ι.take n := fun m => by
  obtain ⟨i, hi, e⟩ := List.getElem_of_mem m
  have h2 : (ι.take n)[i]? = some a := by rw [List.getElem?_eq_getElem hi, e]
  rw [List.getElem?_take] at h2
  by_cases q : i < n
  · rw [if_pos q] at h2
    have := idx_inj S.nd h h2
    omega
  · rw [if_neg q] at h2; cases h2

/-! ### slots -/
def SRel (G : GD) (ι : List Addr) (H : Hp) (σ : Sl) (τ : L2.St) : Prop := σ.length = τ.length ∧ ∀ (i : Nat) (x : SV), σ[i]? = some (some x) → ∃ u, τ[i]? = some (some u) ∧ RepS G ι H x u ∧ blw ι.length x
theorem RepS.blw (h : RepS G ι H x u) : blw ι.length x := by
  cases x with
  | v _ => trivial
  | ref n =>
    obtain ⟨a, h1, _⟩ := h
    exact (List.getElem?_eq_some_iff.mp h1).1
theorem SRel.keep {σ : Sl} {τ : L2.St} (R : SRel G ι H σ τ) (e : Ext ι H ι' H') : SRel G ι' H' σ τ := ⟨R.1, fun i x q => by
  obtain ⟨u, h1, h2, h3⟩ := R.2 i x q
  have := h2.keep e
  exact ⟨u, h1, this, this.blw⟩⟩
theorem SRel.set {σ : Sl} {τ : L2.St} (R : SRel G ι H σ τ) {x : SV} {u : V} (h : RepS G ι H x u) (i : Nat) : SRel G ι H (σ.set i (some x)) (τ.set i (some u)) := by
  refine ⟨by rw [List.length_set, List.length_set, R.1], fun j y q => ?_⟩
  by_cases hj : i = j
  · subst hj
    by_cases hi : i < σ.length
    · rw [List.getElem?_set_self hi] at q
      cases q
      exact ⟨u, by rw [List.getElem?_set_self (by rw [← R.1]; exact hi)], h, h.blw⟩
    · rw [List.getElem?_eq_none (by rw [List.length_set]; omega)] at q; cases q
  · rw [List.getElem?_set_ne hj] at q
    rw [List.getElem?_set_ne hj]
    exact R.2 j y q
theorem SRel.none {σ : Sl} {τ : L2.St} (R : SRel G ι H σ τ) (i : Nat) : SRel G ι H (σ.set i none) (τ.set i none) := by
  refine ⟨by rw [List.length_set, List.length_set, R.1], fun j y q => ?_⟩
  by_cases hj : i = j
  · subst hj
    by_cases hi : i < σ.length
    · rw [List.getElem?_set_self hi] at q; cases q
    · rw [List.getElem?_eq_none (by rw [List.length_set]; omega)] at q; cases q
  · rw [List.getElem?_set_ne hj] at q
    rw [List.getElem?_set_ne hj]
    exact R.2 j y q
end
end Vm
set_option Elab.async false
set_option linter.all false
set_option maxRecDepth 100000
/-! What a machine's answer promises; the calls. -/
namespace Vm
open PySem PySem.Spec PyProof.Rows L2

/-- an error, as it lies behind a call: its class, its own dict -/
def XRep (G : GD) (ι : List Addr) (H : Hp) (e : PX) (cl : Value) (d : Option Addr) : Prop :=
  ∃ ci, G.T.cls[e.c]? = some ci ∧ ci.isx = true ∧ cl = .ref (G.ca e.c) ∧ e.fs.length = ci.flds.length ∧
    (e.fs ≠ [] → ∃ (da : Addr) (hf : List (Str × V)), d = some da ∧ H da = some (.xd hf) ∧ da ∉ ι ∧ ∀ (j : Nat) (f : Nat) (x : PV), ci.flds[j]? = some f → e.fs[j]? = some x → ∃ u, hf.lookup (G.nm f) = some u ∧ Rep G ι H x u)
theorem XRep.keep {G : GD} {ι ι' : List Addr} {H H' : Hp} (k : Stay ι H ι' H') {e : PX} {cl : Value} {d : Option Addr} (x : XRep G ι H e cl d) : XRep G ι' H' e cl d := by
  obtain ⟨ci, h1, hx, h2, hl, h3⟩ := x
  refine ⟨ci, h1, hx, h2, hl, fun h => ?_⟩
  obtain ⟨da, hf, e1, e2, e3, e4⟩ := h3 h
  refine ⟨da, hf, e1, (k _ _ e2 e3).1, (k _ _ e2 e3).2, fun j f x a b => ?_⟩
  obtain ⟨u, q1, q2⟩ := e4 j f x a b
  exact ⟨u, q1, q2.keep k⟩

/-- what must hold of an answer: F of every end, E of every error -/
def Post {α : Type} (G : GD) (r : Res α) (ι : List Addr) (H : Hp) (F : α → PS → List Addr → Hp → Prop) (E : XK) : Prop :=
  match r with
  | .ok x s' => ∀ ι' H', Ext ι H ι' H' → Sim G ι' s' H' → F x s' ι' H'
  | .ex e s' => ∀ ι' H' cl d, Ext ι H ι' H' → Sim G ι' s' H' → XRep G ι' H' e cl d → E cl d H'
  | .bad => False
section
variable {G : GD} {α β : Type} {ι ι1 : List Addr} {H H1 : Hp} {E : XK}
theorem Post.at {r : Res α} {F : α → PS → List Addr → Hp → Prop} (h : Post G r ι H F E) (e : Ext ι H ι1 H1) : Post G r ι1 H1 F E := by
  cases r with
  | ok x s' => exact fun ι' H' e' S => h ι' H' (e.trans e') S
  | ex x s' => exact fun ι' H' cl d e' S q => h ι' H' cl d (e.trans e') S q
  | bad => exact h
theorem Post.bind {r : Res α} {k : α → PS → Res β} {F : β → PS → List Addr → Hp → Prop} (h : Post G (r.bind k) ι H F E) : Post G r ι H (fun x s' ι' H' => Post G (k x s') ι' H' F E) E := by
  cases r with
  | ok x s' => exact fun ι' H' e' S => Post.at h e'
  | ex x s' => exact h
  | bad => exact h
theorem Post.imp {r : Res α} {F F' : α → PS → List Addr → Hp → Prop} (h : Post G r ι H F E) (k : ∀ x s' ι' H', Ext ι H ι' H' → Sim G ι' s' H' → F x s' ι' H' → F' x s' ι' H') : Post G r ι H F' E := by
  cases r with
  | ok x s' => exact fun ι' H' e' S => k _ _ _ _ e' S (h ι' H' e' S)
  | ex x s' => exact h
  | bad => exact h
theorem Post.now {x : α} {s : PS} {F : α → PS → List Addr → Hp → Prop} (h : Post G (.ok x s) ι H F E) (S : Sim G ι s H) : F x s ι H := h ι H .refl S
end
/-- an end that is a value: Q of it -/
abbrev FV (G : GD) (Q : VK) : SV → PS → List Addr → Hp → Prop := fun x _ ι' H' => ∀ u, RepS G ι' H' x u → Q u H'

/-! ### the promise of a def -/
structure FnG (P : Program) (w : World) (K : PySem.W.Frag) (mg : Str → Option Value) (base : Heap) (L : Nat) (f : Addr) (fd : FuncData) (ps : List Str) (sp : Sp) : Prop where
  len : ∀ us H Q E, sp us H Q E → us.length = ps.length
  run : ∀ (A : Around) (outer : List Env) (s : Shared) (H : Hp) (args : Args) (vals : List Value) (us : List V) (Q : VK) (E : XK), Room L A → A.guards = some [] → Env0 P w K mg base A outer s H →
    BindsTo s fd args (ps.zip vals) → Vals us vals → sp us H Q E → codeAny (model P w) A (.call (.ref f) args) (CR (L2.CX P w) outer P w H s Q E) s
theorem FnG.mono {P : Program} {w : World} {K : PySem.W.Frag} {mg : Str → Option Value} {base : Heap} {j k : Nat} {f : Addr} {fd : FuncData} {ps : List Str} {sp : Sp} (F : FnG P w K mg base j f fd ps sp) (h : j ≤ k) :
    FnG P w K mg base k f fd ps sp :=
  { len := F.len, run := fun A outer s H args vals us Q E hr => F.run A outer s H args vals us Q E (Room.mono hr h) }

/-- a def of the text, by its body -/
theorem FnG.of {P : Program} {w : World} {K : PySem.W.Frag} {mg : Str → Option Value} {base : Heap} {k : Nat} {f : Addr} {name qual : Str} {params : Arguments} {body : List Stmt} {scope : Scope} {dV kV doc pm cdv ct oc : Value} {an od : Option Addr}
    {osl : Array (Option Value)} {N ps : List Str} {sp : Sp} (lk : K.lookup f = some ⟨oc, od, .func (PySem.W.fnOf name qual params body scope dV kV doc pm an cdv ct), osl⟩) (hcd : PySem.W.codeIn K cdv qual = true) (S : FnScope N ps scope)
    (len : ∀ us H Q E, sp us H Q E → us.length = ps.length)
    (hb : ∀ (A : Around) (outer : List Env) (s : Shared) (H : Hp) (us : List V) (Q : VK) (E : XK), Room k (A.deeper (envOfC qual scope s.heap.objs.size f cdv)) → A.guards = some [] → sp us H Q E →
      ∃ t, PSs (cxOf (L2.CX P w) P w K mg base N qual scope f cdv A outer s H E) body t ∧ t { nx := fun _ H' => Q .non H', rt := Q } (start N us) H) :
    FnG P w K mg base (k + 1) f (PySem.W.fnOf name qual params body scope dV kV doc pm an cdv ct) ps sp where
  len := len
  run := by
    intro A outer s H args vals us Q E hr hg e0 bd r h
    -- for this one A the library's rule, its promise narrowed to the one state
    have hl := len us H Q E h
    obtain ⟨t, ht, hq⟩ := hb A outer s H us Q E (Room.deeper hr _) hg h
    have kin : K.In s.heap := e0.mod.kin.keeps fun b o q => (e0.bs b o q).1
    have nl : s.heap.NoLimit := e0.mod.nolimit.keeps fun b o q => (e0.bs b o q).1
    have kinds : ∀ z ∈ ps.zip vals, scope.names.lookup z.1 = some .local ∨ (scope.names.lookup z.1 = some .cell ∧ ((cellsFrom (s.heap.objs.size + 1) scope.names []).lookup z.1).isSome = true) := by
      rintro ⟨n, v⟩ hz
      have hn := (List.of_mem_zip hz).1
      cases S.par n hn with
      | inl q => exact Or.inl q
      | inr q => exact Or.inr ⟨q, PySem.W.cellsFrom_some _ _ _ (Or.inl q)⟩
    refine codeAny_call_function (Room.depth hr) (kin _ _ lk) rfl S.co S.gen rfl (PySem.W.codeRec_of kin hcd) (bd _ _ _ _ ?_)
    refine wpAny_newFunctionEnv_cells S.kind kinds fun env1 henv s1 inc => ?_
    subst henv
    refine ⟨nl.keeps inc.toInCall.keep, codeAny_func ?_⟩
    have I := inv_start (CX := L2.CX P w) (E := E) S hr.hd e0 hl r inc
    refine wpAny_mono (ht.run [] s1 (start N us) H _ I hq) ?_ ?_
    · intro fl s2 hs
      cases fl with
      | ret z =>
        obtain ⟨v, σ', H', J, rv, q⟩ := hs
        exact ⟨v, H', J.os, J.bare, J.base, J.hok, rv, q⟩
      | next =>
        obtain ⟨σ', H', J, q⟩ := hs
        exact ⟨V.non, H', J.os, J.bare, J.base, J.hok, rfl, q⟩
      | brk =>
        obtain ⟨_, _, _, q⟩ := hs
        exact q.elim
      | cont =>
        obtain ⟨_, _, _, q⟩ := hs
        exact q.elim
    · intro e s2 hs
      exact hs

section
variable {X : Cx} {L : Nat} {f : Addr} {fd : FuncData} {ps : List Str} {sp : Sp} {W : WX} {A : Around} {pins : List (Addr × Obj)} {τ : L2.St} {H : Hp} {s : Shared} {Q : VK} {vals : List Value} {us : List V}
/-- somewhere below the running body -/
structure At (X : Cx) (L : Nat) (A : Around) : Prop where
  room : Room L A
  gd : A.guards = some []
  fr : A.frames = X.A.frames
theorem At.in1 (a : At X (L + 1) A) : At X L A.in1 := ⟨a.room.in1, a.gd, a.fr⟩
theorem At.mono {k : Nat} (a : At X L A) (h : k ≤ L) : At X k A := ⟨a.room.mono h, a.gd, a.fr⟩
/-- the callee runs -/
theorem run_g (F : FnG X.prog X.w X.K X.mg X.base L f fd ps sp) (a : At X L A) (hb : Binds X.K fd ps []) (tk : Takes X W) (I : Inv X pins τ H s) (r : Vals us vals) (h : sp us H Q (WE W τ)) :
    wpAny (model X.prog X.w) A (call (.ref f) vals) (EP X pins τ Q) X.xe s := by
  have hl : vals.length = ps.length := by rw [← r.length]; exact F.len us H Q _ h
  have b : BindsTo s fd ⟨vals, []⟩ (ps.zip vals) := by
    have := hb s vals I.kIn (by rw [List.append_nil]; exact hl)
    rw [List.append_nil] at this
    exact this
  have e0 : Env0 X.prog X.w X.K X.mg X.base A X.stack s H := by
    have z := I.env0
    exact { frames := by rw [a.fr]; exact z.frames, mod := z.mod, bs := z.bs, bsz := z.bsz, funs := z.funs, frf := z.frf, hok := z.hok, bare := z.bare }
  refine wpAny_call (codeAny_mono (F.run A X.stack s H ⟨vals, []⟩ vals us Q (WE W τ) a.room a.gd e0 b r h) ?_)
  intro res s2 hq
  match res, hq with
  | .error e, hq => exact passAt tk τ pins H s e s2 I hq
  | .ok (.ret u), hq => exact I.after hq
  | .ok .next, hq => exact hq.elim
  | .ok .brk, hq => exact hq.elim
  | .ok .cont, hq => exact hq.elim
/-- with the defaults behind what is written -/
theorem run_gd {ds : List Value} {dus : List V} (F : FnG X.prog X.w X.K X.mg X.base L f fd ps sp) (a : At X L A) (hb : Binds X.K fd ps ds) (hd : Vals dus ds) (tk : Takes X W) (I : Inv X pins τ H s) (r : Vals us vals) (h : sp (us ++ dus) H Q (WE W τ)) :
    wpAny (model X.prog X.w) A (call (.ref f) vals) (EP X pins τ Q) X.xe s := by
  have r2 := r.append hd
  have hl : (vals ++ ds).length = ps.length := by rw [← r2.length]; exact F.len _ H Q _ h
  have b := hb s vals I.kIn hl
  have e0 : Env0 X.prog X.w X.K X.mg X.base A X.stack s H := by
    have z := I.env0
    exact { frames := by rw [a.fr]; exact z.frames, mod := z.mod, bs := z.bs, bsz := z.bsz, funs := z.funs, frf := z.frf, hok := z.hok, bare := z.bare }
  refine wpAny_call (codeAny_mono (F.run A X.stack s H ⟨vals, []⟩ (vals ++ ds) (us ++ dus) Q (WE W τ) a.room a.gd e0 b r2 h) ?_)
  intro res s2 hq
  match res, hq with
  | .error e, hq => exact passAt tk τ pins H s e s2 I hq
  | .ok (.ret u), hq => exact I.after hq
  | .ok .next, hq => exact hq.elim
  | .ok .brk, hq => exact hq.elim
  | .ok .cont, hq => exact hq.elim
end
end Vm
set_option Elab.async false
set_option linter.all false
set_option maxRecDepth 100000
/-! What the text's top must have written; types; own operators. -/
namespace Vm
open PySem PySem.Spec PyProof.Rows L2
open PySem.W (Looks)

/-- a call with keywords: the def, the number of positional values, the keywords' names, the values' places in the parameters' order -/
structure KwI where
  d : Nat
  npos : Nat
  ks : List Nat
  perm : List Nat
/-- what a global name of the text stands for -/
inductive GV where
  | fn (d : Nat) | cl (c : Nat) | con (x : PV) | gcd
structure Dat where
  gs : List (Str × GV)
  nb : List Str
  kw : List KwI
  T : Tab
  nm : Nat → Str
  ca : Nat → Addr
  fa : Nat → Addr
  fd : Nat → FuncData
  ps : Nat → List Str
abbrev Dat.G (D : Dat) (K : PySem.W.Frag) : GD := ⟨K, D.T, D.nm, D.ca⟩

/-- the promise of the def d by the machine's calls -/
def spC (G : GD) (C : Calls) (d : Nat) (np : Nat) : Sp := fun us H Q E => ∃ ι s args, Sim G ι s H ∧ RepSs G ι H args us ∧ args.length = np ∧ Post G (C d args s) ι H (FV G Q) E
def FnsOk (P : Program) (w : World) (K : PySem.W.Frag) (mg : Str → Option Value) (base : Heap) (D : Dat) (C : Calls) (L : Nat) : Prop :=
  ∀ (d : Nat) (di : DefI), D.T.defs[d]? = some di → FnG P w K mg base L (D.fa d) (D.fd d) (D.ps d) (spC (D.G K) C d di.npar)

/-- the built-in types whose values meet own ones -/
abbrev bTys : List String := ["NoneType", "bool", "int", "str", "tuple", "list", "dict"]

structure OpF (K : PySem.W.Frag) (D : Dat) (c : Nat) (o : Operator) : Prop where
  r : PySem.W.findIn K (.ref (D.ca c)) (dunderR o.info.2) = some none
  t : ∀ T ∈ bTys, ∃ fo ro, PySem.W.findIn K (.type T) (PySem.dunder o.info.2) = some fo ∧ PySem.W.findIn K (.type T) (dunderR o.info.2) = some ro

/-- a class of the text that is no error's -/
structure ClsF (K : PySem.W.Frag) (mg : Str → Option Value) (D : Dat) (c : Nat) (ci : ClsI) : Prop where
  cls : Cls K (D.ca c)
  no : ∀ f ∈ ci.flds, NoAttr K (D.ca c) (D.nm f)
  nd : (ci.flds.map D.nm).Nodup
  few : ci.flds.length ≤ 900
  meth : ∀ p ∈ ci.meths, Meth K (D.ca c) (D.nm p.1) (D.fa p.2) ∧ ∀ f ∈ ci.flds, D.nm f ≠ D.nm p.1
  prop : ∀ p ∈ ci.props, ∃ pa, PropOf K (D.ca c) (D.nm p.1) pa (D.fa p.2)
  first : PySem.W.selfFirst K (D.ca c) = true
  make : ∀ d, ci.init = some d → Mk K (D.ca c) (D.fa d)
  ha : PySem.W.findIn K (.ref (D.ca c)) "__class__" = some (some (.builtin "object.__class__"))
  hm : PySem.W.mroIn K (D.ca c) (.type "object") = some true
  sub : ∀ T ∈ bTys, PySem.W.subIn K (.type T) (.ref (D.ca c)) = some false
  kitB : ∀ T ∈ bTys, PySem.W.kitOne K (.type T) (.ref (D.ca c)) = some false
  kitT : ∀ T ∈ bTys, PySem.W.kitOne K (.ref (D.ca c)) (.type T) = some false
  op : ∀ p ∈ ci.meths, (p.1 = aAdd → OpF K D c .Add) ∧ (p.1 = aSub → OpF K D c .Sub) ∧ (p.1 = aMul → OpF K D c .Mult)
  read : (ci.stats = [] ∧ ci.cons = []) ∨ ∃ mc, ClX.CRead K (D.ca c) mc ∧
    (∀ p ∈ ci.stats, ∃ q rest, PySem.W.findCls K (.ref (D.ca c)) mc (D.nm p.1) = some (.get (.builtin "staticmethod.__get__") (.ref q) .none (.ref (D.ca c))) ∧ PySem.W.recIn K q "staticmethod" = some (.ref (D.fa p.2) :: rest)) ∧
    (∀ p ∈ ci.cons, ∃ v u, ClX.CVal K (D.ca c) mc (D.nm p.1) v u ∧ ∀ ι H, Rep (D.G K) ι H p.2 v)
  nobool : lookN ci.meths aBool = none → PySem.W.findIn K (.ref (D.ca c)) "__bool__" = some none ∧ PySem.W.findIn K (.ref (D.ca c)) "__len__" = some none

def dV : PV → V
  | .non => .non | .bl b => .bl b | .int i => .int i | .str x => .str (txt x) | _ => .non
def isSc : PV → Bool
  | .non => true | .bl _ => true | .int _ => true | .str x => decide (x.length ≤ lim) | _ => false

/-- what is said of the text's top -/
structure Fa (K : PySem.W.Frag) (mg : Str → Option Value) (D : Dat) : Prop where
  nm : D.nm aEq = "__eq__" ∧ D.nm aAdd = "__add__" ∧ D.nm aSub = "__sub__" ∧ D.nm aMul = "__mul__" ∧ D.nm aNeg = "__neg__" ∧ D.nm aAbs = "__abs__" ∧ D.nm aBool = "__bool__" ∧ D.nm aStr = "__str__" ∧ D.nm aRepr = "__repr__"
  cls : ∀ (c : Nat) (ci : ClsI), D.T.cls[c]? = some ci → ci.isx = false → ClsF K mg D c ci
  hn : PySem.W.specialIn K (.builtin "object.__class__") "__get__" = some (some (.builtin "getset_descriptor.__get__"))
  htk : PySem.W.takesIn K (.builtin "object.__class__") = some true
  kit : ∀ (c : Nat) (ci : ClsI) (k : Nat) (ck : ClsI), D.T.cls[c]? = some ci → ci.isx = false → D.T.cls[k]? = some ck → ck.isx = false → PySem.W.kitOne K (.ref (D.ca c)) (.ref (D.ca k)) = some (ci.supers.contains k)
  gs : ∀ n g, D.gs.lookup n = some g → match g with
    | .fn d => mg n = some (.ref (D.fa d))
    | .cl c => mg n = some (.ref (D.ca c))
    | .con x => ∃ u v, mg n = some v ∧ RelV u v ∧ ∀ ι H, Rep (D.G K) ι H x u
    | .gcd => mg n = some (.builtin "math.gcd")
  nb : ∀ n ∈ D.nb, mg n = none
  kw : ∀ k ∈ D.kw, ∀ (s : Shared) (us ws : List Value), K.In s.heap → us.length = k.npos → ws.length = k.ks.length → ∃ zs, putAt (us ++ ws) k.perm = some zs ∧ BindsTo s (D.fd k.d) ⟨us, (k.ks.map D.nm).zip ws⟩ ((D.ps k.d).zip zs)
  kf : ∀ (d : Nat) (di : DefI), D.T.defs[d]? = some di → PySem.W.keepIn K (.ref (D.fa d)) = true
  plen : ∀ (d : Nat) (di : DefI), D.T.defs[d]? = some di → (D.ps d).length = di.npar
  binds : ∀ (d : Nat) (di : DefI), D.T.defs[d]? = some di → ∀ n, n ≤ di.npar → di.npar ≤ n + di.dfl.length → ∃ ds, Vals ((di.dfl.drop (n + di.dfl.length - di.npar)).map dV) ds ∧ Binds K (D.fd d) (D.ps d) ds
  dfl : ∀ (d : Nat) (di : DefI), D.T.defs[d]? = some di → ∀ x ∈ di.dfl, isSc x = true

theorem rep_dV {G : GD} {ι : List Addr} {H : Hp} : ∀ {x : PV}, isSc x = true → Rep G ι H x (dV x)
  | .non, _ => .non
  | .bl b, _ => .bl b
  | .int i, _ => .int i
  | .str x, h => .str x (by simpa [isSc] using h)
theorem reps_dV {G : GD} {ι : List Addr} {H : Hp} : ∀ {xs : List PV}, (∀ x ∈ xs, isSc x = true) → RepSs G ι H (xs.map .v) (xs.map dV)
  | [], _ => .nil
  | x :: r, h => .cons (rep_dV (h x List.mem_cons_self)) (reps_dV fun y hy => h y (List.mem_cons_of_mem _ hy))

/-- the calls answer only where the arguments are as many as the parameters -/
def Ar (D : Dat) (C : Calls) : Prop := ∀ d args s, C d args s ≠ .bad → ∃ di, D.T.defs[d]? = some di ∧ args.length = di.npar

section
variable {X : Cx} {D : Dat} {C : Calls} {L : Nat} {W : WX} {A : Around} {pins : List (Addr × Obj)} {τ : L2.St} {H : Hp} {s : Shared} {Q : VK} {ι : List Addr} {st : PS}
/-- all that a body's walk leans on -/
structure Wk (X : Cx) (D : Dat) (C : Calls) (L : Nat) (W : WX) : Prop where
  fa : Fa X.K X.mg D
  fns : FnsOk X.prog X.w X.K X.mg X.base D C L
  ar : Ar D C
  tk : Takes X W
  at_ : At X (L + 3) X.A
  calm : X.calm = true

theorem Post.ne {α : Type} {G : GD} {r : Res α} {F : α → PS → List Addr → Hp → Prop} {E : XK} (h : Post G r ι H F E) : r ≠ .bad := fun e => by
  rw [e] at h; exact h
/-- an own def is called with all its arguments -/
theorem call_c (w : Wk X D C L W) (a : At X L A) (I : Inv X pins τ H s) (S : Sim (D.G X.K) ι st H) {d : Nat} {args : List SV} {us : List V} {vals : List Value} (r : RepSs (D.G X.K) ι H args us) (rv : Vals us vals)
    (h : Post (D.G X.K) (C d args st) ι H (FV (D.G X.K) Q) (WE W τ)) : wpAny (model X.prog X.w) A (call (.ref (D.fa d)) vals) (EP X pins τ Q) X.xe s := by
  obtain ⟨di, hd, hl⟩ := w.ar d args st h.ne
  obtain ⟨ds, hv, hb⟩ := w.fa.binds d di hd di.npar (Nat.le_refl _) (Nat.le_add_right _ _)
  rw [Nat.add_sub_cancel_left, List.drop_length] at hv
  cases hv
  exact run_g (w.fns d di hd) a hb w.tk I rv ⟨ι, st, args, S, r, hl, h⟩
/-- .. with the defaults behind those that are written -/
theorem call_d (w : Wk X D C L W) (a : At X L A) (I : Inv X pins τ H s) (S : Sim (D.G X.K) ι st H) {d : Nat} {args : List SV} {us : List V} {vals : List Value} (r : RepSs (D.G X.K) ι H args us) (rv : Vals us vals)
    (h : Post (D.G X.K) (C d (dflt D.T d args) st) ι H (FV (D.G X.K) Q) (WE W τ)) : wpAny (model X.prog X.w) A (call (.ref (D.fa d)) vals) (EP X pins τ Q) X.xe s := by
  obtain ⟨di, hd, hl⟩ := w.ar d _ st h.ne
  have hx : dflt D.T d args = args ++ (di.dfl.drop (args.length + di.dfl.length - di.npar)).map SV.v := by
    unfold dflt; rw [hd]
  rw [hx] at h hl
  rw [List.length_append, List.length_map, List.length_drop] at hl
  have h1 : args.length ≤ di.npar := by omega
  have h2 : di.npar ≤ args.length + di.dfl.length := by omega
  obtain ⟨ds, hv, hb⟩ := w.fa.binds d di hd args.length h1 h2
  refine run_gd (w.fns d di hd) a hb hv w.tk I rv ⟨ι, st, _, S, r.append (reps_dV fun x hx => w.fa.dfl d di hd x (List.mem_of_mem_drop hx)), ?_, h⟩
  rw [List.length_append, List.length_map, List.length_drop]
  omega
end
end Vm
set_option Elab.async false
set_option linter.all false
set_option maxRecDepth 100000
set_option maxHeartbeats 1000000
/-! The machine's operations on values, one by one. -/
namespace Vm
open PySem PySem.Spec PyProof.Rows L2
open PySem.W (Looks)
section
variable {prog : Program} {w : World} {A : Around} {E : Value → Shared → Prop} {s : Shared} {K : PySem.W.Frag} {x C L f : Addr} {h0 : Heap} {m : Str → Option Value} {ox : Obj} {od : Option Obj} {T : String}
/-- x op b, x of an own class that has the operator, b of a built-in type -/
theorem own_bin {op : Operator} {b : Value} {fo ro rc : Option Value} {Q : Value → Shared → Prop} (X : K.In s.heap) (I : PySem.W.InstAt s.heap x ox C od) (hb : Looks (model prog w) s.heap (typeOf b) (.type T)) (hc : PySem.W.selfFirst K C = true)
    (hs : PySem.W.findIn K (.ref C) (PySem.dunder op.info.2) = some (some (.ref f))) (hf : PySem.W.isFn K (.ref f) = true) (hr : PySem.W.findIn K (.ref C) (dunderR op.info.2) = some rc) (hp : rc = none ∨ ∃ g : Addr, rc = some (.ref g))
    (h1 : PySem.W.findIn K (.type T) (PySem.dunder op.info.2) = some fo) (h2 : PySem.W.findIn K (.type T) (dunderR op.info.2) = some ro) (hsub : PySem.W.subIn K (.type T) (.ref C) = some false)
    (h : wpAny (model prog w) A (call (.ref f) [.ref x, b]) (PySem.W.CmpBack Q) E s) : wpAny (model prog w) A (binaryOp op (.ref x) b) Q E s := by
  obtain ⟨cd, rest, hcd, hm⟩ := PySem.W.ksp_first hc
  rcases hi : op.info with ⟨sym, nmo⟩
  simp only [hi] at hs hr h1 h2
  have tried := PySem.W.ksp_try X I hs hf h
  obtain ⟨hh, g, d, tt, os⟩ := s
  have A1 : Looks (model prog w) hh (typeOf (.ref x)) (.ref C) := I.type
  have A2 : Looks (model prog w) hh (typeOf b) (.type T) := hb
  have A3 : Looks (model prog w) hh (fillsNumberSlot (.ref C) nmo) true := PySem.W.fills_K X hcd hm hs
  have A4 := PySem.W.ksp_fillsT (M := model prog w) (nm := nmo) X h1 h2
  have A5 : Looks (model prog w) hh (isSubtype (.type T) (.ref C)) false := PySem.W.looks_subIn X hsub
  have A6 : Looks (model prog w) hh (numberSlotInPython (.ref C) nmo) true := PySem.W.ksp_inPy X hs hr hp
  have A7 : Looks (model prog w) hh (numberSlotInPython (.type T) nmo) false := Looks.of_pure rfl
  have A8 : Looks (model prog w) hh (typeLookup (.type T) (dunderR nmo)) ro := PySem.W.looks_findIn X h2
  have hne : (Value.ref C == Value.type T) = false := Bool.eq_false_iff.mpr fun q => by cases beq_iff_eq.mp q
  revert A4
  generalize ((fo.isSome && !isSeqSlot fo) || (ro.isSome && !isSeqSlot ro)) = rt
  intro A4
  simp only [binaryOp, hi]
  refine wpAny_holding (wpAny_bind ?_)
  unfold binaryOp1
  refine wpAny_bind (A1.at (wpAny_bind (A2.at (wpAny_bind (A3.at ?_)))))
  simp only [hne, Bool.false_eq_true, if_false]
  cases rt with
  | false =>
    ksp_lk
    refine wpAny_mono tried (fun r s' hr' => ?_) fun _ _ e => e
    obtain ⟨v, rfl, hq⟩ := hr'
    ksp_lk
    exact hq
  | true =>
    ksp_lk
    refine wpAny_mono tried (fun r s' hr' => ?_) fun _ _ e => e
    obtain ⟨v, rfl, hq⟩ := hr'
    ksp_lk
    exact hq
end

def opr : Op2 → Operator
  | .add => .Add | .sub => .Sub | .mul => .Mult | .fdiv => .FloorDiv | .mod => .Mod | .pow => .Pow
def cop : Cm → CmpOp
  | .eq => .Eq | .ne => .NotEq | .lt => .Lt | .le => .LtE | .gt => .Gt | .ge => .GtE | .is => .Is | .isnot => .IsNot | .inn => .In | .notin => .NotIn

theorem txt_len (x : List Nat) : (txt x).length = x.length := rfl
theorem txt_app (x y : List Nat) : txt x ++ txt y = txt (x ++ y) := by
  apply TL.ext_tl
  rw [TL.tl_append]
  rfl
theorem lim_line {n : Nat} (h : n ≤ lim) : n ≤ sizeLine := Nat.le_trans h (by decide)
theorem lim_lt {n : Nat} (h : n < lim) : n < sizeLine := Nat.lt_of_lt_of_le h (by decide)

section
variable {G : GD} {ι : List Addr} {H : Hp} {u : V}
theorem rep_int {i : Int} (r : RepS G ι H (.v (.int i)) u) : u = .int i := by cases r; rfl
theorem rep_bl {b : Bool} (r : RepS G ι H (.v (.bl b)) u) : u = .bl b := by cases r; rfl
theorem rep_non (r : RepS G ι H (.v .non) u) : u = .non := by cases r; rfl
theorem rep_str {x : List Nat} (r : RepS G ι H (.v (.str x)) u) : u = .str (txt x) ∧ x.length ≤ lim := by
  cases r with
  | str _ h => exact ⟨rfl, h⟩
theorem rep_tup {xs : List PV} (r : RepS G ι H (.v (.tup xs)) u) : ∃ a us, u = .ref a ∧ TupN G.K ι H a us ∧ Reps G ι H xs us := by
  cases r with
  | tup h r => exact ⟨_, _, rfl, h, r⟩
theorem rep_lst {xs : List PV} (r : RepS G ι H (.v (.lst xs)) u) : ∃ a us, u = .ref a ∧ H a = some (.lst us) ∧ a ∉ ι ∧ Reps G ι H xs us := by
  cases r with
  | lst h n r => exact ⟨_, _, rfl, h, n, r⟩
theorem rep_clst {xs : List PV} (r : RepS G ι H (.v (.clst xs)) u) : ∃ a us, u = .ref a ∧ LstN G.K ι H a us ∧ Reps G ι H xs us := by
  cases r with
  | clst h r => exact ⟨_, _, rfl, h, r⟩
theorem rep_ins {c : Nat} {fs : List PV} (r : RepS G ι H (.v (.ins c fs)) u) : ∃ ci a dx us, u = .ref a ∧ (G.T.cls[c]? = some ci ∧ ci.isx = false) ∧ H a = some (.ins (G.ca c) dx ((ci.flds.map G.nm).zip us)) ∧ a ∉ ι ∧ fs.length ≤ ci.flds.length ∧ Reps G ι H fs us := by
  cases r with
  | ins hc hx h n l r => exact ⟨_, _, _, _, rfl, ⟨hc, hx⟩, h, n, l, r⟩
theorem rep_dct {ks vs : List PV} (r : RepS G ι H (.v (.dct ks vs)) u) : ks = [] ∧ vs = [] ∧ ∃ a, u = .ref a ∧ H a = some (.dK []) ∧ a ∉ ι := by
  cases r with
  | dct0 h n => exact ⟨rfl, rfl, _, rfl, h, n⟩
/-- a sequence's items -/
theorem seq_rep {s : PS} {x : SV} {xs : List SV} (S : Sim G ι s H) (r : RepS G ι H x u) (e : seqOf x s = some xs) : ∃ a us, u = .ref a ∧ RepSs G ι H xs us ∧ (SqL G.K H a us ∨ SqT G.K H a us) ∧ ((∃ t, x = .v (.tup t)) ∧ SqT G.K H a us ∨ (∀ t, x ≠ .v (.tup t)) ∧ SqL G.K H a us) := by
  unfold seqOf at e
  split at e
  · cases e
    obtain ⟨a, us, rfl, h, q⟩ := rep_tup r
    exact ⟨a, us, rfl, q.toS, .inr h.sq, .inl ⟨⟨_, rfl⟩, h.sq⟩⟩
  · cases e
    obtain ⟨a, us, rfl, h, n, q⟩ := rep_lst r
    exact ⟨a, us, rfl, q.toS, .inl (SqL.of h), .inr ⟨fun t z => (nomatch z), SqL.of h⟩⟩
  · cases e
    obtain ⟨a, us, rfl, h, q⟩ := rep_clst r
    exact ⟨a, us, rfl, q.toS, .inl h.sq, .inr ⟨fun t z => (nomatch z), h.sq⟩⟩
  · rename_i n
    split at e
    · rename_i ys q
      cases e
      obtain ⟨a, h1, rfl⟩ := r
      obtain ⟨b, h2, us, h3, h4, _⟩ := S.at_ n _ q
      rw [h1] at h2
      cases h2
      exact ⟨a, us, rfl, h4, .inl (SqL.of h3), .inr ⟨fun t z => (nomatch z), SqL.of h3⟩⟩
    · cases e
  · cases e
end

/-- what a bool-valued operation leaves -/
def EndB (X : Cx) (D : Dat) (pins : List (Addr × Obj)) (τ : L2.St) (ι : List Addr) (H : Hp) (F : Bool → PS → List Addr → Hp → Prop) (k : Bool) (s' : Shared) : Prop :=
  ∃ ι' st' H', Inv X pins τ H' s' ∧ Ext ι H ι' H' ∧ Sim (D.G X.K) ι' st' H' ∧ F k st' ι' H'
def EndV (X : Cx) (D : Dat) (pins : List (Addr × Obj)) (τ : L2.St) (ι : List Addr) (H : Hp) (F : Bool → PS → List Addr → Hp → Prop) (v : Value) (s' : Shared) : Prop := ∃ k, v = .bool k ∧ EndB X D pins τ ι H F k s'

section
variable {X : Cx} {D : Dat} {C : Calls} {L : Nat} {W : WX} {A : Around} {pins : List (Addr × Obj)} {τ : L2.St} {H : Hp} {s : Shared} {Q : VK} {ι : List Addr} {st : PS} {x y : SV} {u u' : V} {v v' : Value}

theorem inst_of {a C dx : Addr} {fs : List (Str × V)} (I : Inv X pins τ H s) (e : H a = some (.ins C dx fs)) : ∃ ox od, PySem.W.InstAt s.heap a ox C (some od) := by
  obtain ⟨mA, O, _⟩ := ins_get I.hok e
  obtain ⟨od, J, _⟩ := O.look
  exact ⟨_, od, J⟩
/-- the type of a value -/
def bTy : SV → PS → Option String
  | .v .non, _ => some "NoneType"
  | .v (.bl _), _ => some "bool"
  | .v (.int _), _ => some "int"
  | .v (.str _), _ => some "str"
  | .v (.tup _), _ => some "tuple"
  | .v (.lst _), _ => some "list"
  | .v (.clst _), _ => some "list"
  | .v (.dct _ _), _ => some "dict"
  | _, _ => none
theorem bTy_in {T : String} : ∀ {x : SV}, bTy x st = some T → T ∈ bTys := by
  intro x h
  unfold bTy at h
  split at h <;> first | (cases h; decide) | cases h
theorem looks_list {M : Model} {h : Heap} {a : Addr} {o : Obj} {t : Value} (e : h.get? a = some o) (c : o.cls = t) : Looks M h (typeOf (.ref a)) t := fun A Q E s k q => wpAny_typeOf_ref (k _ _ e) (by rw [c]; exact q)
theorem looks_bTy {M : Model} {T : String} (I : Inv X pins τ H s) (r : RepS (D.G X.K) ι H x u) (rv : RelV u v) (e : bTy x st = some T) : Looks M s.heap (typeOf v) (.type T) := by
  unfold bTy at e
  split at e
  · cases e; cases rep_non r; cases rv; exact Looks.of_pure rfl
  · cases e; cases rep_bl r; cases rv; exact Looks.of_pure rfl
  · cases e; cases rep_int r; obtain ⟨t, rfl⟩ := rv; exact Looks.of_pure rfl
  · cases e; obtain ⟨rfl, _⟩ := rep_str r; obtain ⟨t, rfl⟩ := rv; exact Looks.of_pure rfl
  · cases e
    obtain ⟨a, us, rfl, h, _⟩ := rep_tup r
    cases rv
    obtain ⟨its, _, ⟨o, h1, h2, _⟩, _⟩ := I.tuple h.sq
    exact looks_list h1 h2
  · cases e
    obtain ⟨a, us, rfl, h, _⟩ := rep_lst r
    cases rv
    obtain ⟨its, _, ⟨o, n, h1, h2, _⟩, _⟩ := I.list (SqL.of h)
    exact looks_list h1 h2
  · cases e
    obtain ⟨a, us, rfl, h, _⟩ := rep_clst r
    cases rv
    obtain ⟨its, _, ⟨o, n, h1, h2, _⟩, _⟩ := I.list h.sq
    exact looks_list h1 h2
  · cases e
    obtain ⟨_, _, a, rfl, h, _⟩ := rep_dct r
    cases rv
    obtain ⟨_, _, vs, _, o, es, ep, h1, h2, _⟩ := I.hok _ _ h
    exact looks_list h1 h2.1
  · cases e

theorem meth_in {ci : ClsI} {m d : Nat} : ∀ {l : List (Nat × Nat)}, lookN l m = some d → (m, d) ∈ l
  | [], h => by cases h
  | (k, e) :: r, h => by
    unfold lookN at h
    split at h
    · rename_i q
      cases h; subst q
      exact List.mem_cons_self
    · exact List.mem_cons_of_mem _ (meth_in (ci := ci) h)
theorem methOf_in {c m d : Nat} {ci : ClsI} (hc : D.T.cls[c]? = some ci) (h : methOf D.T c m = some d) : (m, d) ∈ ci.meths := by
  unfold methOf at h
  rw [hc] at h
  exact meth_in (ci := ci) h
theorem rel_back {R : Value → Shared → Prop} {s' : Shared} (r : RelV u v) (h : R v s') : PySem.W.CmpBack R v s' := by
  cases u with
  | non => cases r; exact h
  | bl _ => cases r; exact h
  | int _ => obtain ⟨t, rfl⟩ := r; exact h
  | str _ => obtain ⟨t, rfl⟩ := r; exact h
  | byt _ => obtain ⟨t, rfl⟩ := r; exact h
  | flt _ => obtain ⟨t, rfl⟩ := r; exact h
  | ref _ => cases r; exact h
  | ty _ => cases r; exact h

/-- two own instances, one class; else a built-in right side -/
theorem own_ok (w : Wk X D C L W) (a : At X (L + 1) A) (I : Inv X pins τ H s) (S : Sim (D.G X.K) ι st H) {c d : Nat} {fs : List PV} {y : PV} (o : Op2) {op : Operator} (ho : op = opr o)
    {mm : Nat} (hmm : opA o = some mm) (hm : methOf D.T c mm = some d) (r1 : RepS (D.G X.K) ι H (.v (.ins c fs)) u) (rv1 : RelV u v) (r2 : RepS (D.G X.K) ι H (.v y) u') (rv2 : RelV u' v')
    (hy : (∃ T, bTy (.v y) st = some T) ∨ ∃ gs, y = .ins c gs) (h : Post (D.G X.K) (C d [.v (.ins c fs), .v y] st) ι H (FV (D.G X.K) Q) (WE W τ)) :
    wpAny (model X.prog X.w) A (binaryOp op v v') (EP X pins τ Q) X.xe s := by
  obtain ⟨ci, p, dx, us, rfl, ⟨hc, hx⟩, e, hn, hl, hr⟩ := rep_ins r1
  cases rv1
  subst ho
  obtain ⟨ox, od, J⟩ := inst_of I e
  have cf := w.fa.cls c ci hc hx
  have hmem := methOf_in hc hm
  have me := (cf.meth _ hmem).1
  have run : wpAny (model X.prog X.w) A (call (.ref (D.fa d)) [.ref p, v']) (PySem.W.CmpBack (EP X pins τ Q)) X.xe s :=
    thn (call_c w (a.mono (Nat.le_succ _)) I S (args := [.v (.ins c fs), .v y]) (us := [.ref p, u']) (vals := [.ref p, v']) (.cons r1 (.cons r2 .nil)) (.cons rfl (.cons rv2 .nil)) h) fun z s' hz => by
      obtain ⟨q, H', I', rq, qq⟩ := hz
      exact rel_back rq ⟨q, H', I', rq, qq⟩
  have X1 := I.kIn
  obtain ⟨n0, n1, n2, n3, n4, n5, n6, n7, n8⟩ := w.fa.nm
  have fin : ∀ (op : Operator), PySem.W.findIn X.K (.ref (D.ca c)) (PySem.dunder op.info.2) = some (some (.ref (D.fa d))) → OpF X.K D c op → wpAny (model X.prog X.w) A (binaryOp op (.ref p) v') (EP X pins τ Q) X.xe s := by
    intro op hat of
    rcases hy with ⟨T, hT⟩ | ⟨gs, rfl⟩
    · obtain ⟨fo, ro, f1, f2⟩ := of.t T (bTy_in hT)
      exact own_bin X1 J (looks_bTy I r2 rv2 hT) cf.first hat me.fn of.r (.inl rfl) f1 f2 (cf.sub T (bTy_in hT)) run
    · obtain ⟨ci2, p2, dx2, us2, rfl, ⟨hc2, _⟩, e2, _⟩ := rep_ins r2
      cases rv2
      obtain ⟨ox2, od2, J2⟩ := inst_of I e2
      obtain ⟨m, F⟩ := I.fr
      exact PySem.W.binop_K F I.ok.mod.kin J J2.type cf.first hat me.fn run
  have ofs := cf.op _ hmem
  cases o with
  | add =>
    cases hmm
    exact fin .Add (by have := me.at_; rw [show D.nm aAdd = "__add__" from n1] at this; exact this) (ofs.1 rfl)
  | sub =>
    cases hmm
    exact fin .Sub (by have := me.at_; rw [show D.nm aSub = "__sub__" from n2] at this; exact this) (ofs.2.1 rfl)
  | mul =>
    cases hmm
    exact fin .Mult (by have := me.at_; rw [show D.nm aMul = "__mul__" from n3] at this; exact this) (ofs.2.2 rfl)
  | _ => cases hmm

/-- an answer that leaves the state as it is -/
theorem ep_now {z : PV} {uz : V} {vz : Value} (I : Inv X pins τ H s) (S : Sim (D.G X.K) ι st H) (h : Post (D.G X.K) (.ok (.v z) st) ι H (FV (D.G X.K) Q) (WE W τ)) (r : Rep (D.G X.K) ι H z uz) (rv : RelV uz vz) : EP X pins τ Q vz s :=
  ⟨uz, H, I, rv, h.now S uz r⟩
theorem ep_q {z : PV} {uz : V} (S : Sim (D.G X.K) ι st H) (h : Post (D.G X.K) (.ok (.v z) st) ι H (FV (D.G X.K) Q) (WE W τ)) (r : Rep (D.G X.K) ι H z uz) : Q uz H := h.now S uz r
/-- a new object at p, which the value is -/
theorem ep_new {z : PV} {p : Addr} {o : HO} (S : Sim (D.G X.K) ι st H) (hp : H p = none) (h : Post (D.G X.K) (.ok (.v z) st) ι H (FV (D.G X.K) Q) (WE W τ))
    (r : Ext ι H ι (upd H p o) → p ∉ ι → Rep (D.G X.K) ι (upd H p o) z (.ref p)) : Q (.ref p) (upd H p o) :=
  h ι (upd H p o) (Ext.new S hp) (S.new hp) _ (r (Ext.new S hp) (S.fresh hp))

theorem okR_ty {c : Nat} {z : PV} {uz : V} (r : RepS (D.G X.K) ι H (.v z) uz) (h : okR c z = true) : (∃ T, bTy (.v z) st = some T) ∨ ∃ gs, z = .ins c gs := by
  cases z <;> first | exact .inl ⟨_, rfl⟩ | skip
  · rename_i k gs
    exact .inr ⟨gs, by rw [beq_iff_eq.mp h]⟩
  · cases h

theorem flat_len (x : List Nat) (k : Nat) : (List.replicate k x).flatten.length = k * x.length := by
  induction k with
  | zero => simp
  | succ k ih => rw [List.replicate_succ, List.flatten_cons, List.length_append, ih, Nat.succ_mul]; omega
theorem fold_flat (x : List Nat) : ∀ (k : Nat) (acc : List Nat), (List.replicate k x.toArray).foldl (· ++ ·) acc.toArray = (acc ++ (List.replicate k x).flatten).toArray
  | 0, acc => by simp
  | k + 1, acc => by
    rw [List.replicate_succ, List.foldl_cons, List.append_toArray, fold_flat x k, List.replicate_succ, List.flatten_cons, List.append_assoc]
theorem mul_txt (x : List Nat) (k : Int) : Txt.mul (txt x) k = txt (List.replicate k.toNat x).flatten := by
  unfold Txt.mul
  by_cases h1 : k < 1
  · rw [if_pos h1]
    have : k.toNat = 0 := by omega
    rw [this]; rfl
  · rw [if_neg h1]
    by_cases h2 : (k == 1 || (txt x).length == 0) = true
    · rw [if_pos h2]
      rcases Bool.or_eq_true_iff.mp h2 with q | q
      · have : k = 1 := by simpa using q
        subst this
        show txt x = txt (List.replicate 1 x).flatten
        simp
      · have : x = [] := by
          have q2 : (txt x).length = 0 := by simpa using q
          rw [txt_len] at q2
          exact List.length_eq_zero_iff.mp q2
        subst this
        have z : (List.replicate k.toNat ([] : List Nat)).flatten = [] := by
          apply List.length_eq_zero_iff.mp
          rw [flat_len]; simp
        rw [z]
    · rw [if_neg h2]
      have := fold_flat x k.toNat []
      show Str.mk ((List.replicate k.toNat x.toArray).foldl (· ++ ·) #[]) = _
      have z : (#[] : Array Nat) = ([] : List Nat).toArray := rfl
      rw [z, this]; rfl
theorem mul_ok {x : List Nat} {k : Int} (h1 : -(2 ^ 62) ≤ k) (h2 : k < 2 ^ 62) (h : x.length * k.toNat ≤ lim) : MulOk (txt x) k := by
  refine ⟨?_, fun a b => ?_, fun a b => ?_⟩
  · rw [Bool.or_eq_false_iff]
    exact ⟨decide_eq_false (by omega), decide_eq_false (by omega)⟩
  · rw [txt_len]
    intro z
    have hk : 0 < k := by omega
    have h3 : (x.length : Int) * k ≤ 2 ^ 63 - 1 := by
      have : ((x.length * k.toNat : Nat) : Int) = (x.length : Int) * k := by
        rw [Int.natCast_mul]
        congr 1
        omega
      rw [← this]
      have h4 : ((x.length * k.toNat : Nat) : Int) ≤ ((lim : Nat) : Int) := Int.ofNat_le.mpr h
      have h5 : ((lim : Nat) : Int) = 100000 := rfl
      omega
    have := (Int.le_ediv_iff_mul_le hk).mpr h3
    omega
  · rw [txt_len]
    have : x.length * k.toNat ≤ sizeLine := lim_line h
    show decide (x.length * k.toNat > sizeLine) = false
    exact decide_eq_false (by omega)

theorem bin_ok (w : Wk X D C L W) (a : At X (L + 1) A) (hA : A = X.A) (I : Inv X pins τ H s) (S : Sim (D.G X.K) ι st H) (o : Op2)
    (r1 : RepS (D.G X.K) ι H x u) (rv1 : RelV u v) (r2 : RepS (D.G X.K) ι H y u') (rv2 : RelV u' v')
    (h : Post (D.G X.K) (bin2 D.T C o x y st) ι H (FV (D.G X.K) Q) (WE W τ)) :
    wpAny (model X.prog X.w) A (binaryOp (opr o) v v') (EP X pins τ Q) X.xe s := by
  subst hA
  unfold bin2 at h
  split at h
  · rename_i i j
    cases rep_int r1
    cases rep_int r2
    cases o with
    | add => exact op_add pins s τ H _ _ v v' Q I rv1 rv2 ⟨i, j, rfl, rfl, ep_q S h (.int _)⟩
    | sub => exact op_sub pins s τ H _ _ v v' Q I rv1 rv2 ⟨i, j, rfl, rfl, ep_q S h (.int _)⟩
    | mul =>
      dsimp only at h
      split at h
      · rename_i hc
        exact op_mulW pins s τ H _ _ v v' Q I rv1 rv2 ⟨i, j, rfl, rfl, hc, ep_q S h (.int _)⟩
      · exact h.elim
    | fdiv =>
      dsimp only at h
      split at h
      · rename_i hc
        obtain ⟨t, rfl⟩ := rv1
        obtain ⟨t', rfl⟩ := rv2
        exact floordiv_int hc.1 ⟨.int _, H, I.tok _, ⟨_, rfl⟩, ep_q S h (.int _)⟩ (.inl (PyProof.noPylong_of_log2 hc.2))
      · exact h.elim
    | mod =>
      dsimp only at h
      split at h
      · rename_i hc
        exact op_mod pins s τ H _ _ v v' Q I rv1 rv2 ⟨i, j, rfl, rfl, hc, ep_q S h (.int _)⟩
      · exact h.elim
    | pow =>
      dsimp only at h
      split at h
      · rename_i hc
        exact op_pow pins s τ H _ _ v v' Q I rv1 rv2 ⟨i, j, rfl, rfl, hc, ep_q S h (.int _)⟩
      · exact h.elim
  · rename_i p q
    obtain ⟨rfl, l1⟩ := rep_str r1
    obtain ⟨rfl, l2⟩ := rep_str r2
    split at h
    · split at h
      · rename_i hl
        exact op_add_str pins s τ H _ _ v v' Q I rv1 rv2 ⟨_, _, rfl, rfl, by rw [txt_len, txt_len]; exact lim_line hl, by rw [txt_app]; exact ep_q S h (.str _ (by rw [List.length_append]; exact hl))⟩
      · exact h.elim
    · exact h.elim
  · rename_i p k
    obtain ⟨rfl, l1⟩ := rep_str r1
    cases rep_int r2
    split at h
    · split at h
      · rename_i hl
        obtain ⟨t, rfl⟩ := rv1
        obtain ⟨t', rfl⟩ := rv2
        refine SB.mul (mul_ok hl.1 hl.2.1 hl.2.2) fun t2 k2 => ⟨.str (txt (List.replicate k.toNat p).flatten), H, I.tok _, ⟨_, by rw [mul_txt]⟩, ep_q S h (.str _ (by rw [flat_len]; rw [Nat.mul_comm]; exact hl.2.2))⟩
      · exact h.elim
    · exact h.elim
  · rename_i p q
    obtain ⟨a1, us, rfl, e1, n1, q1⟩ := rep_lst r1
    obtain ⟨a2, ws, rfl, e2, n2, q2⟩ := rep_lst r2
    split at h
    · split at h
      · rename_i hl
        refine op_cat pins s τ H _ _ v v' Q I rv1 rv2 ⟨a1, a2, us, ws, rfl, rfl, e1, e2, by rw [← q1.length, ← q2.length]; exact lim_line hl, fun z hz => ?_⟩
        exact ep_new S hz h fun ex nz => .lst upd_same nz ((q1.keep ex.stay).append (q2.keep ex.stay))
      · exact h.elim
    · exact h.elim
  · rename_i c fs z
    split at h
    · rename_i hokr
      split at h
      rename_i d hd
      obtain ⟨mm, h1, h2⟩ : ∃ mm, opA o = some mm ∧ methOf D.T c mm = some d := by
        cases q : opA o with
        | none => rw [q] at hd; cases hd
        | some m => rw [q] at hd; exact ⟨m, rfl, hd⟩
      · exact own_ok w a I S o rfl h1 h2 r1 rv1 r2 rv2 (okR_ty r2 hokr) h
      · exact h.elim
    · exact h.elim
  · exact h.elim
end
end Vm
set_option Elab.async false
set_option linter.all false
set_option maxRecDepth 100000
set_option maxHeartbeats 1000000
/-! Truth, comparisons, items, fields. -/
namespace Vm
open PySem PySem.Spec PyProof.Rows L2
open PySem.W (Looks)

mutual
theorem rep_dp {G : GD} {ι : List Addr} {H : Hp} : ∀ {x : PV} {d : PyData} {u : V}, toD x = some d → Rep G ι H x u → Dp G.K H u d
  | .non, _, _, e, .non => by cases e; exact .non
  | .bl b, _, _, e, .bl _ => by cases e; exact .bl b
  | .int i, _, _, e, .int _ => by cases e; exact .int i
  | .str x, _, _, e, .str _ _ => by cases e; exact .str _
  | .tup xs, _, _, e, .tup h r => by
    rw [toD] at e
    cases q : toDs xs with
    | none => rw [q] at e; cases e
    | some ds => rw [q] at e; cases e; exact .tup h.sq (reps_dp q r)
  | .lst xs, _, _, e, .lst h n r => by
    rw [toD] at e
    cases q : toDs xs with
    | none => rw [q] at e; cases e
    | some ds => rw [q] at e; cases e; exact .lst (SqL.of h) (reps_dp q r)
  | .clst xs, _, _, e, .clst h r => by
    rw [toD] at e
    cases q : toDs xs with
    | none => rw [q] at e; cases e
    | some ds => rw [q] at e; cases e; exact .lst h.sq (reps_dp q r)
  | .dct _ _, _, _, e, _ => by cases e
  | .ins _ _, _, _, e, _ => by cases e
  | .cls _, _, _, e, _ => by cases e
theorem reps_dp {G : GD} {ι : List Addr} {H : Hp} : ∀ {xs : List PV} {ds : List PyData} {us : List V}, toDs xs = some ds → Reps G ι H xs us → DpAll G.K H us ds
  | [], _, _, e, .nil => by cases e; exact .nil
  | x :: r, _, _, e, .cons h t => by
    rw [toDs] at e
    cases q : toD x with
    | none => rw [q] at e; cases e
    | some d =>
      cases q2 : toDs r with
      | none => rw [q, q2] at e; cases e
      | some ds => rw [q, q2] at e; cases e; exact .cons (rep_dp q h) (reps_dp q2 t)
end

section
variable {X : Cx} {D : Dat} {C : Calls} {L : Nat} {W : WX} {A : Around} {pins : List (Addr × Obj)} {τ : L2.St} {H : Hp} {s : Shared} {Q : VK} {ι : List Addr} {st : PS} {x y : SV} {u u' : V} {v v' : Value}
  {F : Bool → PS → List Addr → Hp → Prop}

theorem Wk.units (w : Wk X D C L W) : X.A.units + 100 < cLine := by have := w.at_.room.un; omega
theorem Wk.at2 (w : Wk X D C L W) : At X (L + 2) X.A := w.at_.mono (by omega)

/-- nothing but the state's own facts -/
theorem endb_now (I : Inv X pins τ H s) (S : Sim (D.G X.K) ι st H) {k : Bool} (h : Post (D.G X.K) (.ok k st) ι H F (WE W τ)) : EndB X D pins τ ι H F k s := ⟨ι, st, H, I, .refl, S, h.now S⟩

/-- a call whose answer is a truth value -/
theorem call_b (w : Wk X D C L W) (a : At X L A) (I : Inv X pins τ H s) (S : Sim (D.G X.K) ι st H) {d : Nat} {args : List SV} {us : List V} {vals : List Value} (r : RepSs (D.G X.K) ι H args us) (rv : Vals us vals)
    (h : Post (D.G X.K) ((C d args st).bind fun r s1 => match r with
      | .v (.bl k) => .ok k s1
      | _ => .bad) ι H F (WE W τ)) : wpAny (model X.prog X.w) A (call (.ref (D.fa d)) vals) (EndV X D pins τ ι H F) X.xe s := by
  have h2 := h.bind
  refine thn (call_c (Q := fun z H' => ∃ k ι' st', z = .bl k ∧ Ext ι H ι' H' ∧ Sim (D.G X.K) ι' st' H' ∧ F k st' ι' H') w a I S r rv ?_) fun z s' hz => ?_
  · refine h2.imp fun q s' ι' H' e' S' hq u hu => ?_
    split at hq
    · rename_i k
      cases rep_bl hu
      exact ⟨k, ι', s', rfl, e', S', hq.now S'⟩
    · exact hq.elim
  · obtain ⟨z', H', I', rz, k, ι', st', rfl, e', S', hF⟩ := hz
    cases rz
    exact ⟨k, rfl, ι', st', H', I', e', S', hF⟩

theorem emp_len {α β : Type} {l : List α} {m : List β} (h : l.length = m.length) : l.isEmpty = m.isEmpty := by
  cases l with
  | nil => cases m with
    | nil => rfl
    | cons _ _ => cases h
  | cons _ _ => cases m with
    | nil => cases h
    | cons _ _ => rfl
theorem ne_len (x : List Nat) : (!x.isEmpty) = (((txt x).length : Int) != 0) := by
  cases x with
  | nil => rfl
  | cons a r =>
    rw [txt_len]
    show true = ((((a :: r).length : Nat) : Int) != 0)
    rw [List.length_cons]
    exact (bne_iff_ne.mpr (by omega)).symm
theorem truth_ok (w : Wk X D C L W) (I : Inv X pins τ H s) (S : Sim (D.G X.K) ι st H) (r : RepS (D.G X.K) ι H x u) (rv : RelV u v)
    (h : Post (D.G X.K) (truthS D.T C x st) ι H F (WE W τ)) : wpAny (model X.prog X.w) X.A (truthy v) (EndB X D pins τ ι H F) X.xe s := by
  have go : ∀ {k : Bool}, TruV X.K u H k → Post (D.G X.K) (.ok k st) ι H F (WE W τ) → wpAny (model X.prog X.w) X.A (truthy v) (EndB X D pins τ ι H F) X.xe s := fun {k} e hk =>
    thn (tru_ok pins s τ H u v (fun b H' => b = k ∧ H' = H) I rv ⟨k, e, rfl, rfl⟩) fun b s' ⟨H', I', eb, eH⟩ => by
      subst eb; subst eH
      exact endb_now I' S hk
  unfold truthS at h
  split at h
  · cases rep_non r; exact go rfl h
  · cases rep_bl r; exact go rfl h
  · cases rep_int r; exact go rfl h
  · obtain ⟨rfl, hl⟩ := rep_str r
    refine go ?_ h
    exact ⟨lim_line hl, ne_len _⟩
  · obtain ⟨a, us, rfl, hh, q⟩ := rep_tup r
    exact go (.inr (.inl ⟨us, hh.sq, by rw [emp_len q.length]⟩)) h
  · obtain ⟨a, us, rfl, hh, _, q⟩ := rep_lst r
    exact go (.inl ⟨us, SqL.of hh, by rw [emp_len q.length]⟩) h
  · obtain ⟨a, us, rfl, hh, q⟩ := rep_clst r
    exact go (.inl ⟨us, hh.sq, by rw [emp_len q.length]⟩) h
  · obtain ⟨rfl, rfl, a, rfl, hh, _⟩ := rep_dct r
    exact go (.inr (.inr ⟨[], hh, rfl⟩)) h
  · rename_i c fs
    split at h
    · rename_i d hm
      obtain ⟨ci, p, dx, us, rfl, ⟨hc, hx⟩, e, hn, hl, hr⟩ := rep_ins r
      cases rv
      obtain ⟨ox, od, J⟩ := inst_of I e
      have cf := w.fa.cls c ci hc hx
      have me := (cf.meth _ (methOf_in hc hm)).1
      have nb : D.nm aBool = "__bool__" := w.fa.nm.2.2.2.2.2.2.1
      have hat := me.at_
      rw [nb] at hat
      obtain ⟨m, Fr'⟩ := I.fr
      refine PySem.W.truthy_K Fr' I.ok.mod.kin J hat me.fn ?_
      refine thn (call_b w (w.at2.mono (by omega)) I S (args := [.v (.ins c fs)]) (us := [.ref p]) (.cons r .nil) (.cons rfl .nil) h) fun z s' hz => ?_
      obtain ⟨k, rfl, hk⟩ := hz
      exact hk
    · exact h.elim
  · rename_i n
    split at h
    · rename_i ys q
      obtain ⟨a, h1, rfl⟩ := r
      obtain ⟨b, h2, us, h3, h4, _⟩ := S.at_ n _ q
      rw [h1] at h2; cases h2
      exact go (.inl ⟨us, SqL.of h3, by rw [emp_len h4.length]⟩) h
    · exact h.elim
  · exact h.elim

theorem eqF_eqV {G : GD} {ι : List Addr} {H : Hp} {x y : PV} {ux uy : V} (rx : Rep G ι H x ux) (ry : Rep G ι H y uy) (fx : flat x = true) (fy : flat y = true) : flatV ux = true ∧ eqV uy ux = eqF y x := by
  cases rx <;> first | cases fx | skip
  all_goals cases ry <;> first | cases fy | skip
  all_goals refine ⟨rfl, ?_⟩
  all_goals first | rfl | skip
  rename_i p hp q hq
  show (txt q == txt p) = (q == p)
  by_cases e : q = p
  · subst e; simp
  · have : txt q ≠ txt p := fun z => e (by have := congrArg TL.tl z; exact this)
    rw [beq_eq_false_iff_ne.mpr e, beq_eq_false_iff_ne.mpr this]
theorem any_flat {G : GD} {ι : List Addr} {H : Hp} {x : PV} {ux : V} (rx : Rep G ι H x ux) (fx : flat x = true) : ∀ {ys : List PV} {us : List V}, Reps G ι H ys us → ys.all flat = true → us.all flatV = true ∧ inV ux us = ys.any fun y => eqF y x
  | [], _, .nil, _ => ⟨rfl, rfl⟩
  | y :: r, _, .cons h t, f => by
    rw [List.all_cons, Bool.and_eq_true] at f
    obtain ⟨i1, i2⟩ := any_flat rx fx t f.2
    have h1 := eqF_eqV rx h fx f.1
    have h2 := eqF_eqV h rx f.1 fx
    refine ⟨by rw [List.all_cons, h2.1, i1]; rfl, ?_⟩
    unfold inV at i2 ⊢
    rw [List.any_cons, List.any_cons, h1.2, i2]

theorem eq_ok (w : Wk X D C L W) (I : Inv X pins τ H s) (S : Sim (D.G X.K) ι st H) (r1 : RepS (D.G X.K) ι H x u) (rv1 : RelV u v) (r2 : RepS (D.G X.K) ι H y u') (rv2 : RelV u' v')
    (h : Post (D.G X.K) (eq2 D.T C x y st) ι H F (WE W τ)) : wpAny (model X.prog X.w) X.A (compareOp .Eq v v') (EndV X D pins τ ι H F) X.xe s := by
  unfold eq2 at h
  split at h
  · rename_i c fs z
    split at h
    · rename_i hokr
      split at h
      · rename_i d hm
        obtain ⟨ci, p, dx, us, rfl, ⟨hc, hx⟩, e, hn, hl, hr⟩ := rep_ins r1
        cases rv1
        obtain ⟨ox, od, J⟩ := inst_of I e
        have cf := w.fa.cls c ci hc hx
        have me := (cf.meth _ (methOf_in hc hm)).1
        have hat := me.at_
        rw [show D.nm aEq = "__eq__" from w.fa.nm.1] at hat
        obtain ⟨m, Fr'⟩ := I.fr
        have run : wpAny (model X.prog X.w) X.A (call (.ref (D.fa d)) [.ref p, v']) (PySem.W.CmpBack (EndV X D pins τ ι H F)) X.xe s :=
          thn (call_b w (w.at2.mono (by omega)) I S (args := [.v (.ins c fs), .v z]) (us := [.ref p, u']) (.cons r1 (.cons r2 .nil)) (.cons rfl (.cons rv2 .nil)) h) fun z s' hz => by
            obtain ⟨k, rfl, hk⟩ := hz
            exact ⟨k, rfl, hk⟩
        refine PySem.W.cmp_ofEq ?_
        rcases okR_ty (st := st) r2 hokr with ⟨T, hT⟩ | ⟨gs, rfl⟩
        · exact PySem.W.cmp_K (by have := w.units; omega) Fr' I.ok.mod.kin J (looks_bTy I r2 rv2 hT) (by unfold PySem.W.notFirst; rw [cf.sub T (bTy_in hT)]; simp) hat me.fn run
        · obtain ⟨ci2, p2, dx2, us2, rfl, ⟨hc2, _⟩, e2, _⟩ := rep_ins r2
          cases rv2
          obtain ⟨ox2, od2, J2⟩ := inst_of I e2
          exact PySem.W.cmp_K (by have := w.units; omega) Fr' I.ok.mod.kin J J2.type (by unfold PySem.W.notFirst; simp) hat me.fn run
      · exact h.elim
    · exact h.elim
  · split at h
    · rename_i k hk
      unfold eqD at hk
      split at hk
      · rename_i d e hd he
        split at hk
        · rename_i hs
          cases hk
          rw [Bool.and_eq_true] at hs
          refine thn (op_eqD (by have := w.units; omega) pins s τ H u u' v v' (fun b H' => b = .bl (PyData.eqv d e) ∧ H' = H) I rv1 rv2 ⟨d, e, rep_dp hd r1, rep_dp he r2, hs.1, hs.2, rfl, rfl⟩) fun b s' hb => ?_
          obtain ⟨b', H', I', rb, rfl, rfl⟩ := hb
          cases rb
          exact ⟨_, rfl, endb_now I' S h⟩
        · cases hk
      · cases hk
    · exact h.elim
  · exact h.elim
end
end Vm
set_option Elab.async false
set_option linter.all false
set_option maxRecDepth 100000
set_option maxHeartbeats 1000000
/-! Comparisons, items, slices, fields. -/
namespace Vm
open PySem PySem.Spec PyProof.Rows L2
open PySem.W (Looks)
section
variable {X : Cx} {D : Dat} {C : Calls} {L : Nat} {W : WX} {A : Around} {pins : List (Addr × Obj)} {τ : L2.St} {H : Hp} {s : Shared} {Q : VK} {ι : List Addr} {st : PS} {x y : SV} {u u' : V} {v v' : Value}
  {F : Bool → PS → List Addr → Hp → Prop}

theorem endv_of (I : Inv X pins τ H s) (S : Sim (D.G X.K) ι st H) {k : Bool} (h : Post (D.G X.K) (.ok k st) ι H F (WE W τ)) {t : Sem Value} {E : Value → Shared → Prop}
    (run : wpAny (model X.prog X.w) X.A t (EP X pins τ fun b H' => b = .bl k ∧ H' = H) E s) : wpAny (model X.prog X.w) X.A t (EndV X D pins τ ι H F) E s :=
  thn run fun b s' hb => by
    obtain ⟨b', H', I', rb, rfl, rfl⟩ := hb
    cases rb
    exact ⟨_, rfl, endb_now I' S h⟩

theorem cmp_ok (w : Wk X D C L W) (I : Inv X pins τ H s) (S : Sim (D.G X.K) ι st H) (o : Cm) (r1 : RepS (D.G X.K) ι H x u) (rv1 : RelV u v) (r2 : RepS (D.G X.K) ι H y u') (rv2 : RelV u' v')
    (h : Post (D.G X.K) (cmp2 D.T C o x y st) ι H F (WE W τ)) : wpAny (model X.prog X.w) X.A (compareOp (cop o) v v') (EndV X D pins τ ι H F) X.xe s := by
  unfold cmp2 at h
  cases o with
  | eq => exact eq_ok w I S r1 rv1 r2 rv2 h
  | ne =>
    dsimp only at h
    split at h
    · split at h
      · rename_i k hk
        unfold eqD at hk
        split at hk
        · rename_i d e hd he
          split at hk
          · rename_i hs
            cases hk
            rw [Bool.and_eq_true] at hs
            exact endv_of I S h (op_neD (by have := w.units; omega) pins s τ H u u' v v' _ I rv1 rv2 ⟨d, e, rep_dp hd r1, rep_dp he r2, hs.1, hs.2, rfl, rfl⟩)
          · cases hk
        · cases hk
      · exact h.elim
    · exact h.elim
  | is =>
    dsimp only at h
    split at h
    · rename_i z
      cases rep_non r2
      refine endv_of I S h (op_isN pins s τ H u .non v v' _ I rv1 rv2 ⟨rfl, ?_, rfl⟩)
      congr 1
      cases z <;> first | (cases rep_non r1; rfl) | (cases rep_bl r1; rfl) | (cases rep_int r1; rfl) | skip
      · obtain ⟨rfl, _⟩ := rep_str r1; rfl
      · obtain ⟨a, _, rfl, _⟩ := rep_tup r1; rfl
      · obtain ⟨a, _, rfl, _⟩ := rep_lst r1; rfl
      · obtain ⟨a, _, rfl, _⟩ := rep_clst r1; rfl
      · obtain ⟨_, _, a, rfl, _⟩ := rep_dct r1; rfl
      · obtain ⟨_, a, _, _, rfl, _⟩ := rep_ins r1; rfl
      · cases r1; rfl
    · cases rep_non r2
      obtain ⟨a, _, rfl⟩ := r1
      exact endv_of I S h (op_isN pins s τ H _ .non v v' _ I rv1 rv2 ⟨rfl, rfl, rfl⟩)
    · exact h.elim
  | isnot =>
    dsimp only at h
    split at h
    · rename_i z
      cases rep_non r2
      refine endv_of I S h (op_notN pins s τ H u .non v v' _ I rv1 rv2 ⟨rfl, ?_, rfl⟩)
      congr 1
      cases z <;> first | (cases rep_non r1; rfl) | (cases rep_bl r1; rfl) | (cases rep_int r1; rfl) | skip
      · obtain ⟨rfl, _⟩ := rep_str r1; rfl
      · obtain ⟨a, _, rfl, _⟩ := rep_tup r1; rfl
      · obtain ⟨a, _, rfl, _⟩ := rep_lst r1; rfl
      · obtain ⟨a, _, rfl, _⟩ := rep_clst r1; rfl
      · obtain ⟨_, _, a, rfl, _⟩ := rep_dct r1; rfl
      · obtain ⟨_, a, _, _, rfl, _⟩ := rep_ins r1; rfl
      · cases r1; rfl
    · cases rep_non r2
      obtain ⟨a, _, rfl⟩ := r1
      exact endv_of I S h (op_notN pins s τ H _ .non v v' _ I rv1 rv2 ⟨rfl, rfl, rfl⟩)
    · exact h.elim
  | lt =>
    dsimp only at h
    split at h
    · cases rep_int r1; cases rep_int r2
      exact endv_of I S h (op_lt pins s τ H _ _ v v' _ I rv1 rv2 ⟨_, _, rfl, rfl, rfl, rfl⟩)
    · exact h.elim
  | le =>
    dsimp only at h
    split at h
    · cases rep_int r1; cases rep_int r2
      exact endv_of I S h (op_le pins s τ H _ _ v v' _ I rv1 rv2 ⟨_, _, rfl, rfl, rfl, rfl⟩)
    · exact h.elim
  | gt =>
    dsimp only at h
    split at h
    · cases rep_int r1; cases rep_int r2
      exact endv_of I S h (op_gt pins s τ H _ _ v v' _ I rv1 rv2 ⟨_, _, rfl, rfl, rfl, rfl⟩)
    · exact h.elim
  | ge =>
    dsimp only at h
    split at h
    · cases rep_int r1; cases rep_int r2
      exact endv_of I S h (op_ge pins s τ H _ _ v v' _ I rv1 rv2 ⟨_, _, rfl, rfl, rfl, rfl⟩)
    · exact h.elim
  | inn =>
    dsimp only at h
    split at h
    · split at h
      · rename_i z ys hf
        rw [Bool.and_eq_true] at hf
        obtain ⟨a, us, rfl, e, _, q⟩ := rep_lst r2
        obtain ⟨f1, f2⟩ := any_flat r1 hf.1 q hf.2
        exact endv_of I S h (op_in_seq pins s τ H u _ v v' _ I rv1 rv2 ⟨a, us, rfl, .inl (SqL.of e), (eqF_eqV r1 r1 hf.1 hf.1).1, f1, by rw [if_neg (by decide), f2], rfl⟩)
      · exact h.elim
    · split at h
      · rename_i z ys hf
        rw [Bool.and_eq_true] at hf
        obtain ⟨a, us, rfl, e, q⟩ := rep_tup r2
        obtain ⟨f1, f2⟩ := any_flat r1 hf.1 q hf.2
        exact endv_of I S h (op_in_seq pins s τ H u _ v v' _ I rv1 rv2 ⟨a, us, rfl, .inr e.sq, (eqF_eqV r1 r1 hf.1 hf.1).1, f1, by rw [if_neg (by decide), f2], rfl⟩)
      · exact h.elim
    · obtain ⟨rfl, _⟩ := rep_str r1
      obtain ⟨rfl, _⟩ := rep_str r2
      exact endv_of I S h (op_in_sign pins s τ H _ _ v v' _ I rv1 rv2 ⟨_, _, rfl, rfl, rfl, rfl⟩)
    · exact h.elim
  | notin =>
    dsimp only at h
    split at h
    · split at h
      · rename_i z ys hf
        rw [Bool.and_eq_true] at hf
        obtain ⟨a, us, rfl, e, _, q⟩ := rep_lst r2
        obtain ⟨f1, f2⟩ := any_flat r1 hf.1 q hf.2
        exact endv_of I S h (op_notIn_seq pins s τ H u _ v v' _ I rv1 rv2 ⟨a, us, rfl, .inl (SqL.of e), (eqF_eqV r1 r1 hf.1 hf.1).1, f1, by rw [if_pos rfl, f2], rfl⟩)
      · exact h.elim
    · split at h
      · rename_i z ys hf
        rw [Bool.and_eq_true] at hf
        obtain ⟨a, us, rfl, e, q⟩ := rep_tup r2
        obtain ⟨f1, f2⟩ := any_flat r1 hf.1 q hf.2
        exact endv_of I S h (op_notIn_seq pins s τ H u _ v v' _ I rv1 rv2 ⟨a, us, rfl, .inr e.sq, (eqF_eqV r1 r1 hf.1 hf.1).1, f1, by rw [if_pos rfl, f2], rfl⟩)
      · exact h.elim
    · obtain ⟨rfl, _⟩ := rep_str r1
      obtain ⟨rfl, _⟩ := rep_str r2
      exact endv_of I S h (op_notIn_sign pins s τ H _ _ v v' _ I rv1 rv2 ⟨_, _, rfl, rfl, rfl, rfl⟩)
    · exact h.elim

theorem ixN_eq (n : Nat) (i : Int) : Vm.ixN n i = L2.ixN n i := rfl
theorem atI_of {α : Type} {xs : List α} {i : Int} {j : Nat} {z : α} (h : Vm.ixN xs.length i = some j) (e : xs[j]? = some z) : atI xs i = some z := by
  unfold atI
  rw [← ixN_eq, h]
  exact e

theorem idx_ok {value slice : Expr} (w : Wk X D C L W) (I : Inv X pins τ H s) (S : Sim (D.G X.K) ι st H) (r1 : RepS (D.G X.K) ι H x u) (rv1 : RelV u v) (r2 : RepS (D.G X.K) ι H y u') (rv2 : RelV u' v')
    (h : Post (D.G X.K) (idx2 x y st) ι H (FV (D.G X.K) Q) (WE W τ)) (hs : subscripted slice false v v' = operate [v, v'] (getItem v v')) :
    wpAny (model X.prog X.w) X.A (subscriptTail value slice v v') (EP X pins τ Q) X.xe s := by
  unfold idx2 at h
  split at h
  · rename_i p k
    obtain ⟨rfl, hl⟩ := rep_str r1
    cases rep_int r2
    split at h
    · rename_i j hj
      split at h
      · rename_i c hc
        exact ix_str value slice pins s τ H _ _ v v' Q I rv1 rv2 ⟨_, _, c, rfl, rfl, lim_line hl, atI_of hj hc, ep_q S h (.str [c] (by show 1 ≤ lim; decide))⟩ hs
      · exact h.elim
    · exact h.elim
  · rename_i k _
    cases rep_int r2
    split at h
    · rename_i xs hxs
      obtain ⟨a, us, rfl, q, hq, _⟩ := seq_rep S r1 hxs
      split at h
      · rename_i j hj
        split at h
        · rename_i z hz
          obtain ⟨uz, h1, h2⟩ := q.get hz
          have hat : atI us k = some uz := atI_of (by rw [← q.length]; exact hj) h1
          have fin : Q uz H := h.now S uz h2
          rcases hq with hq | hq
          · exact ix_list value slice pins s τ H _ _ v v' Q I rv1 rv2 ⟨a, us, k, uz, rfl, rfl, hq, hat, fin⟩ hs
          · exact ix_tup value slice pins s τ H _ _ v v' Q I rv1 rv2 ⟨a, us, k, uz, rfl, rfl, hq, hat, fin⟩ hs
        · exact h.elim
      · exact h.elim
    · exact h.elim
  · exact h.elim

/-- a def's call as the machine's code -/
theorem code_c (w : Wk X D C L W) (a : At X L A) (I : Inv X pins τ H s) (S : Sim (D.G X.K) ι st H) {d : Nat} {args : List SV} {us : List V} {vals : List Value} (r : RepSs (D.G X.K) ι H args us) (rv : Vals us vals)
    (h : Post (D.G X.K) (C d args st) ι H (FV (D.G X.K) Q) (fun _ _ _ => False)) {R : Result → Shared → Prop} (hR : ∀ z s', EP X pins τ Q z s' → R (.ok (.ret z)) s') :
    codeAny (model X.prog X.w) A (.call (.ref (D.fa d)) ⟨vals, []⟩) R s := by
  obtain ⟨di, hd, hl⟩ := w.ar d args st h.ne
  obtain ⟨ds, hv, hb⟩ := w.fa.binds d di hd di.npar (Nat.le_refl _) (Nat.le_add_right _ _)
  rw [Nat.add_sub_cancel_left, List.drop_length] at hv
  cases hv
  have F := w.fns d di hd
  have hsp : spC (D.G X.K) C d di.npar us H Q (fun _ _ _ => False) := ⟨ι, st, args, S, r, hl, h⟩
  have hlen : vals.length = (D.ps d).length := by rw [← rv.length]; exact F.len us H Q _ hsp
  have b : BindsTo s (D.fd d) ⟨vals, []⟩ ((D.ps d).zip vals) := by
    have := hb s vals I.kIn (by rw [List.append_nil]; exact hlen)
    rw [List.append_nil] at this
    exact this
  have e0 : Env0 X.prog X.w X.K X.mg X.base A X.stack s H := by
    have z := I.env0
    exact { frames := by rw [a.fr]; exact z.frames, mod := z.mod, bs := z.bs, bsz := z.bsz, funs := z.funs, frf := z.frf, hok := z.hok, bare := z.bare }
  refine codeAny_mono (F.run A X.stack s H ⟨vals, []⟩ vals us Q (fun _ _ _ => False) a.room a.gd e0 b rv hsp) ?_
  intro res s2 hq
  match res, hq with
  | .error e, hq => obtain ⟨_, _, _, _, _, _, _, _, _, _, _, _, z⟩ := hq; exact z.elim
  | .ok (.ret u), hq => exact hR _ _ (I.after hq)
  | .ok .next, hq => exact hq.elim
  | .ok .brk, hq => exact hq.elim
  | .ok .cont, hq => exact hq.elim

theorem zip_look : ∀ {ns : List Str} {us : List V} {j : Nat} {n : Str} {z : V}, ns.Nodup → ns[j]? = some n → us[j]? = some z → (ns.zip us).lookup n = some z
  | [], _, _, _, _, _, h, _ => by simp at h
  | _ :: _, [], _, _, _, _, _, h => by simp at h
  | m :: ns, w' :: us, 0, n, z, _, h1, h2 => by
    simp at h1 h2
    subst h1; subst h2
    simp [List.lookup]
  | m :: ns, w' :: us, j + 1, n, z, nd, h1, h2 => by
    have nd' := List.nodup_cons.mp nd
    have hm : n ∈ ns := List.mem_of_getElem? (by simpa using h1)
    have hne : (n == m) = false := beq_eq_false_iff_ne.mpr fun q => nd'.1 (q ▸ hm)
    rw [List.zip_cons_cons, List.lookup_cons, hne]
    exact zip_look nd'.2 (by simpa using h1) (by simpa using h2)
theorem zip_none : ∀ {ns : List Str} {us : List V} {n : Str}, n ∉ ns → (ns.zip us).lookup n = none
  | [], _, _, _ => rfl
  | _ :: _, [], _, _ => rfl
  | m :: ns, w' :: us, n, h => by
    have hne : (n == m) = false := beq_eq_false_iff_ne.mpr fun q => h (by rw [q]; exact List.mem_cons_self)
    rw [List.zip_cons_cons, List.lookup_cons, hne]
    exact zip_none fun q => h (List.mem_cons_of_mem _ q)
theorem idxN_get : ∀ {l : List Nat} {f j : Nat}, idxN l f = some j → l[j]? = some f
  | [], _, _, h => by cases h
  | k :: r, f, j, h => by
    unfold idxN at h
    split at h
    · rename_i q; cases h; subst q; rfl
    · cases q : idxN r f with
      | none => rw [q] at h; cases h
      | some i =>
        rw [q] at h; cases h
        rw [List.getElem?_cons_succ]
        exact idxN_get q

/-- an instance, frozen or a cell -/
theorem ins_at (S : Sim (D.G X.K) ι st H) (r : RepS (D.G X.K) ι H x u) {c : Nat} {fs : List SV}
    (e : insOf x st = some (c, fs)) : ∃ ci a dx us, u = .ref a ∧ D.T.cls[c]? = some ci ∧ ci.isx = false ∧ H a = some (.ins (D.ca c) dx ((ci.flds.map D.nm).zip us)) ∧ RepSs (D.G X.K) ι H fs us ∧ fs.length ≤ ci.flds.length := by
  unfold insOf at e
  split at e
  · cases e
    obtain ⟨ci, a, dx, us, rfl, ⟨hc, hx⟩, h1, _, hl, q⟩ := rep_ins r
    exact ⟨ci, a, dx, us, rfl, hc, hx, h1, q.toS, by rw [List.length_map]; exact hl⟩
  · rename_i n
    split at e
    · rename_i c' fs' q
      cases e
      obtain ⟨a, h1, rfl⟩ := r
      obtain ⟨b, h2, ci, dx, us, ⟨hc, hx⟩, h3, hl, h4, _⟩ := S.at_ n _ q
      rw [h1] at h2; cases h2
      exact ⟨ci, a, dx, us, rfl, hc, hx, h3, h4, hl⟩
    · cases e
  · cases e

theorem fld_ok {b : Bool} {f : Nat} {E : Value → Shared → Prop} (w : Wk X D C L W) (I : Inv X pins τ H s) (S : Sim (D.G X.K) ι st H) (r : RepS (D.G X.K) ι H x u) (rv : RelV u v)
    (h : Post (D.G X.K) (fld2 D.T C x f st) ι H (FV (D.G X.K) Q) (WE W τ)) : wpAny (model X.prog X.w) X.A (getAttr v (D.nm f) b) (EP X pins τ Q) E s := by
  unfold fld2 at h
  split at h
  · rename_i c fs hcf
    obtain ⟨ci, a, dx, us, rfl, hc, hx, e, q, hl⟩ := ins_at S r hcf
    cases rv
    have cf := w.fa.cls c ci hc hx
    rw [hc] at h
    dsimp only at h
    split at h
    · rename_i j hj
      split at h
      · rename_i z hz
        obtain ⟨uz, h1, h2⟩ := q.get hz
        have hf := idxN_get hj
        have hf2 : (ci.flds.map D.nm)[j]? = some (D.nm f) := by rw [List.getElem?_map, hf]; rfl
        refine getattr_ok I e cf.cls (cf.no f (List.mem_of_getElem? hf)) (zip_look cf.nd hf2 h1) fun z' s' I' rz => ?_
        exact ⟨uz, H, I', rz, h.now S uz h2⟩
      · exact h.elim
    · rename_i hj
      split at h
      · rename_i d hd
        have hin : (f, d) ∈ ci.props := meth_in (ci := ci) hd
        obtain ⟨pa, P⟩ := cf.prop _ hin
        obtain ⟨ox, od, J⟩ := inst_of I e
        obtain ⟨rest, hrec⟩ := P.rec_
        split at h
        · rename_i z s1 hz
          have hpost : Post (D.G X.K) (C d [x] st) ι H (FV (D.G X.K) Q) (fun _ _ _ => False) := by
            rw [hz]; exact h
          have I1 := I.tok (s.toks + 1)
          have hcl : (PySem.W.clsIn X.K (D.ca c)).isSome = true := by
            obtain ⟨cd, hcd, _⟩ := PySem.W.any_some cf.cls.hd
            rw [hcd]; rfl
          refine PySem.W.get_bind I.kIn J (PySem.W.plainGet_of (cf.cls.get (D.nm f))).1 (PySem.W.findObj_data hcl P.at_ P.get P.tak) (PySem.W.plainGet_of (cf.cls.get (D.nm f))).2 (wpAny_call (PySem.W.prop_get (s := { s with toks := s.toks + 1 }) I.kIn hrec ?_))
          refine code_c w ((w.at2.mono (Nat.le_refl (L + 2))).mono (Nat.le_succ (L + 1))).in1 I1 S (args := [x]) (us := [.ref a]) (.cons r .nil) (.cons rfl .nil) hpost fun z' s' hz' => ?_
          obtain ⟨u3, H', I3, rv3, q3⟩ := hz'
          show wpAny _ _ (handedOut z') _ _ _
          rw [PySem.W.handedOut_of (handed_of rv3)]
          exact wpAny_pure ⟨u3, H', I3, rv3, q3⟩
        · exact h.elim
      · exact h.elim
  · exact h.elim
end
end Vm
set_option Elab.async false
set_option linter.all false
set_option maxRecDepth 100000
set_option maxHeartbeats 1000000
/-! New instances, slices, built-in functions. -/
namespace Vm
open PySem PySem.Spec PyProof.Rows L2
open PySem.W (Looks)
theorem vs_len : ∀ {xs : List SV} {ys : List PV}, vs xs = some ys → ys.length = xs.length
  | [], _, e => by cases e; rfl
  | .v x :: r, _, e => by
    simp only [vs] at e
    cases q : vs r with
    | none => rw [q] at e; cases e
    | some ys => rw [q] at e; cases e; exact congrArg (· + 1) (vs_len q)
  | .ref _ :: _, _, e => by cases e
theorem putAt_rep {G : GD} {ι : List Addr} {H : Hp} {xs : List SV} {us : List V} (r : RepSs G ι H xs us) : ∀ {p : List Nat} {ys : List SV}, putAt xs p = some ys → ∃ ws, putAt us p = some ws ∧ RepSs G ι H ys ws
  | [], _, e => by cases e; exact ⟨[], rfl, .nil⟩
  | i :: p, _, e => by
    unfold putAt at e
    split at e
    · rename_i x ys hx hys
      cases e
      obtain ⟨u, h1, h2⟩ := r.get hx
      obtain ⟨ws, h3, h4⟩ := putAt_rep r hys
      exact ⟨u :: ws, by unfold putAt; rw [h1, h3], .cons h2 h4⟩
    · cases e
theorem putAt_vals {us : List V} {vals : List Value} (r : Vals us vals) : ∀ {p : List Nat} {ws : List V}, putAt us p = some ws → ∃ zs, putAt vals p = some zs ∧ Vals ws zs
  | [], _, e => by cases e; exact ⟨[], rfl, .nil⟩
  | i :: p, _, e => by
    unfold putAt at e
    split at e
    · rename_i x ys hx hys
      cases e
      obtain ⟨u, h1, h2⟩ := r.get hx
      obtain ⟨ws, h3, h4⟩ := putAt_vals r hys
      exact ⟨u :: ws, by unfold putAt; rw [h1, h3], .cons h2 h4⟩
    · cases e
section
variable {X : Cx} {D : Dat} {C : Calls} {L : Nat} {W : WX} {A : Around} {pins : List (Addr × Obj)} {τ : L2.St} {H : Hp} {s : Shared} {Q : VK} {ι : List Addr} {st : PS} {x y : SV} {u u' : V} {v v' : Value}
  {F : Bool → PS → List Addr → Hp → Prop}

/-- a def's call with its defaults, as the machine's code; E may be anything -/
theorem code_d (w : Wk X D C L W) (a : At X L A) (I : Inv X pins τ H s) (S : Sim (D.G X.K) ι st H) {d : Nat} {args : List SV} {us : List V} {vals : List Value} {E : XK} (r : RepSs (D.G X.K) ι H args us) (rv : Vals us vals)
    (h : Post (D.G X.K) (C d (dflt D.T d args) st) ι H (FV (D.G X.K) Q) E) {R : Result → Shared → Prop} (hR : ∀ z s', EP X pins τ Q z s' → R (.ok (.ret z)) s') (hE : ∀ e s', L2.CX X.prog X.w X.stack H s E e s' → R (.error e) s') :
    codeAny (model X.prog X.w) A (.call (.ref (D.fa d)) ⟨vals, []⟩) R s := by
  obtain ⟨di, hd, hl⟩ := w.ar d _ st h.ne
  have hx : dflt D.T d args = args ++ (di.dfl.drop (args.length + di.dfl.length - di.npar)).map SV.v := by
    unfold dflt; rw [hd]
  rw [hx] at h hl
  rw [List.length_append, List.length_map, List.length_drop] at hl
  obtain ⟨ds, hv, hb⟩ := w.fa.binds d di hd args.length (by omega) (by omega)
  have F := w.fns d di hd
  have r2 := r.append (reps_dV (G := D.G X.K) (ι := ι) (H := H) fun x hx => w.fa.dfl d di hd x (List.mem_of_mem_drop (i := args.length + di.dfl.length - di.npar) hx))
  have hsp : spC (D.G X.K) C d di.npar (us ++ _) H Q E := ⟨ι, st, _, S, r2, by rw [List.length_append, List.length_map, List.length_drop]; omega, h⟩
  have rv2 := rv.append hv
  have hlen : (vals ++ ds).length = (D.ps d).length := by rw [← rv2.length]; exact F.len _ H Q E hsp
  have b := hb s vals I.kIn hlen
  have e0 : Env0 X.prog X.w X.K X.mg X.base A X.stack s H := by
    have z := I.env0
    exact { frames := by rw [a.fr]; exact z.frames, mod := z.mod, bs := z.bs, bsz := z.bsz, funs := z.funs, frf := z.frf, hok := z.hok, bare := z.bare }
  refine codeAny_mono (F.run A X.stack s H ⟨vals, []⟩ (vals ++ ds) _ Q E a.room a.gd e0 b rv2 hsp) ?_
  intro res s2 hq
  match res, hq with
  | .error e, hq => exact hE _ _ hq
  | .ok (.ret u), hq => exact hR _ _ (I.after hq)
  | .ok .next, hq => exact hq.elim
  | .ok .brk, hq => exact hq.elim
  | .ok .cont, hq => exact hq.elim

theorem take_pre {ι t : List Addr} {p : Addr} : ((ι ++ [p]) ++ t).take ι.length = ι := by
  rw [List.append_assoc, List.take_left]

theorem make_core (w : Wk X D C L W) (I : Inv X pins τ H s) (S : Sim (D.G X.K) ι st H) {c d : Nat} {ci : ClsI} {full : List SV} {vals : List Value} {kw : List (Str × Value)} (hc : D.T.cls[c]? = some ci) (hx' : ci.isx = false) (hi : ci.init = some d)
    (run : ∀ (A : Around) (ι2 : List Addr) (st2 : PS) (H2 : Hp) (s2 : Shared) (p : Addr) (Q' : VK) (R : Result → Shared → Prop), At X L A → Inv X pins τ H2 s2 → Sim (D.G X.K) ι2 st2 H2 → Ext ι H ι2 H2 → RepS (D.G X.K) ι2 H2 (.ref st.length) (.ref p) → X.K.In s2.heap →
      Post (D.G X.K) (C d full st2) ι2 H2 (FV (D.G X.K) Q') (WE W τ) → (∀ z s', EP X pins τ Q' z s' → R (.ok (.ret z)) s') → (∀ e s', L2.CX X.prog X.w X.stack H2 s2 (WE W τ) e s' → R (.error e) s') →
      codeAny (model X.prog X.w) A (.call (.ref (D.fa d)) ⟨.ref p :: vals, kw⟩) R s2)
    (h : Post (D.G X.K) (makeD C ci c d full st) ι H (FV (D.G X.K) Q) (WE W τ)) : wpAny (model X.prog X.w) X.A (call (.ref (D.ca c)) vals kw) (EP X pins τ Q) X.xe s := by
  have cf := w.fa.cls c ci hc hx'
  have M := cf.make d hi
  -- the dict, then the instance
  have n1 : H s.heap.objs.size = none := I.hok.fresh (Nat.le_refl _)
  have n2 : H (s.heap.objs.size + 1) = none := I.hok.fresh (Nat.le_succ _)
  have S1 := S.new (o := .own (s.heap.objs.size + 1)) n1
  have e1 := Ext.new (o := .own (s.heap.objs.size + 1)) S n1
  have n3 : (upd H s.heap.objs.size (.own (s.heap.objs.size + 1))) (s.heap.objs.size + 1) = none := by
    rw [upd_ne (Nat.succ_ne_self _)]; exact n2
  obtain ⟨S2, e2⟩ := S1.push (ho := .ins (D.ca c) s.heap.objs.size []) (o := .ins c []) n3 fun e => ⟨ci, s.heap.objs.size, [], ⟨hc, hx'⟩, by rw [upd_same]; simp, Nat.zero_le _, .nil, fun x hx => by cases hx⟩
  have e3 := e1.trans e2
  have I2 := Inv.made (C := D.ca c) I
  have rx : RepS (D.G X.K) (ι ++ [s.heap.objs.size + 1]) (upd (upd H s.heap.objs.size (.own (s.heap.objs.size + 1))) (s.heap.objs.size + 1) (.ins (D.ca c) s.heap.objs.size [])) (.ref st.length) (.ref (s.heap.objs.size + 1)) :=
    ⟨_, by rw [← S.len, List.getElem?_append_right (Nat.le_refl _), Nat.sub_self]; rfl, rfl⟩
  have key : ∀ (ι' : List Addr) (H' : Hp), Ext (ι ++ [s.heap.objs.size + 1]) (upd (upd H s.heap.objs.size (.own (s.heap.objs.size + 1))) (s.heap.objs.size + 1) (.ins (D.ca c) s.heap.objs.size [])) ι' H' → ι'.take st.length = ι ∧ Ext ι H (ι'.take st.length) H' := by
    intro ι' H' e
    obtain ⟨t, rfl⟩ := e.pre
    have q : ((ι ++ [s.heap.objs.size + 1]) ++ t).take st.length = ι := by rw [← S.len]; exact take_pre
    exact ⟨q, ⟨⟨[], by rw [q, List.append_nil]⟩, (e3.trans e).stay.trans Stay.cut⟩⟩
  have hp : Post (D.G X.K) (C d full (st ++ [.ins c []])) (ι ++ [s.heap.objs.size + 1]) (upd (upd H s.heap.objs.size (.own (s.heap.objs.size + 1))) (s.heap.objs.size + 1) (.ins (D.ca c) s.heap.objs.size []))
      (FV (D.G X.K) fun z H' => z = .non ∧ Q (.ref (s.heap.objs.size + 1)) H') (WE W τ) := by
    unfold makeD at h
    revert h
    cases hr : C d full (st ++ [.ins c []]) with
    | bad => exact fun h => h
    | ex e s2 =>
      intro h ι' H' cl da e' S' xr
      obtain ⟨q, e4⟩ := key ι' H' e'
      exact h _ H' cl da e4 (S'.cut _) (xr.keep Stay.cut)
    | ok z s2 =>
      intro h ι' H' e' S' uz rz
      dsimp only at h
      unfold made at h
      split at h
      · cases rep_non rz
        refine ⟨rfl, ?_⟩
        obtain ⟨q, e4⟩ := key ι' H' e'
        split at h
        · split at h
          · rename_i k fs hfs
            split at h
            · rename_i hkc
              subst hkc
              split at h
              · rename_i ys hys
                refine h _ H' e4 (S'.cut _) _ ?_
                obtain ⟨a, h1, ci2, dx, us2, ⟨hc2, hx2⟩, h3, h4, h5, h6⟩ := S'.at_ _ _ hfs
                have : a = s.heap.objs.size + 1 := by
                  obtain ⟨t, rfl⟩ := e'.pre
                  rw [← S.len, List.append_assoc, List.getElem?_append_right (Nat.le_refl _), Nat.sub_self] at h1
                  exact (Option.some.inj h1).symm
                subst this
                have out := S'.last_out h1
                have hr2 := (RepSs.ofVs hys h5).keep (Stay.cut (k := st.length))
                exact .ins hc2 hx2 h3 out (by rw [vs_len hys]; exact h4) hr2
              · exact h.elim
            · exact h.elim
          · exact h.elim
        · refine h ι' H' (e3.trans e') S' _ ?_
          exact RepS.keep e' rx
      · exact h.elim
  refine wpAny_call (make_map (f := D.fa d) I.kIn M.makes M.init (beq_iff_eq.mp M.fn) ?_)
  have at' : At X L (X.A.under (.builtin "type.__call__" ⟨.ref (D.ca c) :: vals, kw⟩)) := by
    have r0 : Room (L + 1) X.A := w.at_.room.mono (by omega)
    refine ⟨r0.make _ _ _, ?_, (I.env0.make (D.ca c) vals kw).frames.trans I.env0.frames.symm⟩
    have g := w.at_.gd
    simp [Around.under, Code.guards, Code.isGuard, pushGuards, g, guardIds]
  refine run _ _ _ _ _ _ (fun z H' => z = .non ∧ Q (.ref (s.heap.objs.size + 1)) H') _ at' I2 S2 e3 rx I2.kIn hp ?_ ?_
  · intro z s' hz
    obtain ⟨q, H', I3, rq, rfl, q3⟩ := hz
    exact ⟨rq, ⟨V.ref (s.heap.objs.size + 1), H', I3, rfl, q3⟩⟩
  · intro e s' hq
    exact passAt w.tk τ pins _ _ e s' I2 hq
theorem make_ok (w : Wk X D C L W) (I : Inv X pins τ H s) (S : Sim (D.G X.K) ι st H) {c : Nat} {args : List SV} {us : List V} {vals : List Value} (r : RepSs (D.G X.K) ι H args us) (rv : Vals us vals)
    (h : Post (D.G X.K) (make D.T C c args st) ι H (FV (D.G X.K) Q) (WE W τ)) : wpAny (model X.prog X.w) X.A (call (.ref (D.ca c)) vals) (EP X pins τ Q) X.xe s := by
  unfold make at h
  cases hc : D.T.cls[c]? with
  | none => rw [hc] at h; exact h.elim
  | some ci =>
    rw [hc] at h
    dsimp only at h
    by_cases hx : ci.isx = true
    · rw [if_pos hx] at h; exact h.elim
    rw [if_neg hx] at h
    cases hi : ci.init with
    | none => rw [hi] at h; exact h.elim
    | some d =>
      rw [hi] at h
      exact make_core w I S hc (by simpa using hx) hi (fun A ι2 st2 H2 s2 p Q' R a I2 S2 e rx _ hp hR hE =>
        code_d w a I2 S2 (args := .ref st.length :: args) (us := .ref p :: us) (vals := .ref p :: vals) (.cons rx (r.keep e)) (.cons rfl rv) hp hR hE) h
/-- .. with keywords: every parameter is given -/
theorem make_kw (w : Wk X D C L W) (I : Inv X pins τ H s) (S : Sim (D.G X.K) ι st H) {c : Nat} {ci : ClsI} {args ys : List SV} {kk : KwI} {p0 : List Nat} {us1 us2 : List V} {vals ws : List Value} (hc : D.T.cls[c]? = some ci) (hi : ci.init = some kk.d) (hk : kk ∈ D.kw)
    (hperm : kk.perm = 0 :: p0.map (· + 1)) (r : RepSs (D.G X.K) ι H args (us1 ++ us2)) (r1 : Vals us1 vals) (r2 : Vals us2 ws) (l1 : vals.length + 1 = kk.npos) (l2 : ws.length = kk.ks.length) (hy : ∀ a : SV, putAt (a :: args) kk.perm = some (a :: ys))
    (h : Post (D.G X.K) (makeF D.T C c ys st) ι H (FV (D.G X.K) Q) (WE W τ)) : wpAny (model X.prog X.w) X.A (call (.ref (D.ca c)) vals ((kk.ks.map D.nm).zip ws)) (EP X pins τ Q) X.xe s := by
  unfold makeF at h
  rw [hc] at h
  dsimp only at h
  by_cases hx : ci.isx = true
  · rw [if_pos hx] at h; exact h.elim
  rw [if_neg hx, hi] at h
  refine make_core w I S hc (by simpa using hx) hi (fun A ι2 st2 H2 s2 p Q' R a I2 S2 e rx kin hp hR hE => ?_) h
  obtain ⟨di, hd, hl⟩ := w.ar kk.d _ st2 hp.ne
  obtain ⟨zs, hz, hb⟩ := w.fa.kw kk hk s2 (.ref p :: vals) ws kin (by simpa using l1) l2
  obtain ⟨vs3, h3, r3⟩ := putAt_rep (RepSs.cons rx (r.keep e)) (hy (.ref st.length))
  obtain ⟨zs', hz', r4⟩ := putAt_vals (Vals.append (.cons rfl r1) r2 : Vals (V.ref p :: us1 ++ us2) (Value.ref p :: vals ++ ws)) h3
  have hz2 : putAt (Value.ref p :: vals ++ ws) kk.perm = some zs := hz
  rw [hz2] at hz'
  cases hz'
  have e0 : Env0 X.prog X.w X.K X.mg X.base A X.stack s2 H2 := by
    have z := I2.env0
    exact { frames := by rw [a.fr]; exact z.frames, mod := z.mod, bs := z.bs, bsz := z.bsz, funs := z.funs, frf := z.frf, hok := z.hok, bare := z.bare }
  refine codeAny_mono ((w.fns kk.d di hd).run A X.stack s2 H2 ⟨.ref p :: vals, (kk.ks.map D.nm).zip ws⟩ zs vs3 Q' (WE W τ) a.room a.gd e0 hb r4 ⟨ι2, st2, _, S2, r3, hl, hp⟩) ?_
  intro res s3 hq
  match res, hq with
  | .error e, hq => exact hE _ _ hq
  | .ok (.ret u), hq => exact hR _ _ (I2.after hq)
  | .ok .next, hq => exact hq.elim
  | .ok .brk, hq => exact hq.elim
  | .ok .cont, hq => exact hq.elim
end
end Vm
set_option Elab.async false
set_option linter.all false
set_option maxRecDepth 100000
set_option maxHeartbeats 1000000
/-! Slices, built-in functions. -/
namespace Vm
open PySem PySem.Spec PyProof.Rows L2
open PySem.W (Looks)
section
variable {prog : Program} {w : World} {A : Around} {E : Value → Shared → Prop} {s : Shared} {K : PySem.W.Frag} {x C f : Addr} {ox : Obj} {od : Option Obj}
/-- bool(v) by v's truth -/
theorem bool_by {v : Value} {Q : Value → Shared → Prop} (h : wpAny (model prog w) A.in1.in1 (truthy v) (fun b s' => Q (.bool b) s') E s) : wpAny (model prog w) A (call (.type "bool") [v]) Q E s := by
  refine callType_codes (T := "bool") (Bi := Builtin.«object.__init__») (Q₁ := fun r s1 => ∃ b, r = .bool b ∧ Q r s1) PySem.F.called_bool (PySem.F.typeCall_bool_1 _) PySem.F.entry_object_init ?_ ?_
  · refine codeAny_of_tree ?_
    show wpAny _ A.in1.in1 (do checkBuiltinCall "bool.__new__" ⟨[.type "bool", v], []⟩; again (.builtin "bool.__new__" ⟨[.type "bool", v], []⟩)) _ _ s
    refine wpAny_bind (wpAny_of_eq (PySem.F.newCall_bool_1 _) (wpAny_pure ⟨plainId_quiet (by decide +kernel) _, codeAny_builtin PySem.F.entry_bool_new ?_⟩))
    rw [Around.under_plainId (by decide +kernel) _]
    unfold Builtin.«bool.__new__»
    refine wpAny_bind (wpAny_of_eq (show isType (.type "bool") = pure true from rfl) ?_)
    refine wpAny_bind (wpAny_of_eq PySem.F.conv_sub_bool ?_)
    refine wpAny_bind (m := someArgs "bool" 0 1 { pos := [v] }) (wpAny_pure ?_)
    refine wpAny_bind (wpAny_mono h (fun b s1 hb => ?_) fun _ _ z => z)
    exact wpAny_pure ⟨b, rfl, hb⟩
  · rintro obj s1 ⟨b, rfl, hq⟩
    exact ⟨PySem.typeIs_bool _ _, PySem.F.args_object_init_2 _ _, object_init_meets PySem.F.called_bool.init.lookup PySem.F.called_bool.made (by decide) prog w A.in1 _ s1 ⟨PySem.typeIs_bool _ _, rfl, hq⟩⟩
/-- abs(x) of an own class -/
theorem abs_own {Q : Value → Shared → Prop} (X : K.In s.heap) (I : PySem.W.InstAt s.heap x ox C od) (hs : PySem.W.findIn K (.ref C) "__abs__" = some (some (.ref f))) (hf : PySem.W.isFn K (.ref f) = true)
    (h : wpAny (model prog w) A.in1 (call (.ref f) [.ref x]) Q E s) : wpAny (model prog w) A (call (.builtin "abs") [.ref x]) Q E s := by
  refine Calls.call_function_entry kind_abs plain_abs entry_abs (args_abs _) ?_
  unfold Builtin.«abs»
  refine wpAny_bind (m := oneArg "abs" _) (wpAny_pure ?_)
  refine wpAny_bind (m := callSpecial? (.ref x) (Str.ofString "__abs__")) (PySem.W.special_fn X I hs (beq_iff_eq.mp hf) (wpAny_mono h (fun r s' hr => ?_) fun _ _ z => z))
  exact wpAny_pure ⟨_, rfl, hr⟩
end
section
variable {X : Cx} {D : Dat} {C : Calls} {L : Nat} {W : WX} {A : Around} {pins : List (Addr × Obj)} {τ : L2.St} {H : Hp} {s : Shared} {Q : VK} {ι : List Addr} {st : PS} {x y : SV} {u u' : V} {v v' : Value}
  {F : Bool → PS → List Addr → Hp → Prop}

/-- a new list -/
theorem newL_q {fr : Bool} {xs : List SV} {us : List V} {E : XK} (S : Sim (D.G X.K) ι st H) (q : RepSs (D.G X.K) ι H xs us) (h : Post (D.G X.K) (newL fr xs st) ι H (FV (D.G X.K) Q) E) :
    us.length ≤ lim ∧ ∀ p, H p = none → Q (.ref p) (upd H p (.lst us)) := by
  unfold newL at h
  split at h
  · rename_i hl
    refine ⟨by rw [← q.length]; exact hl, fun p hp => ?_⟩
    split at h
    · split at h
      · rename_i ys hys
        have r := RepSs.ofVs hys q
        exact h ι _ (Ext.new S hp) (S.new hp) _ (.lst upd_same (S.fresh hp) (r.keep (Ext.new S hp).stay))
      · exact h.elim
    · have hb : ∀ x ∈ xs, blw st.length x := by
        intro x hx
        rw [← S.len]
        obtain ⟨i, hi⟩ := List.getElem?_of_mem hx
        obtain ⟨uz, _, hz⟩ := q.get hi
        exact RepS.blw hz
      obtain ⟨S2, e2⟩ := S.push (ho := .lst us) (o := .lst xs) hp fun e => ⟨us, upd_same, q.keep e, hb⟩
      exact h _ _ e2 S2 _ ⟨p, by rw [← S.len, List.getElem?_append_right (Nat.le_refl _), Nat.sub_self]; rfl, rfl⟩
  · exact h.elim

theorem cutV_rep {G : GD} {xs : List SV} {us : List V} (q : RepSs G ι H xs us) (lo hi : Option Int) : RepSs G ι H (cut xs lo hi) (cutV us lo hi) := by
  have e : cutV us lo hi = (us.drop (Vm.sIx us.length 0 lo)).take (Vm.sIx us.length us.length hi - Vm.sIx us.length 0 lo) := rfl
  unfold cut
  rw [e, q.length]
  exact RepSs.take _ (RepSs.drop _ q)

/-- a slice, by values -/
theorem sl_ok {fr : Bool} {lo hi : Option Int} {vl vu : Value} {sl : Addr} (I : Inv X pins τ H s) (S : Sim (D.G X.K) ι st H) (r : RepS (D.G X.K) ι H x u) (rv : RelV u v) (hs : s.heap.IsSliceOf sl vl vu .none) (pl : IsPart vl lo) (pu : IsPart vu hi)
    (h : Post (D.G X.K) (sl2 fr x lo hi st) ι H (FV (D.G X.K) Q) (WE W τ)) :
    ∃ T id, typeLookup (.type T) "__getitem__" = pure (some (.builtin id)) ∧ s.TypeIs v T ∧ wpAny (model X.prog X.w) X.A (getItem v (.ref sl)) (EP X pins τ Q) X.xe s := by
  unfold sl2 at h
  split at h
  · rename_i z
    obtain ⟨rfl, hl⟩ := rep_str r
    refine sl_str pins s τ H _ v vl vu lo hi sl Q I rv hs pl pu ⟨_, rfl, lim_line hl, ?_⟩
    have e : cutS (txt z) lo hi = txt (cut z lo hi) := by
      apply TL.ext_tl
      rfl
    rw [e]
    exact ep_q S h (.str _ (by unfold cut; rw [List.length_take]; refine Nat.le_trans (Nat.min_le_right _ _) ?_; rw [List.length_drop]; omega))
  · exact h.elim
  · rename_i hnt
    split at h
    · rename_i xs hxs
      obtain ⟨a, us, rfl, q, _, hq⟩ := seq_rep S r hxs
      rcases hq with ⟨⟨t, rfl⟩, _⟩ | ⟨_, hq⟩
      · exact absurd rfl (hnt t)
      · obtain ⟨_, hn⟩ := newL_q S (cutV_rep q lo hi) h
        exact sl_list pins s τ H _ v vl vu lo hi sl Q I rv hs pl pu ⟨a, us, rfl, hq, hn⟩
    · exact h.elim
end
end Vm
set_option Elab.async false
set_option linter.all false
set_option maxRecDepth 100000
set_option maxHeartbeats 1000000
/-! isinstance, built-in functions. -/
namespace Vm
open PySem PySem.Spec PyProof.Rows L2
open PySem.W (Looks)
section
variable {X : Cx} {D : Dat} {C : Calls} {L : Nat} {W : WX} {A : Around} {pins : List (Addr × Obj)} {τ : L2.St} {H : Hp} {s : Shared} {Q : VK} {ι : List Addr} {st : PS} {x y : SV} {u u' : V} {v v' : Value}
  {F : Bool → PS → List Addr → Hp → Prop}

def tyVal (D : Dat) : Ty → Value
  | .int => .type "int" | .bool => .type "bool" | .str => .type "str" | .list => .type "list" | .tuple => .type "tuple" | .dict => .type "dict" | .cls k => .ref (D.ca k)
def tyV1 (D : Dat) : Ty → V
  | .int => .ty "int" | .bool => .ty "bool" | .str => .ty "str" | .list => .ty "list" | .tuple => .ty "tuple" | .dict => .ty "dict" | .cls k => .ref (D.ca k)
theorem clsV_ty (t : Ty) : ClsV (tyV1 D t) (tyVal D t) := by
  cases t <;> first | exact .ty _ | exact .own _

/-- classes that are asked for are classes of the text, none an error's -/
def okTy (D : Dat) : Ty → Prop
  | .cls k => ∃ ck, D.T.cls[k]? = some ck ∧ ck.isx = false
  | _ => True

theorem tyx_tup {a : Addr} {us : List V} (h : TupN X.K ι H a us) : TyX X.K H (.ref a) (.type "tuple") := by
  rcases h with ⟨h | ⟨o, h⟩, _⟩ | ⟨o, its, n, h1, h2, _⟩
  · exact .base (.tup h)
  · exact .fTuple h
  · exact .kTuple h1 h2
theorem tyx_lst {a : Addr} {us : List V} (h : LstN X.K ι H a us) : TyX X.K H (.ref a) (.type "list") := by
  rcases h with ⟨h | ⟨o, h⟩, _⟩ | ⟨o, its, n, h1, h2, _⟩
  · exact .base (.lst h)
  · exact .base (.frz h)
  · exact .kList h1 h2
theorem tyx_ins (w : Wk X D C L W) {c : Nat} {ci : ClsI} {a dx : Addr} {fs : List (Str × V)} (hc : D.T.cls[c]? = some ci) (hx : ci.isx = false) (e : H a = some (.ins (D.ca c) dx fs)) : TyX X.K H (.ref a) (.ref (D.ca c)) := by
  have cf := w.fa.cls c ci hc hx
  exact .base (.ins e cf.cls cf.ha w.fa.hn w.fa.htk cf.hm)

/-- a value's type, and what isinstance says of it -/
theorem tyx_of (w : Wk X D C L W) (S : Sim (D.G X.K) ι st H) (r : RepS (D.G X.K) ι H x u) {t0 : Ty} {b0 : Bool} (h0 : isTy D.T x st t0 = some b0) :
    ∃ tv, TyX X.K H u tv ∧ ∀ t b, okTy D t → isTy D.T x st t = some b → PySem.W.kitOne X.K tv (tyVal D t) = some b := by
  have own : ∀ (T : String), T ∈ bTys → ∀ k, okTy D (.cls k) → PySem.W.kitOne X.K (.type T) (.ref (D.ca k)) = some false := by
    rintro T hT k ⟨ck, h1, h2⟩
    exact (w.fa.cls k ck h1 h2).kitB T hT
  have insK : ∀ {c : Nat} {ci : ClsI}, D.T.cls[c]? = some ci → ci.isx = false → ∀ t b, okTy D t → insTy D.T c t = some b → PySem.W.kitOne X.K (.ref (D.ca c)) (tyVal D t) = some b := by
    intro c ci hc hx t b ho e
    have cf := w.fa.cls c ci hc hx
    cases t with
    | cls k =>
      obtain ⟨ck, h1, h2⟩ := ho
      simp only [insTy, hc, Option.map_some, Option.some.injEq] at e
      subst e
      exact w.fa.kit c ci k ck hc hx h1 h2
    | _ => cases e; exact cf.kitT _ (by decide)
  cases x with
  | v z =>
    cases z with
    | non =>
      cases rep_non r
      refine ⟨_, .base .non, fun t b ho e => ?_⟩
      cases e
      cases t with
      | cls k => exact own _ (by decide) k ho
      | _ => exact kit_ty (by decide +kernel)
    | bl q =>
      cases rep_bl r
      refine ⟨_, .base (.bl q), fun t b ho e => ?_⟩
      cases e
      cases t with
      | cls k => exact own _ (by decide) k ho
      | _ => exact kit_ty (by decide +kernel)
    | int i =>
      cases rep_int r
      refine ⟨_, .base (.int i), fun t b ho e => ?_⟩
      cases e
      cases t with
      | cls k => exact own _ (by decide) k ho
      | _ => exact kit_ty (by decide +kernel)
    | str z =>
      obtain ⟨rfl, _⟩ := rep_str r
      refine ⟨_, .base (.str _), fun t b ho e => ?_⟩
      cases e
      cases t with
      | cls k => exact own _ (by decide) k ho
      | _ => exact kit_ty (by decide +kernel)
    | tup xs =>
      obtain ⟨a, us, rfl, hh, _⟩ := rep_tup r
      refine ⟨_, tyx_tup hh, fun t b ho e => ?_⟩
      cases e
      cases t with
      | cls k => exact own _ (by decide) k ho
      | _ => exact kit_ty (by decide +kernel)
    | lst xs =>
      obtain ⟨a, us, rfl, hh, _⟩ := rep_lst r
      refine ⟨_, .base (.lst hh), fun t b ho e => ?_⟩
      cases e
      cases t with
      | cls k => exact own _ (by decide) k ho
      | _ => exact kit_ty (by decide +kernel)
    | clst xs =>
      obtain ⟨a, us, rfl, hh, _⟩ := rep_clst r
      refine ⟨_, tyx_lst hh, fun t b ho e => ?_⟩
      cases e
      cases t with
      | cls k => exact own _ (by decide) k ho
      | _ => exact kit_ty (by decide +kernel)
    | dct ks zs =>
      obtain ⟨_, _, a, rfl, hh, _⟩ := rep_dct r
      refine ⟨_, .base (.dK hh), fun t b ho e => ?_⟩
      cases e
      cases t with
      | cls k => exact own _ (by decide) k ho
      | _ => exact kit_ty (by decide +kernel)
    | ins c fs =>
      obtain ⟨ci, a, dx, us, rfl, ⟨hc, hx⟩, hh, _⟩ := rep_ins r
      exact ⟨_, tyx_ins w hc hx hh, fun t b ho e => insK hc hx t b ho e⟩
    | cls c => cases h0
  | ref n =>
    obtain ⟨a, h1, rfl⟩ := r
    cases q : st[n]? with
    | none => simp only [isTy, q] at h0; cases h0
    | some o =>
      obtain ⟨b, h2, hcell⟩ := S.at_ n o q
      rw [h1] at h2; cases h2
      cases o with
      | lst xs =>
        obtain ⟨us, hh, _⟩ := hcell
        refine ⟨_, .base (.lst hh), fun t b ho e => ?_⟩
        simp only [isTy, q, Option.some.injEq] at e
        subst e
        cases t with
        | cls k => exact own _ (by decide) k ho
        | _ => exact kit_ty (by decide +kernel)
      | ins c fs =>
        obtain ⟨ci, dx, us, ⟨hc, hx⟩, hh, _⟩ := hcell
        refine ⟨_, tyx_ins w hc hx hh, fun t b ho e => ?_⟩
        simp only [isTy, q] at e
        exact insK hc hx t b ho e

theorem isAny_kit (w : Wk X D C L W) (S : Sim (D.G X.K) ι st H) (r : RepS (D.G X.K) ι H x u) {t0 : Ty} {ts : List Ty} {k : Bool} (hok : ∀ t ∈ t0 :: ts, okTy D t) (h : isAny D.T x st (t0 :: ts) = some k) :
    ∃ tv, TyX X.K H u tv ∧ PySem.W.kitAny X.K tv ((t0 :: ts).map (tyVal D)) = some k := by
  have h0 : ∃ b0, isTy D.T x st t0 = some b0 := by
    unfold isAny at h
    cases q : isTy D.T x st t0 with
    | none => rw [q] at h; cases h
    | some b => exact ⟨b, rfl⟩
  obtain ⟨b0, h0⟩ := h0
  obtain ⟨tv, T, kt⟩ := tyx_of w S r h0
  refine ⟨tv, T, ?_⟩
  have all : ∀ (l : List Ty) (k : Bool), (∀ t ∈ l, okTy D t) → isAny D.T x st l = some k → PySem.W.kitAny X.K tv (l.map (tyVal D)) = some k := by
    intro l
    induction l with
    | nil => intro k _ e; cases e; exact kitAny_nil
    | cons t l ih =>
      intro k ho e
      unfold isAny at e
      cases q : isTy D.T x st t with
      | none => rw [q] at e; cases e
      | some b =>
        rw [q] at e
        have kt' := kt t b (ho t List.mem_cons_self) q
        cases b with
        | true => cases e; exact kitAny_cons kt' (fun z => by cases z) fun _ => rfl
        | false => exact kitAny_cons kt' (fun _ => ih k (fun t ht => ho t (List.mem_cons_of_mem _ ht)) e) fun z => by cases z
  exact all _ k hok h
end
end Vm
set_option Elab.async false
set_option linter.all false
set_option maxRecDepth 100000
set_option maxHeartbeats 1000000
/-! Built-in functions. -/
namespace Vm
open PySem PySem.Spec PyProof.Rows L2
open PySem.W (Looks)
section
variable {X : Cx} {D : Dat} {C : Calls} {L : Nat} {W : WX} {A : Around} {pins : List (Addr × Obj)} {τ : L2.St} {H : Hp} {s : Shared} {Q : VK} {ι : List Addr} {st : PS} {x y : SV} {u u' : V} {v v' : Value}
  {F : Bool → PS → List Addr → Hp → Prop}

theorem repS1 {G : GD} {us : List V} (r : RepSs G ι H [x] us) : ∃ u, us = [u] ∧ RepS G ι H x u := by
  cases r with
  | cons h t => cases t; exact ⟨_, rfl, h⟩
theorem repS2 {G : GD} {us : List V} (r : RepSs G ι H [x, y] us) : ∃ u u', us = [u, u'] ∧ RepS G ι H x u ∧ RepS G ι H y u' := by
  cases r with
  | cons h t =>
    cases t with
    | cons h2 t => cases t; exact ⟨_, _, rfl, h, h2⟩

/-- what stands for a built-in -/
def biV : Bi → Value
  | .len => .builtin "len" | .abs => .builtin "abs" | .int => .type "int" | .str => .type "str" | .bool => .type "bool" | .repr => .builtin "repr" | .list => .type "list" | .tuple => .type "tuple"
  | .sum => .builtin "sum" | .all => .builtin "all" | .any => .builtin "any" | .gcd => .builtin "math.gcd" | .isinst _ _ => .builtin "isinstance"

theorem sumI_map : ∀ {xs : List SV} {i : Int}, sumI xs = some i → ∃ ns : List Int, xs = ns.map (fun n => SV.v (.int n)) ∧ i = ns.sum
  | [], _, e => by cases e; exact ⟨[], rfl, rfl⟩
  | .v (.int k) :: r, _, e => by
    simp only [sumI] at e
    cases q : sumI r with
    | none => rw [q] at e; cases e
    | some j =>
      rw [q] at e; cases e
      obtain ⟨ns, h1, h2⟩ := sumI_map q
      exact ⟨k :: ns, by rw [h1]; rfl, by rw [h2]; rfl⟩
  | .v .non :: _, _, e => by cases e
  | .v (.bl _) :: _, _, e => by cases e
  | .v (.str _) :: _, _, e => by cases e
  | .v (.tup _) :: _, _, e => by cases e
  | .v (.lst _) :: _, _, e => by cases e
  | .v (.clst _) :: _, _, e => by cases e
  | .v (.dct _ _) :: _, _, e => by cases e
  | .v (.ins _ _) :: _, _, e => by cases e
  | .v (.cls _) :: _, _, e => by cases e
  | .ref _ :: _, _, e => by cases e
theorem reps_ints {G : GD} : ∀ {ns : List Int} {us : List V}, RepSs G ι H (ns.map (fun n => SV.v (.int n))) us → us = ns.map V.int
  | [], _, .nil => rfl
  | n :: r, _, .cons h t => by rw [rep_int h, reps_ints t]; rfl
theorem allB_map : ∀ {xs : List SV} {k : Bool}, allB xs = some k → ∃ bs : List Bool, xs = bs.map (fun b => SV.v (.bl b)) ∧ k = bs.all id
  | [], _, e => by cases e; exact ⟨[], rfl, rfl⟩
  | .v (.bl b) :: r, _, e => by
    simp only [allB] at e
    cases q : allB r with
    | none => rw [q] at e; cases e
    | some j =>
      rw [q] at e; cases e
      obtain ⟨ns, h1, h2⟩ := allB_map q
      exact ⟨b :: ns, by rw [h1]; rfl, by rw [h2]; rfl⟩
  | .v .non :: _, _, e => by cases e
  | .v (.int _) :: _, _, e => by cases e
  | .v (.str _) :: _, _, e => by cases e
  | .v (.tup _) :: _, _, e => by cases e
  | .v (.lst _) :: _, _, e => by cases e
  | .v (.clst _) :: _, _, e => by cases e
  | .v (.dct _ _) :: _, _, e => by cases e
  | .v (.ins _ _) :: _, _, e => by cases e
  | .v (.cls _) :: _, _, e => by cases e
  | .ref _ :: _, _, e => by cases e
theorem anyB_map : ∀ {xs : List SV} {k : Bool}, anyB xs = some k → ∃ bs : List Bool, xs = bs.map (fun b => SV.v (.bl b)) ∧ k = bs.any id
  | [], _, e => by cases e; exact ⟨[], rfl, rfl⟩
  | .v (.bl b) :: r, _, e => by
    simp only [anyB] at e
    cases q : anyB r with
    | none => rw [q] at e; cases e
    | some j =>
      rw [q] at e; cases e
      obtain ⟨ns, h1, h2⟩ := anyB_map q
      exact ⟨b :: ns, by rw [h1]; rfl, by rw [h2]; rfl⟩
  | .v .non :: _, _, e => by cases e
  | .v (.int _) :: _, _, e => by cases e
  | .v (.str _) :: _, _, e => by cases e
  | .v (.tup _) :: _, _, e => by cases e
  | .v (.lst _) :: _, _, e => by cases e
  | .v (.clst _) :: _, _, e => by cases e
  | .v (.dct _ _) :: _, _, e => by cases e
  | .v (.ins _ _) :: _, _, e => by cases e
  | .v (.cls _) :: _, _, e => by cases e
  | .ref _ :: _, _, e => by cases e
theorem reps_bls {G : GD} : ∀ {ns : List Bool} {us : List V}, RepSs G ι H (ns.map (fun n => SV.v (.bl n))) us → us = ns.map V.bl
  | [], _, .nil => rfl
  | n :: r, _, .cons h t => by rw [rep_bl h, reps_bls t]; rfl
theorem seq_len {s : PS} {G : GD} {xs : List SV} (S : Sim G ι s H) (r : RepS G ι H x u) (e : seqOf x s = some xs) : ∃ a us, u = .ref a ∧ RepSs G ι H xs us ∧ (SqL G.K H a us ∨ SqT G.K H a us) := by
  obtain ⟨a, us, h1, h2, h3, _⟩ := seq_rep S r e
  exact ⟨a, us, h1, h2, h3⟩

theorem txt_int (i : Int) : txt (intText i) = Str.ofString (toString i) := by
  unfold txt intText
  cases Str.ofString (toString i)
  simp
theorem txt_tl (x : Str) : txt x.cps.toList = x := by
  cases x
  unfold txt
  simp
theorem txt_tl2 (x : List Nat) : TL.tl (txt x) = x := rfl
mutual
theorem toD_nodict : ∀ {x : PV} {d : PyData}, toD x = some d → d.hasDict = false
  | .non, _, e => by cases e; rfl
  | .bl _, _, e => by cases e; rfl
  | .int _, _, e => by cases e; rfl
  | .str _, _, e => by cases e; rfl
  | .tup xs, _, e => by
    rw [toD] at e
    cases q : toDs xs with
    | none => rw [q] at e; cases e
    | some ds => rw [q] at e; cases e; exact toDs_nodict q
  | .lst xs, _, e => by
    rw [toD] at e
    cases q : toDs xs with
    | none => rw [q] at e; cases e
    | some ds => rw [q] at e; cases e; exact toDs_nodict q
  | .clst xs, _, e => by
    rw [toD] at e
    cases q : toDs xs with
    | none => rw [q] at e; cases e
    | some ds => rw [q] at e; cases e; exact toDs_nodict q
  | .dct _ _, _, e => by cases e
  | .ins _ _, _, e => by cases e
  | .cls _, _, e => by cases e
theorem toDs_nodict : ∀ {xs : List PV} {ds : List PyData}, toDs xs = some ds → PyData.hasDictAll ds = false
  | [], _, e => by cases e; rfl
  | x :: r, _, e => by
    rw [toDs] at e
    cases q : toD x with
    | none => rw [q] at e; cases e
    | some d =>
      cases q2 : toDs r with
      | none => rw [q, q2] at e; cases e
      | some ds =>
        rw [q, q2] at e; cases e
        rw [PyData.hasDictAll, toD_nodict q, toDs_nodict q2]; rfl
end
/-- a call whose answer is a text -/
theorem call_s (w : Wk X D C L W) (a : At X L A) (I : Inv X pins τ H s) (S : Sim (D.G X.K) ι st H) {d : Nat} {args : List SV} {us : List V} {vals : List Value} (r : RepSs (D.G X.K) ι H args us) (rv : Vals us vals)
    (h : Post (D.G X.K) ((C d args st).bind fun r s1 => match r with
      | .v (.str x) => .ok (.v (.str x)) s1
      | _ => .bad) ι H (FV (D.G X.K) Q) (WE W τ)) : wpAny (model X.prog X.w) A (call (.ref (D.fa d)) vals) (PySem.W.StrBack (EP X pins τ Q)) X.xe s := by
  have h2 := h.bind
  refine thn (call_c (Q := fun z H' => ∃ k, z = .str k ∧ Q z H') w a I S r rv ?_) fun z s' hz => ?_
  · refine h2.imp fun q s' ι' H' e' S' hq u hu => ?_
    split at hq
    · rename_i k
      have hq' := hq.now S' u hu
      obtain ⟨rfl, _⟩ := rep_str hu
      exact ⟨_, rfl, hq'⟩
    · exact hq.elim
  · obtain ⟨z', H', I', rz, k, rfl, hF⟩ := hz
    have rz' := rz
    obtain ⟨t, rfl⟩ := rz
    exact ⟨_, H', I', rz', hF⟩

theorem str_ok (w : Wk X D C L W) (I : Inv X pins τ H s) (S : Sim (D.G X.K) ι st H) (r : RepS (D.G X.K) ι H x u) (rv : RelV u v)
    (h : Post (D.G X.K) (strS D.T C x st) ι H (FV (D.G X.K) Q) (WE W τ)) : wpAny (model X.prog X.w) X.A (call (.type "str") [v]) (EP X pins τ Q) X.xe s := by
  unfold strS at h
  split at h
  · rename_i i
    cases rep_int r
    split at h
    · rename_i hl
      have hl1 : i.natAbs.log2 < 1900 := hl.1
      refine call_str_int pins s τ H _ _ Q I (.cons rv .nil) ⟨i, rfl, by omega, ?_⟩
      have := ep_q S h (.str _ hl.2)
      rw [txt_int] at this
      exact this
    · exact h.elim
  · obtain ⟨rfl, hl⟩ := rep_str r
    exact SkE.call_str_str pins s τ H _ _ Q I (.cons rv .nil) ⟨_, rfl, ep_q S h (.str _ hl)⟩
  · rename_i c fs
    split at h
    · rename_i d hm
      obtain ⟨ci, p, dx, us, rfl, ⟨hc, hx⟩, e, hn, hl, hr⟩ := rep_ins r
      cases rv
      obtain ⟨ox, od, J⟩ := inst_of I e
      have cf := w.fa.cls c ci hc hx
      have me := (cf.meth _ (methOf_in hc hm)).1
      have hat := me.at_
      rw [show D.nm aStr = "__str__" from w.fa.nm.2.2.2.2.2.2.2.1] at hat
      have hu : X.A.in1.in1.units < cLine := by have := w.at_.room.in1.in1.un; omega
      exact PySem.W.kso_call hu I.kIn J hat me.fn (call_s w (w.at_.in1.in1.mono (Nat.le_succ L)) I S (args := [.v (.ins c fs)]) (us := [.ref p]) (.cons r .nil) (.cons rfl .nil) h)
    · exact h.elim
  · exact h.elim

theorem bi_ok (w : Wk X D C L W) (I : Inv X pins τ H s) (S : Sim (D.G X.K) ι st H) (b : Bi) (hb : ∀ q ts, b ≠ .isinst q ts) {fr : Bool} {args : List SV} {us : List V} {vals : List Value} (r : RepSs (D.G X.K) ι H args us) (rv : Vals us vals)
    (h : Post (D.G X.K) (bi2 D.T C b fr args st) ι H (FV (D.G X.K) Q) (WE W τ)) : wpAny (model X.prog X.w) X.A (call (biV b) vals) (EP X pins τ Q) X.xe s := by
  have own : ∀ {c m d : Nat} {fs : List PV} {u : V} {n : Str}, RepS (D.G X.K) ι H (.v (.ins c fs)) u → methOf D.T c m = some d → D.nm m = n →
      ∃ p ox od, u = .ref p ∧ PySem.W.InstAt s.heap p ox (D.ca c) od ∧ PySem.W.findIn X.K (.ref (D.ca c)) n = some (some (.ref (D.fa d))) ∧ PySem.W.isFn X.K (.ref (D.fa d)) = true := by
    intro c m d fs u n r hm hn
    obtain ⟨ci, p, dx, us, rfl, ⟨hc, hx⟩, e, _, _, _⟩ := rep_ins r
    obtain ⟨ox, od, J⟩ := inst_of I e
    have me := ((w.fa.cls c ci hc hx).meth _ (methOf_in hc hm)).1
    have hat := me.at_
    rw [hn] at hat
    exact ⟨p, ox, _, rfl, J, hat, me.fn⟩
  unfold bi2 at h
  split at h
  · -- len text
    obtain ⟨u, rfl, r1⟩ := repS1 r
    obtain ⟨rfl, hl⟩ := rep_str r1
    exact call_len_str pins s τ H _ _ Q I rv ⟨_, rfl, lim_line hl, ep_q S h (.int _)⟩
  · -- len seq
    obtain ⟨u, rfl, r1⟩ := repS1 r
    split at h
    · rename_i xs hxs
      obtain ⟨a, us, rfl, q, hq⟩ := seq_len S r1 hxs
      refine call_len_seq pins s τ H _ _ Q I rv ⟨a, us, rfl, hq, ?_⟩
      have := ep_q S h (.int _)
      rw [q.length] at this
      exact this
    · exact h.elim
  · -- abs int
    obtain ⟨u, rfl, r1⟩ := repS1 r
    cases rep_int r1
    exact call_abs pins s τ H _ _ Q I rv ⟨_, rfl, ep_q S h (.int _)⟩
  · -- abs own
    obtain ⟨u, rfl, r1⟩ := repS1 r
    split at h
    · rename_i d hm
      obtain ⟨p, ox, od, rfl, J, hat, hf⟩ := own r1 hm w.fa.nm.2.2.2.2.2.1
      have rv0 := rv
      cases rv with
      | cons r1v rt =>
        cases rt
        cases r1v
        exact abs_own I.kIn J hat hf (call_c w (w.at_.in1.mono (by omega)) I S (.cons r1 .nil) rv0 h)
    · exact h.elim
  · obtain ⟨u, rfl, r1⟩ := repS1 r
    cases rep_int r1
    exact call_int1 pins s τ H _ _ Q I rv (.inl ⟨_, rfl, ep_q S h (.int _)⟩)
  · obtain ⟨u, rfl, r1⟩ := repS1 r
    obtain ⟨rfl, hl⟩ := rep_str r1
    split at h
    · rename_i hl6
      split at h
      · rename_i i hi
        exact call_int_str pins s τ H _ _ Q I rv ⟨_, i, rfl, hi, hl6, ep_q S h (.int _)⟩
      · exact h.elim
    · exact h.elim
  · obtain ⟨u, rfl, r1⟩ := repS1 r
    cases rv with
    | cons r1v rt =>
      cases rt
      exact str_ok w I S r1 r1v h
  · obtain ⟨u, rfl, r1⟩ := repS1 r
    cases rep_int r1
    exact call_bool1 pins s τ H _ _ Q I rv (.inl ⟨_, rfl, ep_q S h (.bl _)⟩)
  · obtain ⟨u, rfl, r1⟩ := repS1 r
    cases rep_bl r1
    exact call_bool1 pins s τ H _ _ Q I rv (.inr ⟨_, rfl, ep_q S h (.bl _)⟩)
  · -- bool own
    rename_i c fs
    obtain ⟨u, rfl, r1⟩ := repS1 r
    split at h
    · rename_i d hm
      obtain ⟨p, ox, od, rfl, J, hat, hf⟩ := own r1 hm w.fa.nm.2.2.2.2.2.2.1
      have rv0 := rv
      cases rv with
      | cons r1v rt =>
        cases rt
        cases r1v
        refine bool_by ?_
        obtain ⟨m, Fr'⟩ := I.fr
        refine PySem.W.truthy_K Fr' I.ok.mod.kin J hat hf ?_
        have hp : Post (D.G X.K) ((C d [.v (.ins c fs)] st).bind fun r s1 => match r with
          | .v (.bl k) => .ok k s1
          | _ => .bad) ι H (fun k s' ι' H' => Q (.bl k) H') (WE W τ) := by
          revert h
          cases C d [.v (.ins c fs)] st with
          | bad => exact fun h => h
          | ex e s2 => exact fun h => h
          | ok z s2 =>
            intro h
            show Post _ (match z with
              | .v (.bl k) => Res.ok k s2
              | _ => .bad) _ _ _ _
            have h' : Post (D.G X.K) (match z with
              | .v (.bl k) => Res.ok (SV.v (.bl k)) s2
              | _ => .bad) ι H (FV (D.G X.K) Q) (WE W τ) := h
            split at h'
            · rename_i k
              exact fun ι' H' e' S' => h' ι' H' e' S' _ (.bl k)
            · exact h'.elim
        refine thn (call_b w ((w.at_.in1.in1.mono (Nat.le_succ L))) I S (.cons r1 .nil) rv0 hp) fun z s' hz => ?_
        obtain ⟨k, rfl, ι', st', H', I', _, _, hq⟩ := hz
        exact ⟨.bl k, H', I', rfl, hq⟩
    · exact h.elim
  · -- repr own
    obtain ⟨u, rfl, r1⟩ := repS1 r
    split at h
    · rename_i d hm
      obtain ⟨p, ox, od, rfl, J, hat, hf⟩ := own r1 hm w.fa.nm.2.2.2.2.2.2.2.2
      have rv0 := rv
      cases rv with
      | cons r1v rt =>
        cases rt
        cases r1v
        obtain ⟨m, Fr'⟩ := I.fr
        exact PySem.W.repr_K (by have := w.at_.room.in1.un; omega) Fr' I.ok.mod.kin J hat hf (call_s w (w.at_.in1.mono (by omega)) I S (.cons r1 .nil) rv0 h)
    · exact h.elim
  · -- repr data
    rename_i z _
    obtain ⟨u, rfl, r1⟩ := repS1 r
    split at h
    · rename_i t ht
      unfold shown at ht
      split at ht
      · rename_i d hd
        split at ht
        · rename_i hc
          cases ht
          simp only [Bool.and_eq_true, decide_eq_true_eq] at hc
          obtain ⟨⟨⟨h1, h2⟩, h3⟩, h4⟩ := hc
          cases rv with
          | cons r1v rt =>
            cases rt
            have dp := rep_dp hd r1
            obtain ⟨as, rd⟩ := Dp.reads I d _ _ dp r1v
            have isr : ∃ a, u = .ref a := by
              cases z <;> first | cases h1 | skip
              · obtain ⟨a, _, e, _⟩ := rep_tup r1; exact ⟨a, e⟩
              · obtain ⟨a, _, e, _⟩ := rep_lst r1; exact ⟨a, e⟩
              · obtain ⟨a, _, e, _⟩ := rep_clst r1; exact ⟨a, e⟩
            obtain ⟨a, rfl⟩ := isr
            cases r1v
            refine PySem.repr_of_reads' rd h2 (PyData.noDict_hsm (toD_nodict hd)) w.at_.gd (by have := w.units; omega) (fun _ _ e => e) (fun h' u tk hk => ?_) (lim_line h4)
            exact ⟨.str d.shown, H, I.kept hk, ⟨_, rfl⟩, by have := ep_q S h (.str _ h4); rw [txt_tl] at this; exact this⟩
        · cases ht
      · cases ht
    · exact h.elim
  · -- list
    obtain ⟨u, rfl, r1⟩ := repS1 r
    split at h
    · rename_i xs hxs
      obtain ⟨a, us, rfl, q, hq⟩ := seq_len S r1 hxs
      exact call_list_of pins s τ H _ _ Q I rv ⟨a, us, rfl, hq, (newL_q S q h).2⟩
    · exact h.elim
  · -- tuple of a tuple
    obtain ⟨u, rfl, r1⟩ := repS1 r
    have r1' := r1
    obtain ⟨a, us, rfl, hh, q⟩ := rep_tup r1
    exact call_tuple_of pins s τ H _ _ Q I rv ⟨a, us, rfl, .inr ⟨hh.sq, h.now S _ r1'⟩⟩
  · -- tuple of a list
    rename_i hnt
    obtain ⟨u, rfl, r1⟩ := repS1 r
    split at h
    · rename_i xs hxs
      obtain ⟨a, us, rfl, q, _, hq⟩ := seq_rep S r1 hxs
      rcases hq with ⟨⟨t, rfl⟩, _⟩ | ⟨_, hq⟩
      · exact absurd rfl (hnt t)
      · split at h
        · rename_i ys hys
          refine call_tuple_of pins s τ H _ _ Q I rv ⟨a, us, rfl, .inl ⟨hq, fun l hl => ?_⟩⟩
          exact ep_new S hl h fun ex nl => .tup (.inl ⟨.inl upd_same, nl⟩) ((RepSs.ofVs hys q).keep ex.stay)
        · exact h.elim
    · exact h.elim
  · exact h.elim
  · -- sum
    rename_i hnt
    obtain ⟨u, rfl, r1⟩ := repS1 r
    split at h
    · rename_i xs hxs
      split at h
      · rename_i i hi
        obtain ⟨ns, rfl, rfl⟩ := sumI_map hi
        obtain ⟨a, us, rfl, q, _, hq⟩ := seq_rep S r1 hxs
        cases reps_ints q
        rcases hq with ⟨⟨t, rfl⟩, _⟩ | ⟨_, hq⟩
        · exact absurd rfl (hnt t)
        · exact cr_sum w.calm pins s τ H _ _ Q I rv ⟨a, ns, rfl, hq, ep_q S h (.int _)⟩
      · exact h.elim
    · exact h.elim
  · -- all
    obtain ⟨u, rfl, r1⟩ := repS1 r
    obtain ⟨a, us, rfl, hh, _, q⟩ := rep_lst r1
    split at h
    · rename_i k hk
      obtain ⟨bs, hbs, rfl⟩ := allB_map hk
      have q' := q.toS
      rw [hbs] at q'
      cases reps_bls q'
      exact cr_all w.calm pins s τ H _ _ Q I rv ⟨a, bs, rfl, SqL.of hh, ep_q S h (.bl _)⟩
    · exact h.elim
  · -- any
    obtain ⟨u, rfl, r1⟩ := repS1 r
    obtain ⟨a, us, rfl, hh, _, q⟩ := rep_lst r1
    split at h
    · rename_i k hk
      obtain ⟨bs, hbs, rfl⟩ := anyB_map hk
      have q' := q.toS
      rw [hbs] at q'
      cases reps_bls q'
      exact cr_any w.calm pins s τ H _ _ Q I rv ⟨a, bs, rfl, SqL.of hh, ep_q S h (.bl _)⟩
    · exact h.elim
  · -- gcd
    obtain ⟨u, u', rfl, r1, r2⟩ := repS2 r
    cases rep_int r1
    cases rep_int r2
    exact cr_gcd pins s τ H _ _ Q I rv ⟨_, _, rfl, ep_q S h (.int _)⟩
  · exact absurd rfl (hb _ _)
  · exact h.elim
end
end Vm
set_option Elab.async false
set_option linter.all false
set_option maxRecDepth 100000
set_option maxHeartbeats 1000000
/-! Methods of built-in types, isinstance. -/
namespace Vm
open PySem PySem.Spec PyProof.Rows L2
open PySem.W (Looks)
section
variable {X : Cx} {D : Dat} {C : Calls} {L : Nat} {W : WX} {A : Around} {pins : List (Addr × Obj)} {τ : L2.St} {H : Hp} {s : Shared} {Q : VK} {ι : List Addr} {st : PS} {x y : SV} {u u' : V} {v v' : Value}
  {F : Bool → PS → List Addr → Hp → Prop}

def bmId : Bm → String
  | .split => "str.split" | .append => "list.append"

theorem repS0 {G : GD} {us : List V} (r : RepSs G ι H [] us) : us = [] := by cases r; rfl
theorem reps_strs {G : GD} : ∀ {l : List (List Nat)}, (∀ y ∈ l, y.length ≤ lim) → Reps G ι H (l.map PV.str) (l.map (fun y => V.str (txt y)))
  | [], _ => .nil
  | y :: r, h => .cons (.str y (h y List.mem_cons_self)) (reps_strs fun z hz => h z (List.mem_cons_of_mem _ hz))
theorem spl_le (S : List Nat) : ∀ (k : Nat) (acc l : List Nat), ∀ y ∈ TL.spl S k acc l, y.length ≤ acc.length + l.length
  | k, acc, [] => by
    rw [TL.spl_nil]
    intro y hy
    rw [List.mem_singleton] at hy
    subst hy
    exact Nat.le_add_right _ _
  | 0, acc, c :: r => by
    intro y hy
    unfold TL.spl at hy
    split at hy
    · rcases List.mem_cons.mp hy with rfl | hy
      · exact Nat.le_add_right _ _
      · have := spl_le S _ [] r y hy
        simp only [List.length_cons, List.length_nil] at this ⊢
        omega
    · have := spl_le S 0 (acc ++ [c]) r y hy
      simp only [List.length_append, List.length_cons, List.length_nil] at this ⊢
      omega
  | k + 1, acc, c :: r => by
    intro y hy
    unfold TL.spl at hy
    have := spl_le S k acc r y hy
    simp only [List.length_cons]
    omega

/-- an item is appended to the cell n -/
theorem apnd_ok {G : GD} {n : Nat} {s1 : PS} {a : Addr} (h1 : ι[n]? = some a) (S : Sim G ι st H) (r : RepS G ι H y u) (h : apnd n y st = some s1) :
    ∃ us, H a = some (.lst us) ∧ us.length < sizeLine ∧ Sim G ι s1 (upd H a (.lst (us ++ [u]))) ∧ Ext ι H ι (upd H a (.lst (us ++ [u]))) := by
  unfold apnd at h
  split at h
  · rename_i xs hxs
    obtain ⟨b, h2, us, h3, h4, h5⟩ := S.at_ n _ hxs
    rw [h1] at h2
    cases h2
    split at h
    · rename_i hlen
      have key : blw n y → Sim G ι (st.set n (.lst (xs ++ [y]))) (upd H a (.lst (us ++ [u]))) ∧ Ext ι H ι (upd H a (.lst (us ++ [u]))) := fun hb =>
        S.write (ho := .lst (us ++ [u])) (o := .lst (xs ++ [y])) h1 (S.ref_lt h1) fun e => ⟨_, upd_same, (h4.keep e).append (.cons (r.keep e) .nil), fun z hz => by
          rcases List.mem_append.mp hz with hz | hz
          · exact h5 z hz
          · rw [List.mem_singleton] at hz; subst hz; exact hb⟩
      refine ⟨us, h3, by rw [← h4.length]; exact lim_lt hlen, ?_⟩
      split at h
      · cases h; exact key trivial
      · split at h
        · rename_i hm
          cases h; exact key hm
        · cases h
    · cases h
  · cases h
theorem bm_ok (w : Wk X D C L W) (I : Inv X pins τ H s) (S : Sim (D.G X.K) ι st H) (b : Bm) {fr : Bool} {args : List SV} {us : List V} {vals : List Value} (r0 : RepS (D.G X.K) ι H x u) (rv0 : RelV u v) (r : RepSs (D.G X.K) ι H args us) (rv : Vals us vals)
    (h : Post (D.G X.K) (bm2 b fr x args st) ι H (FV (D.G X.K) Q) (WE W τ)) : wpAny (model X.prog X.w) X.A (call (.builtin (bmId b)) (v :: vals)) (EP X pins τ Q) X.xe s := by
  unfold bm2 at h
  split at h
  · rename_i z c
    obtain ⟨rfl, hl⟩ := rep_str r0
    obtain ⟨u1, rfl, r1⟩ := repS1 r
    obtain ⟨rfl, _⟩ := rep_str r1
    split at h
    · rename_i hc
      have hlz : (txt z).length + 2 ≤ sizeLine := by
        rw [txt_len]
        have : lim + 2 ≤ sizeLine := by decide
        omega
      refine mt_split pins s τ H _ _ v _ Q I rv0 rv ⟨_, _, rfl, rfl, rfl, hlz, ?_⟩
      have e1 : (Txt.split (txt z) (txt [c])).map TL.tl = TL.spl [c] 0 [] z := TL.split_spl (txt z) (txt [c]) (by simp [TL.tl, txt]) (TL.kind_ok (by simp [txt, hc]))
      have e2 : Txt.split (txt z) (txt [c]) = (TL.spl [c] 0 [] z).map txt := by
        rw [← e1, List.map_map]
        conv => lhs; rw [← List.map_id (Txt.split (txt z) (txt [c]))]
        refine List.map_congr_left fun y _ => ?_
        exact (txt_tl y).symm
      have hreps : RepSs (D.G X.K) ι H ((TL.spl [c] 0 [] z).map fun y => SV.v (.str y)) ((TL.spl [c] 0 [] z).map (fun y => V.str (txt y))) := by
        have q := (reps_strs (G := D.G X.K) (ι := ι) (H := H) (l := TL.spl [c] 0 [] z) fun y hy => by
          have := spl_le [c] 0 [] z y hy
          simp only [List.length_nil, Nat.zero_add] at this
          exact Nat.le_trans this hl).toS
        rw [List.map_map] at q
        exact q
      intro p hp
      have := (newL_q S hreps h).2 p hp
      rw [e2, List.map_map]
      exact this
    · exact h.elim
  · rename_i n y
    split at h
    · rename_i s1 hap
      obtain ⟨u1, rfl, r1⟩ := repS1 r
      obtain ⟨a, h1, rfl⟩ := r0
      obtain ⟨us, h3, hlen, S2, e2⟩ := apnd_ok h1 S r1 hap
      refine mt_append pins s τ H _ _ v _ Q I rv0 rv ⟨a, us, u1, rfl, rfl, h3, hlen, ?_⟩
      exact h ι _ e2 S2 _ .non
    · exact h.elim
  · exact h.elim

/-- isinstance(x, T), isinstance(x, (T1, ..)) -/
theorem isi_one (w : Wk X D C L W) (I : Inv X pins τ H s) (S : Sim (D.G X.K) ι st H) {t : Ty} {k : Bool} {vt : Value} (ht : okTy D t) (r : RepS (D.G X.K) ι H x u) (rv : RelV u v) (rt : RelV (tyV1 D t) vt) (hk : isAny D.T x st [t] = some k) (q : Q (.bl k) H) :
    wpAny (model X.prog X.w) X.A (call (.builtin "isinstance") [v, vt]) (EP X pins τ Q) X.xe s := by
  have h0 : isTy D.T x st t = some k := by
    unfold isAny at hk
    cases e : isTy D.T x st t with
    | none => rw [e] at hk; cases hk
    | some b =>
      rw [e] at hk
      cases b with
      | true => cases hk; rfl
      | false => simp only [isAny] at hk; cases hk; rfl
  obtain ⟨tv, T, kt⟩ := tyx_of w S r h0
  exact call_isi pins s τ H _ _ Q I (.cons rv (.cons rt .nil)) ⟨u, tyV1 D t, tv, tyVal D t, k, rfl, clsV_ty t, T, kt t k ht h0, q⟩
theorem paired_ty {ts : List Ty} : Paired ClsV (ts.map (tyV1 D)) (ts.map (tyVal D)) := by
  induction ts with
  | nil => exact .nil
  | cons t ts ih => exact .cons (clsV_ty t) ih
theorem isi_many (w : Wk X D C L W) (I : Inv X pins τ H s) (S : Sim (D.G X.K) ι st H) {t : Ty} {ts : List Ty} {k : Bool} {vt : Value} {tp : Addr} (ht : ∀ z ∈ t :: ts, okTy D z) (r : RepS (D.G X.K) ι H x u) (rv : RelV u v) (hT : H tp = some (.tup ((t :: ts).map (tyV1 D)))) (rt : RelV (.ref tp) vt)
    (hk : isAny D.T x st (t :: ts) = some k) (q : Q (.bl k) H) :
    wpAny (model X.prog X.w) X.A (call (.builtin "isinstance") [v, vt]) (EP X pins τ Q) X.xe s := by
  obtain ⟨tv, T, kt⟩ := isAny_kit w S r ht hk
  exact call_isiT pins s τ H _ _ Q I (.cons rv (.cons rt .nil)) ⟨u, tp, _, tv, _, k, rfl, hT, paired_ty, T, kt, q⟩
end
end Vm
set_option Elab.async false
set_option linter.all false
set_option maxRecDepth 100000
set_option maxHeartbeats 1000000
/-! Expressions: the judgements, rule by rule. -/
namespace Vm
open PySem PySem.Spec PyProof.Rows L2
open PySem.W (Looks)

def tE (X : Cx) (D : Dat) (C : Calls) (W : WX) (m : E) : TE := fun τ H Q => ∃ ι st σ, Sim (D.G X.K) ι st H ∧ SRel (D.G X.K) ι H σ τ ∧ Post (D.G X.K) (evE D.T C m σ st) ι H (FV (D.G X.K) Q) (WE W τ)
def tL (X : Cx) (D : Dat) (C : Calls) (W : WX) (ms : List E) : TA := fun τ H Q => ∃ ι st σ, Sim (D.G X.K) ι st H ∧ SRel (D.G X.K) ι H σ τ ∧
  Post (D.G X.K) (evEs D.T C ms σ st) ι H (fun xs _ ι' H' => ∀ us, RepSs (D.G X.K) ι' H' xs us → Q us H') (WE W τ)
def tT (X : Cx) (D : Dat) (C : Calls) (W : WX) (b : B) : TT := fun τ H Q => ∃ ι st σ, Sim (D.G X.K) ι st H ∧ SRel (D.G X.K) ι H σ τ ∧ Post (D.G X.K) (evB D.T C b σ st) ι H (fun k _ _ H' => Q k H') (WE W τ)
abbrev PEv (X : Cx) (D : Dat) (C : Calls) (W : WX) (e : Expr) (m : E) : Prop := PE X e (tE X D C W m)
abbrev PLv (X : Cx) (D : Dat) (C : Calls) (W : WX) (es : List Expr) (ms : List E) : Prop := PA X es (tL X D C W ms)
abbrev PTv (X : Cx) (D : Dat) (C : Calls) (W : WX) (e : Expr) (b : B) : Prop := PT X e (tT X D C W b)
/-- a test whatever its whole is -/
abbrev PWv (X : Cx) (D : Dat) (C : Calls) (W : WX) (e : Expr) (b : B) : Prop := PW X e (tT X D C W b)

section
variable {X : Cx} {D : Dat} {C : Calls} {L : Nat} {W : WX} {pins : List (Addr × Obj)} {τ : L2.St} {H : Hp} {s : Shared} {Q : VK} {ι : List Addr} {st : PS} {σ : Sl} {x y : SV} {u u' : V} {v v' : Value}
  {α β : Type} {F : β → PS → List Addr → Hp → Prop} {e a b : Expr} {es : List Expr} {m ma mb : E} {ms : List E} {pos : Pos} {k : SV → PS → Res β}

theorem evEs_len {T : Tab} {C : Calls} {σ : Sl} : ∀ {ms : List E} {st : PS} {xs : List SV} {s' : PS}, evEs T C ms σ st = .ok xs s' → xs.length = ms.length
  | [], _, _, _, h => by rw [evEs] at h; cases h; rfl
  | e :: r, st, _, _, h => by
    rw [evEs] at h
    cases he : evE T C e σ st with
    | bad => rw [he] at h; cases h
    | ex _ _ => rw [he] at h; cases h
    | ok x s1 =>
      rw [he] at h
      have h' : ((evEs T C r σ s1).bind fun xs s2 => Res.ok (x :: xs) s2) = _ := h
      cases hr : evEs T C r σ s1 with
      | bad => rw [hr] at h'; cases h'
      | ex _ _ => rw [hr] at h'; cases h'
      | ok xs s2 =>
        rw [hr] at h'
        cases h'
        exact congrArg (· + 1) (evEs_len hr)
theorem Post.impE {G : GD} {α : Type} {r : Res α} {E : XK} {F F' : α → PS → List Addr → Hp → Prop} (h : Post G r ι H F E) (k : ∀ x s' ι' H', r = .ok x s' → Ext ι H ι' H' → Sim G ι' s' H' → F x s' ι' H' → F' x s' ι' H') : Post G r ι H F' E := by
  cases r with
  | ok x s' => exact fun ι' H' e' S => k _ _ _ _ rfl e' S (h ι' H' e' S)
  | ex x s' => exact h
  | bad => exact h
/-- behind an expression -/
structure GoV (X : Cx) (D : Dat) (W : WX) (pins : List (Addr × Obj)) (τ : L2.St) (σ : Sl) (ι : List Addr) (H : Hp) (k : SV → PS → Res β) (F : β → PS → List Addr → Hp → Prop) (u : Value) (s1 : Shared)
    (v : V) (H1 : Hp) (ι1 : List Addr) (st1 : PS) (x : SV) : Prop where
  I : Inv X pins τ H1 s1
  rv : RelV v u
  e : Ext ι H ι1 H1
  S : Sim (D.G X.K) ι1 st1 H1
  r : RepS (D.G X.K) ι1 H1 x v
  R : SRel (D.G X.K) ι1 H1 σ τ
  p : Post (D.G X.K) (k x st1) ι1 H1 F (WE W τ)
theorem go (h : PEv X D C W e m) (I : Inv X pins τ H s) (S : Sim (D.G X.K) ι st H) (R : SRel (D.G X.K) ι H σ τ) (hp : Post (D.G X.K) ((evE D.T C m σ st).bind k) ι H F (WE W τ)) :
    wpAny (model X.prog X.w) X.A (eval e X.env) (fun u s1 => ∃ v H1 ι1 st1 x, GoV X D W pins τ σ ι H k F u s1 v H1 ι1 st1 x) X.xe s := by
  refine thn (h.run pins s τ H (fun v H1 => ∃ ι1 st1 x, Ext ι H ι1 H1 ∧ Sim (D.G X.K) ι1 st1 H1 ∧ RepS (D.G X.K) ι1 H1 x v ∧ Post (D.G X.K) (k x st1) ι1 H1 F (WE W τ)) I ⟨ι, st, σ, S, R, ?_⟩) fun u s1 hu => ?_
  · exact hp.bind.imp fun x s' ι' H' e' S' q v hv => ⟨ι', s', x, e', S', hv, q⟩
  · obtain ⟨v, H1, I1, rv, ι1, st1, x, e1, S1, r1, p1⟩ := hu
    exact ⟨v, H1, ι1, st1, x, I1, rv, e1, S1, r1, R.keep e1, p1⟩
structure GoL (X : Cx) (D : Dat) (W : WX) (nn : Nat) (pins : List (Addr × Obj)) (τ : L2.St) (σ : Sl) (ι : List Addr) (H : Hp) (k : List SV → PS → Res β) (F : β → PS → List Addr → Hp → Prop) (us : List Value) (s1 : Shared)
    (vs : List V) (H1 : Hp) (ι1 : List Addr) (st1 : PS) (xs : List SV) : Prop where
  I : Inv X pins τ H1 s1
  rv : Vals vs us
  e : Ext ι H ι1 H1
  S : Sim (D.G X.K) ι1 st1 H1
  r : RepSs (D.G X.K) ι1 H1 xs vs
  len : xs.length = nn
  R : SRel (D.G X.K) ι1 H1 σ τ
  p : Post (D.G X.K) (k xs st1) ι1 H1 F (WE W τ)
theorem goL {kl : List SV → PS → Res β} (h : PLv X D C W es ms) (pos : Pos) (I : Inv X pins τ H s) (S : Sim (D.G X.K) ι st H) (R : SRel (D.G X.K) ι H σ τ) (hp : Post (D.G X.K) ((evEs D.T C ms σ st).bind kl) ι H F (WE W τ)) :
    wpAny (model X.prog X.w) X.A (spliced (backTo pos (starEach es X.env))) (fun us s1 => ∃ vs H1 ι1 st1 xs, GoL X D W ms.length pins τ σ ι H kl F us s1 vs H1 ι1 st1 xs) X.xe s := by
  refine thn (h.run pos pins s τ H (fun v H1 => ∃ ι1 st1 x, Ext ι H ι1 H1 ∧ Sim (D.G X.K) ι1 st1 H1 ∧ RepSs (D.G X.K) ι1 H1 x v ∧ x.length = ms.length ∧ Post (D.G X.K) (kl x st1) ι1 H1 F (WE W τ)) I ⟨ι, st, σ, S, R, ?_⟩) fun u s1 hu => ?_
  · exact hp.bind.impE fun x s' ι' H' eq e' S' q v hv => ⟨ι', s', x, e', S', hv, evEs_len eq, q⟩
  · obtain ⟨v, H1, I1, rv, ι1, st1, x, e1, S1, r1, l1, p1⟩ := hu
    exact ⟨v, H1, ι1, st1, x, I1, rv, e1, S1, r1, l1, R.keep e1, p1⟩
structure GoB (X : Cx) (D : Dat) (W : WX) (pins : List (Addr × Obj)) (τ : L2.St) (σ : Sl) (ι : List Addr) (H : Hp) (k : Bool → PS → Res β) (F : β → PS → List Addr → Hp → Prop) (c : Bool) (s1 : Shared)
    (H1 : Hp) (ι1 : List Addr) (st1 : PS) : Prop where
  I : Inv X pins τ H1 s1
  e : Ext ι H ι1 H1
  S : Sim (D.G X.K) ι1 st1 H1
  R : SRel (D.G X.K) ι1 H1 σ τ
  p : Post (D.G X.K) (k c st1) ι1 H1 F (WE W τ)
theorem goT {kb : Bool → PS → Res β} {bt : B} (h : PTv X D C W e bt) (I : Inv X pins τ H s) (S : Sim (D.G X.K) ι st H) (R : SRel (D.G X.K) ι H σ τ) (hp : Post (D.G X.K) ((evB D.T C bt σ st).bind kb) ι H F (WE W τ)) :
    wpAny (model X.prog X.w) X.A (isTrue e X.env (eval e X.env)) (fun c s1 => ∃ H1 ι1 st1, GoB X D W pins τ σ ι H kb F c s1 H1 ι1 st1) X.xe s := by
  refine thn (h.run pins s τ H (fun c H1 => ∃ ι1 st1, Ext ι H ι1 H1 ∧ Sim (D.G X.K) ι1 st1 H1 ∧ Post (D.G X.K) (kb c st1) ι1 H1 F (WE W τ)) I ⟨ι, st, σ, S, R, ?_⟩) fun c s1 hu => ?_
  · exact hp.bind.imp fun x s' ι' H' e' S' q => ⟨ι', s', e', S', q⟩
  · obtain ⟨H1, I1, ι1, st1, e1, S1, p1⟩ := hu
    exact ⟨H1, ι1, st1, I1, e1, S1, R.keep e1, p1⟩
/-- behind the truth of a value -/
theorem goTr {kb : Bool → PS → Res β} (w : Wk X D C L W) (I : Inv X pins τ H s) (S : Sim (D.G X.K) ι st H) (R : SRel (D.G X.K) ι H σ τ) (r : RepS (D.G X.K) ι H x u) (rv : RelV u v) (hp : Post (D.G X.K) ((truthS D.T C x st).bind kb) ι H F (WE W τ)) :
    wpAny (model X.prog X.w) X.A (truthy v) (fun c s1 => ∃ H1 ι1 st1, GoB X D W pins τ σ ι H kb F c s1 H1 ι1 st1) X.xe s := by
  refine thn (truth_ok (F := fun c st1 ι1 H1 => Post (D.G X.K) (kb c st1) ι1 H1 F (WE W τ)) w I S r rv hp.bind) fun c s1 hu => ?_
  obtain ⟨ι1, st1, H1, I1, e1, S1, p1⟩ := hu
  exact ⟨H1, ι1, st1, I1, e1, S1, R.keep e1, p1⟩
theorem goC {kb : Bool → PS → Res β} (w : Wk X D C L W) (o : Cm) (I : Inv X pins τ H s) (S : Sim (D.G X.K) ι st H) (R : SRel (D.G X.K) ι H σ τ) (r : RepS (D.G X.K) ι H x u) (rv : RelV u v) (r' : RepS (D.G X.K) ι H y u') (rv' : RelV u' v') (hp : Post (D.G X.K) ((cmp2 D.T C o x y st).bind kb) ι H F (WE W τ)) :
    wpAny (model X.prog X.w) X.A (compareOp (cop o) v v') (fun z s1 => ∃ c H1 ι1 st1, z = .bool c ∧ GoB X D W pins τ σ ι H kb F c s1 H1 ι1 st1) X.xe s := by
  refine thn (cmp_ok (F := fun c st1 ι1 H1 => Post (D.G X.K) (kb c st1) ι1 H1 F (WE W τ)) w I S o r rv r' rv' hp.bind) fun z s1 hu => ?_
  obtain ⟨c, rfl, ι1, st1, H1, I1, e1, S1, p1⟩ := hu
  exact ⟨c, H1, ι1, st1, rfl, I1, e1, S1, R.keep e1, p1⟩
theorem res_id {α : Type} (r : Res α) : (r.bind fun c s => .ok c s) = r := by cases r <;> rfl
/-- an end -/
theorem fin_b {c : Bool} (I : Inv X pins τ H s) (S : Sim (D.G X.K) ι st H) (h : Post (D.G X.K) (.ok (.v (.bl c)) st) ι H (FV (D.G X.K) Q) (WE W τ)) : EP X pins τ Q (.bool c) s := ep_now I S h (.bl c) rfl
theorem fin_v (I : Inv X pins τ H s) (S : Sim (D.G X.K) ι st H) (h : Post (D.G X.K) (.ok x st) ι H (FV (D.G X.K) Q) (WE W τ)) (r : RepS (D.G X.K) ι H x u) (rv : RelV u v) : EP X pins τ Q v s := ⟨u, H, I, rv, h.now S u r⟩

/-! ### leaves -/
theorem pv_var {i : Nat} {n : Str} (hN : X.N[i]? = some n) (hv : Vis X.env.scope n) (hd : (n == ("__debug__" : Str)) = false) (hcd : (n == ("__classdict__" : Str)) = false) : PEv X D C W (.Name n pos) (.var i) := by
  refine ⟨fun pins s τ H Q I h => ?_⟩
  obtain ⟨ι, st, σ, S, R, h⟩ := h
  rw [evE] at h
  split at h
  · rename_i x hx
    obtain ⟨u, h1, h2, _⟩ := R.2 i x hx
    exact (pe_var hN hv hd hcd).run pins s τ H Q I ⟨u, h1, h.now S u h2⟩
  · exact h.elim
theorem pv_int {i : Int} {j : Nat} : PEv X D C W (.Constant (.int i) j pos) (.cst (.int i)) :=
  ⟨fun pins s τ H Q I h => by
    obtain ⟨ι, st, σ, S, R, h⟩ := h
    rw [evE] at h
    exact pe_int.run pins s τ H Q I (ep_q S h (.int i))⟩
theorem pv_bl {c : Bool} {j : Nat} : PEv X D C W (.Constant (.bool c) j pos) (.cst (.bl c)) :=
  ⟨fun pins s τ H Q I h => by
    obtain ⟨ι, st, σ, S, R, h⟩ := h
    rw [evE] at h
    exact pe_bl.run pins s τ H Q I (ep_q S h (.bl c))⟩
theorem pv_non {j : Nat} : PEv X D C W (.Constant .none j pos) (.cst .non) :=
  ⟨fun pins s τ H Q I h => by
    obtain ⟨ι, st, σ, S, R, h⟩ := h
    rw [evE] at h
    exact pe_non.run pins s τ H Q I (ep_q S h .non)⟩
theorem pv_str {z : Str} {x : List Nat} {j : Nat} (e : z = txt x) (hl : x.length ≤ lim) : PEv X D C W (.Constant (.str z) j pos) (.cst (.str x)) :=
  ⟨fun pins s τ H Q I h => by
    obtain ⟨ι, st, σ, S, R, h⟩ := h
    rw [evE] at h
    subst e
    exact pe_str.run pins s τ H Q I (ep_q S h (.str x hl))⟩
/-- a module's constant -/
theorem pv_con {n : Str} {x : PV} {u : V} {v : Value} (hg : Gl X n) (hm : X.mg n = some v) (rv : RelV u v) (hr : ∀ ι H, Rep (D.G X.K) ι H x u) (hd : (n == ("__debug__" : Str)) = false) : PEv X D C W (.Name n pos) (.cst x) :=
  ⟨fun pins s τ H Q I h => by
    obtain ⟨ι, st, σ, S, R, h⟩ := h
    rw [evE] at h
    exact (pe_glob hg hm rv hd).run pins s τ H Q I (ep_q S h (hr ι H))⟩

/-! ### operators -/
theorem pv_op (w : Wk X D C L W) (o : Op2) (ha : PEv X D C W a ma) (hb : PEv X D C W b mb) : PEv X D C W (.BinOp a (opr o) b pos) (.op o ma mb) := by
  refine ⟨fun pins s τ H Q I h => ?_⟩
  obtain ⟨ι, st, σ, S, R, h⟩ := h
  rw [evE] at h
  refine wpAny_BinOp (thn (go ha I S R h) fun v s1 ⟨_, _, _, _, _, g⟩ => thn (go hb g.I g.S g.R g.p) fun v' s2 ⟨_, _, _, _, _, g'⟩ => ?_)
  exact bin_ok w (w.at_.mono (by omega)) rfl g'.I g'.S o (g.r.keep g'.e) g.rv g'.r g'.rv g'.p
theorem pv_cmp (w : Wk X D C L W) (o : Cm) (ha : PEv X D C W a ma) (hb : PEv X D C W b mb) (hm : behindInMarks (cop o) b = false) : PEv X D C W (.Compare a [cop o] [b] pos) (.cmp o ma mb) := by
  refine ⟨fun pins s τ H Q I h => ?_⟩
  obtain ⟨ι, st, σ, S, R, h⟩ := h
  rw [evE] at h
  refine wpAny_Compare1 (thn (go ha I S R h) fun v s1 ⟨_, _, _, _, _, g⟩ => thn (go hb g.I g.S g.R g.p) fun v' s2 ⟨_, _, _, _, _, g'⟩ => ?_) hm
  refine thn (goC w o g'.I g'.S g'.R (g.r.keep g'.e) g.rv g'.r g'.rv g'.p) fun z s3 hz => ?_
  obtain ⟨c, _, _, _, rfl, g2⟩ := hz
  exact fin_b g2.I g2.S g2.p
theorem pt_cmp2 (w : Wk X D C L W) (o : Cm) (ha : PEv X D C W a ma) (hb : PEv X D C W b mb) (hm : behindInMarks (cop o) b = false) : PWv X D C W (.Compare a [cop o] [b] pos) (.cmp o ma mb) := by
  refine ⟨fun whole pins s τ H Q I h => ?_⟩
  obtain ⟨ι, st, σ, S, R, h⟩ := h
  rw [evB] at h
  refine wpAny_isTrue_Compare1 (thn (go ha I S R h) fun v s1 ⟨_, _, _, _, _, g⟩ => thn (go hb g.I g.S g.R g.p) fun v' s2 ⟨_, _, _, _, _, g'⟩ => ?_) hm
  have h2 := g'.p
  rw [← res_id (cmp2 D.T C o _ _ _)] at h2
  refine thn (goC w o g'.I g'.S g'.R (g.r.keep g'.e) g.rv g'.r g'.rv h2) fun z s3 hz => ?_
  obtain ⟨c, _, _, _, rfl, g2⟩ := hz
  exact wpAny_truthy_bool ⟨_, g2.I, g2.p.now g2.S⟩
theorem pv_not (w : Wk X D C L W) (ha : PEv X D C W a ma) : PEv X D C W (.UnaryOp .Not a pos) (.not ma) := by
  refine ⟨fun pins s τ H Q I h => ?_⟩
  obtain ⟨ι, st, σ, S, R, h⟩ := h
  rw [evE] at h
  refine UnaryOp_ (thn (go ha I S R h) fun v s1 ⟨_, _, _, _, _, g⟩ => ?_)
  refine not_of (thn (goTr w g.I g.S g.R g.r g.rv g.p) fun c s2 ⟨_, _, _, g2⟩ => ?_)
  exact fin_b g2.I g2.S g2.p
theorem pv_neg (w : Wk X D C L W) (ha : PEv X D C W a ma) : PEv X D C W (.UnaryOp .USub a pos) (.neg ma) := by
  refine ⟨fun pins s τ H Q I h => ?_⟩
  obtain ⟨ι, st, σ, S, R, h⟩ := h
  rw [evE] at h
  refine UnaryOp_ (thn (go ha I S R h) fun v s1 ⟨_, _, _, _, _, g⟩ => ?_)
  have p := g.p
  split at p
  · have r := g.r
    have rv := g.rv
    cases rep_int r
    exact un_neg pins s1 τ _ _ _ Q g.I rv ⟨_, rfl, ep_q g.S p (.int _)⟩
  · rename_i c fs
    split at p
    · rename_i d hm
      have r := g.r
      have rv := g.rv
      obtain ⟨ci, q, dx, us, rfl, ⟨hc, hx⟩, e, hn, hl, hr⟩ := rep_ins r
      cases rv
      obtain ⟨ox, od, J⟩ := inst_of g.I e
      have me := ((w.fa.cls c ci hc hx).meth _ (methOf_in hc hm)).1
      have hat := me.at_
      rw [show D.nm aNeg = "__neg__" from w.fa.nm.2.2.2.2.1] at hat
      obtain ⟨m', Fr'⟩ := g.I.fr
      exact PySem.W.ksp_neg Fr' g.I.ok.mod.kin J hat me.fn (call_c w (w.at_.mono (by omega)) g.I g.S (args := [.v (.ins c fs)]) (us := [.ref q]) (.cons g.r .nil) (.cons rfl .nil) p)
    · exact p.elim
  · exact p.elim
theorem pv_and (w : Wk X D C L W) (ha : PEv X D C W a ma) (hb : PEv X D C W (.BoolOp .And (b :: es) pos) mb) : PEv X D C W (.BoolOp .And (a :: b :: es) pos) (.and ma mb) := by
  refine ⟨fun pins s τ H Q I h => ?_⟩
  obtain ⟨ι, st, σ, S, R, h⟩ := h
  rw [evE] at h
  refine BoolOp_and (thn (go ha I S R h) fun v s1 ⟨_, _, _, _, _, g⟩ => ?_)
  refine thn (goTr w g.I g.S g.R g.r g.rv g.p) fun c s2 ⟨H2, ι2, st2, g2⟩ => ?_
  cases c with
  | true => exact hb.run pins s2 τ _ Q g2.I ⟨ι2, st2, σ, g2.S, g2.R, g2.p⟩
  | false => exact fin_v g2.I g2.S g2.p (g.r.keep g2.e) g.rv
theorem pv_or (w : Wk X D C L W) (ha : PEv X D C W a ma) (hb : PEv X D C W (.BoolOp .Or (b :: es) pos) mb) : PEv X D C W (.BoolOp .Or (a :: b :: es) pos) (.or ma mb) := by
  refine ⟨fun pins s τ H Q I h => ?_⟩
  obtain ⟨ι, st, σ, S, R, h⟩ := h
  rw [evE] at h
  refine BoolOp_or (thn (go ha I S R h) fun v s1 ⟨_, _, _, _, _, g⟩ => ?_)
  refine thn (goTr w g.I g.S g.R g.r g.rv g.p) fun c s2 ⟨H2, ι2, st2, g2⟩ => ?_
  cases c with
  | false => exact hb.run pins s2 τ _ Q g2.I ⟨ι2, st2, σ, g2.S, g2.R, g2.p⟩
  | true => exact fin_v g2.I g2.S g2.p (g.r.keep g2.e) g.rv
theorem pv_one {op : BoolOp} (ha : PEv X D C W a ma) : PEv X D C W (.BoolOp op [a] pos) ma := ⟨fun pins s τ H Q I h => BoolOp_one (ha.run pins s τ H Q I h)⟩
theorem pv_ite {c : Expr} {bc : B} (hc : PTv X D C W c bc) (ha : PEv X D C W a ma) (hb : PEv X D C W b mb) : PEv X D C W (.IfExp c a b pos) (.ite bc ma mb) := by
  refine ⟨fun pins s τ H Q I h => ?_⟩
  obtain ⟨ι, st, σ, S, R, h⟩ := h
  rw [evE] at h
  refine wpAny_IfExp (thn (goT hc I S R h) fun k s1 ⟨H1, ι1, st1, g⟩ => ?_)
  have p := g.p
  cases k with
  | true => exact ha.run pins s1 τ _ Q g.I ⟨ι1, st1, σ, g.S, g.R, p⟩
  | false => exact hb.run pins s1 τ _ Q g.I ⟨ι1, st1, σ, g.S, g.R, p⟩

/-! ### tests -/
theorem pt_e (w : Wk X D C L W) (ha : PEv X D C W a ma) (he : ∀ whole, isTrue a X.env whole = (do let v ← whole; standAt a.pos; holding [v] (truthy v))) : PTv X D C W a (.e ma) := by
  refine ⟨fun pins s τ H Q I h => ?_⟩
  obtain ⟨ι, st, σ, S, R, h⟩ := h
  rw [evB] at h
  have h2 : Post (D.G X.K) ((evE D.T C ma σ st).bind fun x s1 => (truthS D.T C x s1).bind fun k s2 => .ok k s2) ι H (fun k _ _ H' => Q k H') (WE W τ) := by
    revert h
    cases evE D.T C ma σ st with
    | bad => exact fun z => z
    | ex _ _ => exact fun z => z
    | ok x s1 =>
      intro h
      show Post _ ((truthS D.T C x s1).bind _) _ _ _ _
      have h' : Post (D.G X.K) (truthS D.T C x s1) ι H (fun k _ _ H' => Q k H') (WE W τ) := h
      revert h'
      cases truthS D.T C x s1 <;> exact fun z => z
  refine isTrue_plain (thn (go ha I S R h2) fun v s1 ⟨_, _, _, _, _, g⟩ => ?_) (he _)
  refine thn (goTr w g.I g.S g.R g.r g.rv g.p) fun c s2 ⟨_, _, _, g2⟩ => ?_
  exact ⟨_, g2.I, g2.p.now g2.S⟩
theorem pw_and2 {ba bb : B} (ha : PTv X D C W a ba) (hb : PWv X D C W (.BoolOp .And (b :: es) pos) bb) : PWv X D C W (.BoolOp .And (a :: b :: es) pos) (.and ba bb) := by
  refine ⟨fun whole pins s τ H Q I h => ?_⟩
  obtain ⟨ι, st, σ, S, R, h⟩ := h
  rw [evB] at h
  refine isTrue_and (thn (goT ha I S R h) fun k s1 ⟨H1, ι1, st1, g⟩ => ?_)
  have p := g.p
  cases k with
  | true => exact hb.run whole pins s1 τ _ Q g.I ⟨ι1, st1, σ, g.S, g.R, p⟩
  | false => exact ⟨_, g.I, p.now g.S⟩
theorem pw_or2 {ba bb : B} (ha : PTv X D C W a ba) (hb : PWv X D C W (.BoolOp .Or (b :: es) pos) bb) : PWv X D C W (.BoolOp .Or (a :: b :: es) pos) (.or ba bb) := by
  refine ⟨fun whole pins s τ H Q I h => ?_⟩
  obtain ⟨ι, st, σ, S, R, h⟩ := h
  rw [evB] at h
  refine isTrue_or (thn (goT ha I S R h) fun k s1 ⟨H1, ι1, st1, g⟩ => ?_)
  have p := g.p
  cases k with
  | false => exact hb.run whole pins s1 τ _ Q g.I ⟨ι1, st1, σ, g.S, g.R, p⟩
  | true => exact ⟨_, g.I, p.now g.S⟩
theorem pw_andOne {ba : B} (ha : PTv X D C W a ba) : PWv X D C W (.BoolOp .And [a] pos) ba := pw_and1 ha
theorem pw_orOne {ba : B} (ha : PTv X D C W a ba) : PWv X D C W (.BoolOp .Or [a] pos) ba := pw_or1 ha
theorem pw_not2 {ba : B} (ha : PTv X D C W a ba) : PWv X D C W (.UnaryOp .Not a pos) (.not ba) := by
  refine ⟨fun whole pins s τ H Q I h => ?_⟩
  obtain ⟨ι, st, σ, S, R, h⟩ := h
  rw [evB] at h
  refine isTrue_not (thn (goT ha I S R h) fun k s1 ⟨H1, ι1, st1, g⟩ => ?_)
  exact ⟨_, g.I, g.p.now g.S⟩

/-! ### lists of expressions -/
theorem pl_nil : PLv X D C W [] [] := by
  refine ⟨fun pos pins s τ H Q I h => ?_⟩
  obtain ⟨ι, st, σ, S, R, h⟩ := h
  rw [evEs] at h
  exact Calls.spliced_nil ⟨[], H, I, .nil, h.now S [] .nil⟩
theorem pl_cons (ha : PEv X D C W a ma) (hr : PLv X D C W es ms) (hs : starEach (a :: es) X.env = (false, eval a X.env) :: starEach es X.env) : PLv X D C W (a :: es) (ma :: ms) := by
  refine ⟨fun pos pins s τ H Q I h => ?_⟩
  obtain ⟨ι, st, σ, S, R, h⟩ := h
  rw [evEs] at h
  rw [hs]
  show wpAny _ _ (spliced ((false, eval a X.env) :: backTo pos (starEach es X.env))) _ _ s
  refine Calls.spliced_cons (thn (go ha I S R h) fun v s1 ⟨_, _, _, _, _, g⟩ => ?_)
  refine thn (goL hr pos g.I g.S g.R g.p) fun vs s2 ⟨_, _, _, _, _, g2⟩ => ?_
  exact ⟨_, _, g2.I, .cons g.rv g2.rv, g2.p.now g2.S _ (.cons (g.r.keep g2.e) g2.r)⟩
theorem pv_tup {j : Nat} (h : PLv X D C W es ms) : PEv X D C W (.Tuple es j pos) (.tup ms) := by
  refine ⟨fun pins s τ H Q I hq => ?_⟩
  obtain ⟨ι, st, σ, S, R, hq⟩ := hq
  rw [evE] at hq
  refine wpAny_Tuple_spliced (thn (goL h pos I S R hq) fun us s1 ⟨vs, H1, ι1, st1, xs, g⟩ => ?_)
  have p := g.p
  split at p
  · rename_i ys hys
    split at p
    · rename_i hl
      have hlen : vs.length ≤ lim := by rw [← g.r.length, ← vs_len hys]; exact hl
      have z : us.length ≤ sizeLine := by rw [← g.rv.length]; exact lim_line hlen
      refine ⟨z, ?_⟩
      have hf : H1 s1.heap.objs.size = none := g.I.hok.fresh (Nat.le_refl _)
      refine ⟨.ref s1.heap.objs.size, upd H1 s1.heap.objs.size (.tup vs), g.I.laid (t' := s1.toks) (fun b u e => Heap.get?_push_of_some _ e) (Nat.le_refl _) ?_, rfl, ?_⟩
      · exact ⟨lim_line hlen, us, g.rv, ⟨_, Heap.get?_push_size _ rfl, rfl, _, rfl⟩⟩
      · exact ep_new g.S hf p fun ex nl => .tup (.inl ⟨.inl upd_same, nl⟩) ((RepSs.ofVs hys g.r).keep ex.stay)
    · exact p.elim
  · exact p.elim
theorem pv_lst {fr : Bool} (h : PLv X D C W es ms) : PEv X D C W (.List es pos) (.lst fr ms) := by
  refine ⟨fun pins s τ H Q I hq => ?_⟩
  obtain ⟨ι, st, σ, S, R, hq⟩ := hq
  rw [evE] at hq
  refine wpAny_List_spliced (thn (goL h pos I S R hq) fun us s1 ⟨vs, H1, ι1, st1, xs, g⟩ => ?_)
  obtain ⟨hl, hn⟩ := newL_q g.S g.r g.p
  refine ⟨by rw [← g.rv.length]; exact lim_line hl, ?_⟩
  have hf : H1 s1.heap.objs.size = none := g.I.hok.fresh (Nat.le_refl _)
  refine ⟨.ref s1.heap.objs.size, upd H1 s1.heap.objs.size (.lst vs), g.I.laid (t' := s1.toks) (fun b u e => Heap.get?_push_of_some _ e) (Nat.le_refl _) ?_, rfl, hn _ hf⟩
  exact ⟨lim_line hl, us, 0, g.rv, Heap.get?_push_size _ rfl⟩

theorem pv_edct : PEv X D C W (.Dict [] [] pos) .edct :=
  ⟨fun pins s τ H Q I h => by
    obtain ⟨ι, st, σ, S, R, h⟩ := h
    rw [evE] at h
    exact pe_dnewK.run pins s τ H Q I fun p hp => ep_new S hp h fun ex nl => .dct0 upd_same nl⟩

/-! ### items, slices, fields -/
theorem pv_idx (w : Wk X D C L W) (ha : PEv X D C W a ma) (hb : PEv X D C W b mb) (hs : ∀ v u, subscripted b false v u = operate [v, u] (getItem v u)) : PEv X D C W (.Subscript a b pos) (.idx ma mb) := by
  refine ⟨fun pins s τ H Q I h => ?_⟩
  obtain ⟨ι, st, σ, S, R, h⟩ := h
  rw [evE] at h
  refine Subscript_ (thn (go ha I S R h) fun v s1 ⟨_, _, _, _, _, g⟩ => thn (go hb g.I g.S g.R g.p) fun v' s2 ⟨_, _, _, _, _, g'⟩ => ?_)
  exact idx_ok w g'.I g'.S (g.r.keep g'.e) g.rv g'.r g'.rv g'.p (hs _ _)
theorem pv_fld (w : Wk X D C L W) {f : Nat} {n : Str} (hn : n = D.nm f) (ha : PEv X D C W a ma) (hb : attributeBase a n X.env (eval a X.env) = eval a X.env) : PEv X D C W (.Attribute a n pos) (.fld ma f) := by
  refine ⟨fun pins s τ H Q I h => ?_⟩
  obtain ⟨ι, st, σ, S, R, h⟩ := h
  rw [evE] at h
  refine attr_of hb ?_
  refine thn (go ha I S R h) fun v s1 hg => ?_
  obtain ⟨v1, H1, ι1, st1, x1, g⟩ := hg
  subst hn
  have p := g.p
  exact fld_ok w g.I g.S g.r g.rv p
end
end Vm
set_option Elab.async false
set_option linter.all false
set_option maxRecDepth 100000
set_option maxHeartbeats 1000000
/-! Expressions: calls. -/
namespace Vm
open PySem PySem.Spec PyProof.Rows L2
open PySem.W (Looks)

def plainE : Expr → Bool
  | .Starred _ _ => false
  | .Slice _ _ _ _ => false
  | _ => true
theorem star1 {e : Expr} {es : List Expr} {env : Env} (h : plainE e = true) : starEach (e :: es) env = (false, eval e env) :: starEach es env := by
  cases e <;> first | rfl | cases h
theorem star_no {es : List Expr} {env : Env} {pos : Pos} (h : es.all plainE = true) : (backTo pos (starEach es env)).any (·.1) = false := by
  induction es with
  | nil => rfl
  | cons e es ih =>
    rw [List.all_cons, Bool.and_eq_true] at h
    rw [star1 h.1]
    show (false || (backTo pos (starEach es env)).any (·.1)) = false
    rw [ih h.2]
    rfl
theorem star_all {es : List Expr} {env : Env} {pos : Pos} (h : es.all plainE = true) : (backTo pos (starEach es env)).all (fun x => !x.1) = true := by
  induction es with
  | nil => rfl
  | cons e es ih =>
    rw [List.all_cons, Bool.and_eq_true] at h
    rw [star1 h.1]
    show (!false && (backTo pos (starEach es env)).all (fun x => !x.1)) = true
    rw [ih h.2]
    rfl
theorem sub_plain {b : Expr} (h : plainE b = true) : ∀ v u, subscripted b false v u = operate [v, u] (getItem v u) := by
  cases b <;> first | (intro _ _; rfl) | cases h
def notSuper : Expr → Bool
  | .Call (.Name id _) [] [] _ => id != ("super" : Str)
  | _ => true
theorem base_ok {o : Expr} {n : Str} {env : Env} (h : notSuper o = true) : attributeBase o n env (eval o env) = eval o env := by
  unfold attributeBase
  split
  · rename_i id _ _
    have h' : (id != ("super" : Str)) = true := h
    simp [h']
  · rfl
theorem few_ok {es : List Expr} {env : Env} {pos : Pos} (h : es.all plainE = true) (hl : es.length < 30) :
    ((backTo pos (starEach es env)).all (fun x => !x.1) && (backToKw pos (keywordEach [] env)).all (fun x => x.1.isSome) && decide (es.length + ([] : List Keyword).length + (if ([] : List Keyword).isEmpty then 0 else 1) < 30)) = true := by
  rw [star_all h]
  have : (backToKw pos (keywordEach [] env)).all (fun x => x.1.isSome) = true := rfl
  rw [this]
  have h2 : es.length + ([] : List Keyword).length + (if ([] : List Keyword).isEmpty then 0 else 1) < 30 := by
    show es.length + 0 + 0 < 30
    omega
  rw [decide_eq_true h2]
  rfl
theorem meth_eval {o : Expr} {n : Str} {apos pos : Pos} {es : List Expr} {env : Env} (hb : notSuper o = true) (hl : (apos.endLine == pos.line) = true) (h : es.all plainE = true) (hn : es.length < 30) :
    eval (.Call (.Attribute o n apos) es [] pos) env = (do
      let ov ← eval o env
      standAt apos.atName
      let (f, first) ← holding [ov] (getMethod ov n (do return (← importBound o env).getD true))
      callWith pos f first (backTo pos (starEach es env)) (backToKw pos (keywordEach [] env))) := by
  rw [arm_eval_Call, base_ok hb]
  have hform : methodCallForm (es.length + ([] : List Keyword).length) (backTo pos (starEach es env)) (backToKw pos (keywordEach [] env)) = true := few_ok h hn
  have hpos : methodCallPos true o env apos pos = pure pos := by unfold methodCallPos; simp [hl]
  unfold methodCall
  simp only [hform, hpos, calleeOf, if_true, pure_bind]

section
variable {X : Cx} {D : Dat} {C : Calls} {L : Nat} {W : WX} {pins : List (Addr × Obj)} {τ : L2.St} {H : Hp} {s : Shared} {Q : VK} {ι : List Addr} {st : PS} {σ : Sl} {x y : SV} {u u' : V} {v v' : Value}
  {α β : Type} {F : β → PS → List Addr → Hp → Prop} {e a b o : Expr} {es : List Expr} {m ma mb mo : E} {ms : List E} {pos p apos : Pos} {k : SV → PS → Res β} {n : Str}

/-- the arguments of a call: nothing, or something -/
theorem args_K {f : Value} {first : List Value} {Qv : Value → Shared → Prop} {kl : List SV → PS → Res SV} (h : PLv X D C W es ms) (hms : es = [] → ms = []) (hp : es.all plainE = true) (hk : PySem.W.keepIn X.K f = true) (I : Inv X pins τ H s) (S : Sim (D.G X.K) ι st H) (R : SRel (D.G X.K) ι H σ τ)
    (hpost : Post (D.G X.K) ((evEs D.T C ms σ st).bind kl) ι H (FV (D.G X.K) Q) (WE W τ))
    (run : ∀ us s1 vs H1 ι1 st1 xs, GoL X D W ms.length pins τ σ ι H kl (FV (D.G X.K) Q) us s1 vs H1 ι1 st1 xs → wpAny (model X.prog X.w) X.A (call f (first ++ us)) Qv X.xe s1) :
    wpAny (model X.prog X.w) X.A (callWith pos f first (backTo pos (starEach es X.env)) (backToKw pos (keywordEach [] X.env))) Qv X.xe s := by
  have kw0 : backToKw pos (keywordEach [] X.env) = [] := rfl
  rw [kw0]
  cases es with
  | nil =>
    cases hms rfl
    refine PySem.W.callWith_K0 I.kIn hk (run _ _ [] H ι st [] ⟨I, .nil, .refl, S, .nil, rfl, R, ?_⟩)
    rw [evEs] at hpost
    exact hpost
  | cons e es =>
    rw [List.all_cons, Bool.and_eq_true] at hp
    refine PySem.W.callWith_K (h₀ := X.base) I.ok.mod.kin hk (thn (goL h pos I S R hpost) fun us s1 ⟨vs, H1, ι1, st1, xs, g⟩ => ⟨g.I.kIn, run _ _ _ _ _ _ _ g⟩) (star1 hp.1) (star_no hp.2)

/-- f(..), an own def -/
theorem pv_call (w : Wk X D C L W) {d : Nat} {di : DefI} (hd : D.T.defs[d]? = some di) (hg : Gl X n) (hm : X.mg n = some (.ref (D.fa d))) (hdb : (n == ("__debug__" : Str)) = false) (h : PLv X D C W es ms) (hms : es = [] → ms = []) (hp : es.all plainE = true) :
    PEv X D C W (.Call (.Name n p) es [] pos) (.call d ms) := by
  refine ⟨fun pins s τ H Q I hq => ?_⟩
  obtain ⟨ι, st, σ, S, R, hq⟩ := hq
  rw [evE] at hq
  refine wpAny_Call_Name_kw (ld_glob I hg hm ?_ hdb)
  refine args_K h hms hp (w.fa.kf d di hd) I S R hq fun us s1 vs H1 ι1 st1 xs g => ?_
  exact call_d w (w.at_.mono (by omega)) g.I g.S g.r g.rv g.p
/-- C(..), an own class -/
theorem pv_new (w : Wk X D C L W) {c : Nat} {ci : ClsI} {d : Nat} (hc : D.T.cls[c]? = some ci) (hx : ci.isx = false) (hi : ci.init = some d) (hg : Gl X n) (hm : X.mg n = some (.ref (D.ca c))) (hdb : (n == ("__debug__" : Str)) = false) (h : PLv X D C W es ms) (hms : es = [] → ms = []) (hp : es.all plainE = true) :
    PEv X D C W (.Call (.Name n p) es [] pos) (.new c ms) := by
  refine ⟨fun pins s τ H Q I hq => ?_⟩
  obtain ⟨ι, st, σ, S, R, hq⟩ := hq
  rw [evE] at hq
  refine wpAny_Call_Name_kw (ld_glob I hg hm ?_ hdb)
  refine args_K h hms hp ((w.fa.cls c ci hc hx).make d hi).kp I S R hq fun us s1 vs H1 ι1 st1 xs g => ?_
  exact make_ok w g.I g.S g.r g.rv g.p
/-- o.m(..), o an own instance -/
theorem pv_meth (w : Wk X D C L W) {mi : Nat} (hn : n = D.nm mi) (ho : PEv X D C W o mo) (hb : notSuper o = true) (hl : (apos.endLine == pos.line) = true) (h : PLv X D C W es ms) (hms : es = [] → ms = []) (hp : es.all plainE = true) (hle : es.length < 30) :
    PEv X D C W (.Call (.Attribute o n apos) es [] pos) (.meth mo mi ms) := by
  refine ⟨fun pins s τ H Q I hq => ?_⟩
  obtain ⟨ι, st, σ, S, R, hq⟩ := hq
  rw [evE] at hq
  refine PySem.W.methodCall_KW (thn (go ho I S R hq) fun v s1 hg => ?_) (meth_eval hb hl hp hle)
  obtain ⟨v1, H1, ι1, st1, x1, g⟩ := hg
  subst hn
  have p1 := g.p
  split at p1
  · rename_i d hc
    unfold clsOfV at hc
    cases hio : insOf x1 st1 with
    | none => rw [hio] at hc; cases hc
    | some cf =>
      obtain ⟨c', fs⟩ := cf
      rw [hio] at hc
      have hmo : methOf D.T c' mi = some d := hc
      obtain ⟨ci, a, dx, us0, rfl, hcl, hx, e, _, _⟩ := ins_at g.S g.r hio
      have rv := g.rv
      cases rv
      have cf := w.fa.cls c' ci hcl hx
      have hmem := methOf_in hcl hmo
      obtain ⟨me, hne⟩ := cf.meth _ hmem
      have hnone : ((ci.flds.map D.nm).zip us0).lookup (D.nm mi) = none := zip_none fun hz => by
        obtain ⟨f, hf, hfe⟩ := List.mem_map.mp hz
        exact hne f hf hfe
      refine getmeth_ok g.I e cf.cls me hnone ?_
      refine args_K (first := [.ref a]) h hms hp me.kp g.I g.S g.R p1 fun us s2 vs H2 ι2 st2 xs g2 => ?_
      exact call_d w (w.at_.mono (by omega)) g2.I g2.S (args := x1 :: xs) (us := .ref a :: vs) (.cons (g.r.keep g2.e) g2.r) (.cons rfl g2.rv) g2.p
  · exact p1.elim
/-- C.m(..), m a staticmethod of an own class -/
theorem pv_smeth (w : Wk X D C L W) {c mi : Nat} {ci : ClsI} {d : Nat} {di : DefI} {nc : Str} {pc : Pos} (hc : D.T.cls[c]? = some ci) (hx : ci.isx = false) (hs : lookN ci.stats mi = some d) (hd : D.T.defs[d]? = some di) (hn : n = D.nm mi) (hg : Gl X nc) (hm : X.mg nc = some (.ref (D.ca c))) (hdb : (nc == ("__debug__" : Str)) = false)
    (hl : (apos.endLine == pos.line) = true) (h : PLv X D C W es ms) (hms : es = [] → ms = []) (hp : es.all plainE = true) (hle : es.length < 30) :
    PEv X D C W (.Call (.Attribute (.Name nc pc) n apos) es [] pos) (.smeth c mi ms) := by
  refine ⟨fun pins s τ H Q I hq => ?_⟩
  obtain ⟨ι, st, σ, S, R, hq⟩ := hq
  rw [evE] at hq
  refine PySem.W.methodCall_KW (ld_glob I hg hm ?_ hdb) (meth_eval rfl hl hp hle)
  subst hn
  have cf := w.fa.cls c ci hc hx
  have hin : (mi, d) ∈ ci.stats := meth_in (ci := ci) hs
  rcases cf.read with ⟨z, _⟩ | ⟨mc, cr, st_, _⟩
  · rw [z] at hin; cases hin
  · obtain ⟨q, rest, h1, h2⟩ := st_ _ hin
    refine PySem.W.method_cls I.kIn cr.ga ?_
    refine PySem.W.cls_bind I.kIn cr.rd h1 (wpAny_call (PySem.W.sm_get (s := { s with toks := s.toks + 1 }) I.kIn h2 (PySem.W.handed_on rfl ?_)))
    refine args_K (first := []) h hms hp (w.fa.kf d di hd) (I.tok _) S R hq fun us s2 vs H2 ι2 st2 xs g2 => ?_
    have p2 := g2.p
    rw [hc] at p2
    simp only [Option.bind_some, hs] at p2
    exact call_d w (w.at_.mono (by omega)) g2.I g2.S g2.r g2.rv p2
/-- C.f, a constant of the class -/
theorem pv_ccon (w : Wk X D C L W) {c f : Nat} {ci : ClsI} {nc : Str} {pc : Pos} (hc : D.T.cls[c]? = some ci) (hx : ci.isx = false) (hn : n = D.nm f) (hg : Gl X nc) (hm : X.mg nc = some (.ref (D.ca c))) (hdb : (nc == ("__debug__" : Str)) = false) :
    PEv X D C W (.Attribute (.Name nc pc) n pos) (.ccon c f) := by
  refine ⟨fun pins s τ H Q I hq => ?_⟩
  obtain ⟨ι, st, σ, S, R, hq⟩ := hq
  rw [evE] at hq
  refine attr_of (base_ok rfl) (ld_glob I hg hm ?_ hdb)
  subst hn
  rw [hc] at hq
  split at hq
  · rename_i x hx'
    simp only [Option.bind_some] at hx'
    have hin : (f, x) ∈ ci.cons := by
      revert hx'
      generalize ci.cons = l
      intro hx'
      induction l with
      | nil => cases hx'
      | cons a r ih =>
        obtain ⟨k, v⟩ := a
        unfold lookN at hx'
        split at hx'
        · rename_i q; cases hx'; subst q; exact List.mem_cons_self
        · exact List.mem_cons_of_mem _ (ih hx')
    have cf := w.fa.cls c ci hc hx
    rcases cf.read with ⟨_, z⟩ | ⟨mc, cr, _, st_⟩
    · rw [z] at hin; cases hin
    · obtain ⟨v, u, h1, h2⟩ := st_ _ hin
      exact ClX.getcval_ok I cr h1 fun s2 I2 => ⟨v, H, I2, h1.rel, ep_q S hq (h2 ι H)⟩
  · exact hq.elim

/-! ### built-in functions -/
def biName : Bi → Str
  | .len => "len" | .abs => "abs" | .int => "int" | .str => "str" | .bool => "bool" | .repr => "repr" | .list => "list" | .tuple => "tuple"
  | .sum => "sum" | .all => "all" | .any => "any" | .gcd => "gcd" | .isinst _ _ => "isinstance"
theorem args_B {f : Value} {Qv : Value → Shared → Prop} {kl : List SV → PS → Res SV} (hf : (∃ id, f = .builtin id) ∨ ∃ T, f = .type T) (h : PLv X D C W (e :: es) ms) (hp : (e :: es).all plainE = true) (I : Inv X pins τ H s) (S : Sim (D.G X.K) ι st H) (R : SRel (D.G X.K) ι H σ τ)
    (hpost : Post (D.G X.K) ((evEs D.T C ms σ st).bind kl) ι H (FV (D.G X.K) Q) (WE W τ))
    (run : ∀ us s1 vs H1 ι1 st1 xs, GoL X D W ms.length pins τ σ ι H kl (FV (D.G X.K) Q) us s1 vs H1 ι1 st1 xs → wpAny (model X.prog X.w) X.A (call f us) Qv X.xe s1) :
    wpAny (model X.prog X.w) X.A (callWith pos f [] (backTo pos (starEach (e :: es) X.env)) (backToKw pos (keywordEach [] X.env))) Qv X.xe s := by
  have kw0 : backToKw pos (keywordEach [] X.env) = [] := rfl
  rw [kw0]
  rw [List.all_cons, Bool.and_eq_true] at hp
  rcases hf with ⟨id, rfl⟩ | ⟨T, rfl⟩
  · exact PyProof.Rows.callWith_builtin1 (thn (goL h pos I S R hpost) fun us s1 ⟨vs, H1, ι1, st1, xs, g⟩ => run _ _ _ _ _ _ _ g) (star1 hp.1) (star_no hp.2)
  · exact PyProof.Rows.callWith_type1 (thn (goL h pos I S R hpost) fun us s1 ⟨vs, H1, ι1, st1, xs, g⟩ => run _ _ _ _ _ _ _ g) (star1 hp.1) (star_no hp.2)
theorem biV_form (b : Bi) : (∃ id, biV b = .builtin id) ∨ ∃ T, biV b = .type T := by
  cases b <;> first | exact .inl ⟨_, rfl⟩ | exact .inr ⟨_, rfl⟩
theorem pv_bi (w : Wk X D C L W) {b : Bi} {fr : Bool} (hb : ∀ q ts, b ≠ .isinst q ts) (hg : Gl X n) (hm : (b ≠ .gcd ∧ n = biName b ∧ X.mg n = none) ∨ (b = .gcd ∧ X.mg n = some (.builtin "math.gcd"))) (hdb : (n == ("__debug__" : Str)) = false)
    (h : PLv X D C W (e :: es) ms) (hp : (e :: es).all plainE = true) : PEv X D C W (.Call (.Name n p) (e :: es) [] pos) (.bi b fr ms) := by
  refine ⟨fun pins s τ H Q I hq => ?_⟩
  obtain ⟨ι, st, σ, S, R, hq⟩ := hq
  rw [evE] at hq
  refine wpAny_Call_Name_kw ?_
  have go2 : wpAny (model X.prog X.w) X.A (callWith pos (biV b) [] (backTo pos (starEach (e :: es) X.env)) (backToKw pos (keywordEach [] X.env))) (EP X pins τ Q) X.xe s :=
    args_B (biV_form b) h hp I S R hq fun us s1 vs H1 ι1 st1 xs g => bi_ok w g.I g.S b hb g.r g.rv g.p
  rcases hm with ⟨h1, rfl, h2⟩ | ⟨rfl, h2⟩
  · refine ld_blt I hg h2 (u := biV b) ?_ go2 ?_ hdb
    · cases b <;> first | decide +kernel | exact absurd rfl h1 | exact absurd rfl (hb _ _)
    · cases b <;> first | decide +kernel | exact absurd rfl h1 | exact absurd rfl (hb _ _)
  · exact ld_glob I hg h2 go2 hdb
/-- a class, a tuple of classes, as written behind isinstance -/
inductive PTy (X : Cx) (D : Dat) : Expr → Bool → List Ty → Prop where
  | one {e : Expr} {t : Ty} (h : PE X e (tC (tyV1 D t))) : PTy X D e false [t]
  | many {e : Expr} {ts : List Ty} (h : PE X e (fun _ H Q => ∀ p, H p = none → Q (.ref p) (upd H p (.tup (ts.map (tyV1 D)))))) : PTy X D e true ts
theorem pv_isi (w : Wk X D C L W) {q fr : Bool} {ts : List Ty} (hg : Gl X "isinstance") (hm : X.mg "isinstance" = none) (ha : PEv X D C W a ma) (pa : plainE a = true) (hb : PTy X D b q ts) (pb : plainE b = true) (hok : ∀ t ∈ ts, okTy D t) (hne : ts ≠ []) :
    PEv X D C W (.Call (.Name "isinstance" p) [a, b] [] pos) (.bi (.isinst q ts) fr [ma]) := by
  refine ⟨fun pins s τ H Q I hq => ?_⟩
  obtain ⟨ι, st, σ, S, R, hq⟩ := hq
  rw [evE] at hq
  simp only [evEs] at hq
  have hq2 : Post (D.G X.K) ((evE D.T C ma σ st).bind fun x s1 => bi2 D.T C (.isinst q ts) fr [x] s1) ι H (FV (D.G X.K) Q) (WE W τ) := by
    revert hq
    cases evE D.T C ma σ st <;> exact fun z => z
  refine wpAny_Call_Name_kw (ld_blt I hg hm (u := .builtin "isinstance") (by decide +kernel) ?_ (by decide +kernel) (by decide +kernel))
  have kw0 : backToKw pos (keywordEach [] X.env) = [] := rfl
  rw [kw0]
  have s2 : starEach [a, b] X.env = (false, eval a X.env) :: starEach [b] X.env := star1 pa
  have s1 : starEach [b] X.env = (false, eval b X.env) :: starEach [] X.env := star1 pb
  refine PyProof.Rows.callWith_builtin1 ?_ s2 (star_no (by simp [pb]))
  rw [s2, s1]
  show wpAny _ _ (spliced ((false, eval a X.env) :: (false, eval b X.env) :: [])) _ _ s
  refine Calls.spliced_cons (thn (go ha I S R hq2) fun v s3 hg3 => ?_)
  obtain ⟨v1, H1, ι1, st1, x1, g⟩ := hg3
  have p1 := g.p
  have hk : ∃ k, isAny D.T x1 st1 ts = some k ∧ Post (D.G X.K) (.ok (.v (.bl k)) st1) ι1 H1 (FV (D.G X.K) Q) (WE W τ) := by
    unfold bi2 at p1
    cases hz : isAny D.T x1 st1 ts with
    | none => simp only [hz] at p1; exact p1.elim
    | some k => simp only [hz] at p1; exact ⟨k, rfl, p1⟩
  obtain ⟨k, hk, pk⟩ := hk
  have pq := ep_q g.S pk (.bl k)
  cases hb with
  | one h =>
    refine Calls.spliced_cons (thn (h.run pins s3 τ H1 (fun u H2 => u = tyV1 D _ ∧ H2 = H1) g.I ⟨rfl, rfl⟩) fun vt s4 ⟨u, H2, I2, rt, hu, hH⟩ => ?_)
    subst hu; subst hH
    refine Calls.spliced_nil ?_
    exact isi_one w I2 g.S (hok _ List.mem_cons_self) g.r g.rv rt hk pq
  | many h =>
    refine Calls.spliced_cons (thn (h.run pins s3 τ H1 (fun u H2 => ∃ tp, u = .ref tp ∧ H1 tp = none ∧ H2 = upd H1 tp (.tup (ts.map (tyV1 D)))) g.I fun tp htp => ⟨tp, rfl, htp, rfl⟩) fun vt s4 ⟨u, H2, I2, rt, tp, hu, htp, hH⟩ => ?_)
    subst hu; subst hH
    refine Calls.spliced_nil ?_
    have pk2 : Q (.bl k) (upd H1 tp (.tup (ts.map (tyV1 D)))) := ep_q (g.S.new htp) (pk.at (Ext.new g.S htp)) (.bl k)
    cases ts with
    | nil => exact absurd rfl hne
    | cons t ts => exact isi_many w I2 (g.S.new htp) hok (g.r.keep (Ext.new g.S htp)) g.rv upd_same rt hk pk2
/-- o.m(..), m a method of a built-in type -/
def bmName : Bm → Str
  | .split => "split" | .append => "append"
theorem pv_bm (w : Wk X D C L W) {bm : Bm} {fr : Bool} (hn : n = bmName bm) (ho : PEv X D C W o mo) (hb : notSuper o = true) (hl : (apos.endLine == pos.line) = true) (h : PLv X D C W (e :: es) ms) (hp : (e :: es).all plainE = true) (hle : (e :: es).length < 30) :
    PEv X D C W (.Call (.Attribute o n apos) (e :: es) [] pos) (.bm bm fr mo ms) := by
  refine ⟨fun pins s τ H Q I hq => ?_⟩
  obtain ⟨ι, st, σ, S, R, hq⟩ := hq
  rw [evE] at hq
  refine wpAny_Call_method_late (base_ok hb) (few_ok hp hle) hl rfl (thn (go ho I S R hq) fun v s1 hg => ?_)
  obtain ⟨v1, H1, ι1, st1, x1, g⟩ := hg
  subst hn
  have p1 := g.p
  split at p1
  · rename_i hok
    have rest : wpAny (model X.prog X.w) X.A (callWith pos (.builtin (bmId bm)) [v] (backTo pos (starEach (e :: es) X.env)) []) (EP X pins τ Q) X.xe s1 := by
      rw [List.all_cons, Bool.and_eq_true] at hp
      have hA := goL h pos g.I g.S g.R p1
      rw [star1 hp.1] at hA ⊢
      refine Calls.callWith_builtin ?_ (Calls.evalArgs_plain ?_)
      · show (false || (backTo pos (starEach es X.env)).any (·.1)) = false
        rw [star_no hp.2]; rfl
      · refine thn hA fun us s2 ⟨vs, H2, ι2, st2, xs, g2⟩ => ?_
        exact bm_ok w g2.I g2.S bm (g.r.keep g2.e) g.rv g2.r g2.rv g2.p
    unfold bmOk at hok
    split at hok
    · rename_i z
      have r := g.r
      have rv := g.rv
      obtain ⟨rfl, _⟩ := rep_str r
      have rv' := rv
      obtain ⟨t, rfl⟩ := rv'
      exact ⟨"str", "str.split", F.plainAttrs_str, F.slot_str_split, F.type_str_split, typeIs_str _ _ _, (fun _ e => nomatch e), rest⟩
    · rename_i i
      split at hok
      · rename_i xs hxs
        have r := g.r
        have rv := g.rv
        obtain ⟨a, h1, rfl⟩ := r
        obtain ⟨b', h2, us, h3, h4, h5⟩ := g.S.at_ i _ hxs
        rw [h1] at h2
        cases h2
        obtain ⟨z1, z2⟩ := tyV_is (T := "list") g.I rv (.inl ⟨rfl, _, SqL.of h3⟩)
        exact ⟨"list", "list.append", F.plainAttrs_list, F.slot_list_append, F.type_list_append, z1, z2, rest⟩
      · cases hok
    · cases hok
  · exact p1.elim
end
end Vm
set_option Elab.async false
set_option linter.all false
set_option maxRecDepth 100000
set_option maxHeartbeats 1000000
/-! Expressions: slices, f-strings. -/
namespace Vm
open PySem PySem.Spec PyProof.Rows L2
open PySem.W (Looks)
section
variable {X : Cx} {D : Dat} {C : Calls} {L : Nat} {W : WX} {pins : List (Addr × Obj)} {τ : L2.St} {H : Hp} {s : Shared} {Q : VK} {ι : List Addr} {st : PS} {σ : Sl} {x y : SV} {u u' : V} {v v' : Value}
  {α β : Type} {F : β → PS → List Addr → Hp → Prop} {e a b o : Expr} {es : List Expr} {m ma mb mo : E} {ms : List E} {pos p apos : Pos} {k : SV → PS → Res β} {n : Str}

/-- a slice's part -/
inductive PPt (X : Cx) (D : Dat) (C : Calls) (W : WX) : Option Expr → Bool → E → Prop where
  | no {m : E} : PPt X D C W none false m
  | yes {e : Expr} {m : E} (h : PEv X D C W e m) : PPt X D C W (some e) true m
theorem goP {oe : Option Expr} {hl : Bool} {kp : Option Int → PS → Res β} (h : PPt X D C W oe hl m) (I : Inv X pins τ H s) (S : Sim (D.G X.K) ι st H) (R : SRel (D.G X.K) ι H σ τ)
    (hp : Post (D.G X.K) ((if hl then (evE D.T C m σ st).bind fun y s2 => (match y with
        | .v (.int i) => .ok (some i) s2
        | _ => .bad) else .ok none st : Res (Option Int)).bind kp) ι H F (WE W τ)) :
    wpAny (model X.prog X.w) X.A (evalPart oe X.env) (fun u s1 => ∃ o H1 ι1 st1, IsPart u o ∧ Inv X pins τ H1 s1 ∧ Ext ι H ι1 H1 ∧ Sim (D.G X.K) ι1 st1 H1 ∧ SRel (D.G X.K) ι1 H1 σ τ ∧ Post (D.G X.K) (kp o st1) ι1 H1 F (WE W τ)) X.xe s := by
  cases h with
  | no =>
    rw [evalPart_none]
    exact wpAny_pure ⟨none, H, ι, st, .none, I, .refl, S, R, hp⟩
  | yes h =>
    rw [evalPart_some]
    rw [if_pos rfl] at hp
    have hp2 : Post (D.G X.K) ((evE D.T C m σ st).bind fun y s2 => ((match y with
        | .v (.int i) => .ok (some i) s2
        | _ => .bad) : Res (Option Int)).bind kp) ι H F (WE W τ) := by
      revert hp
      cases evE D.T C m σ st <;> exact fun z => z
    refine thn (go h I S R hp2) fun u s1 hg => ?_
    obtain ⟨v1, H1, ι1, st1, x1, g⟩ := hg
    have p1 := g.p
    split at p1
    · rename_i i
      have r := g.r
      have rv := g.rv
      cases rep_int r
      obtain ⟨t, rfl⟩ := rv
      exact ⟨some i, H1, ι1, st1, .int i t, g.I, g.e, g.S, g.R, p1⟩
    · exact p1.elim
theorem pv_sl (w : Wk X D C L W) {fr hl hh : Bool} {lo hi : Option Expr} {ml mh : E} {p2 : Pos} (ha : PEv X D C W a ma) (h1 : PPt X D C W lo hl ml) (h2 : PPt X D C W hi hh mh) : PEv X D C W (.Subscript a (.Slice lo hi none p2) pos) (.sl fr ma hl hh ml mh) := by
  refine ⟨fun pins s τ H Q I hq => ?_⟩
  obtain ⟨ι, st, σ, S, R, hq⟩ := hq
  rw [evE] at hq
  refine Subscript_ (thn (go ha I S R hq) fun v s1 hg => ?_)
  obtain ⟨v1, H1, ι1, st1, x1, g⟩ := hg
  refine wpAny_Slice (thn (goP h1 g.I g.S g.R g.p) fun vl s2 hg2 => ?_)
  obtain ⟨l, H2, ι2, st2, pl, I2, e2, S2, R2, q2⟩ := hg2
  refine thn (goP h2 I2 S2 R2 q2) fun vu s3 hg3 => ?_
  obtain ⟨h, H3, ι3, st3, pu, I3, e3, S3, R3, q3⟩ := hg3
  rw [evalPart_none]
  refine wpAny_pure ?_
  have I4 : Inv X pins τ H3 { s3 with heap := s3.heap.push { cls := .type "slice", data := .fields #[vl, vu, .none] } } := I3.kept (t' := s3.toks) fun b ob q => Heap.get?_push_of_some _ q
  obtain ⟨T, id, hT, ht, hg⟩ := sl_ok (fr := fr) (s := { s3 with heap := s3.heap.push { cls := .type "slice", data := .fields #[vl, vu, .none] } }) I4 S3 (g.r.keep (e2.trans e3)) g.rv (Heap.IsSliceOf.new ..) pl pu q3
  show wpAny (model X.prog X.w) X.A (subscriptTail a (.Slice lo hi none p2) v (.ref s3.heap.objs.size)) (EP X pins τ Q) X.xe { s3 with heap := s3.heap.push { cls := .type "slice", data := .fields #[vl, vu, .none] } }
  exact tail_any (ops := [.ref s3.heap.objs.size, v]) ht hT hg (by with_unfolding_all rfl)

/-! ### f-strings -/
/-- a part -/
inductive PFt (X : Cx) (D : Dat) (C : Calls) (W : WX) : Expr → E → Prop where
  | str {z : Str} {x : List Nat} {j : Nat} {pos : Pos} (e : z = txt x) (hl : x.length ≤ lim) : PFt X D C W (.Constant (.str z) j pos) (.cst (.str x))
  | fld {e : Expr} {m : E} {pos : Pos} (h : PEv X D C W e m) : PFt X D C W (.FormattedValue e (-1) none pos) m
inductive PFs (X : Cx) (D : Dat) (C : Calls) (W : WX) : List Expr → List E → Prop where
  | nil : PFs X D C W [] []
  | cons {e : Expr} {m : E} {es : List Expr} {ms : List E} (h : PFt X D C W e m) (r : PFs X D C W es ms) : PFs X D C W (e :: es) (m :: ms)
theorem goF {kf : List Nat → PS → Res β} (h : PFt X D C W e m) (I : Inv X pins τ H s) (S : Sim (D.G X.K) ι st H) (R : SRel (D.G X.K) ι H σ τ)
    (hp : Post (D.G X.K) ((evE D.T C m σ st).bind fun x s1 => match fmt1 x with
      | some t => kf t s1
      | none => .bad) ι H F (WE W τ)) :
    wpAny (model X.prog X.w) X.A (eval e X.env) (fun u s1 => ∃ t H1 ι1 st1, RelV (.str (txt t)) u ∧ Inv X pins τ H1 s1 ∧ Sim (D.G X.K) ι1 st1 H1 ∧ SRel (D.G X.K) ι1 H1 σ τ ∧ Post (D.G X.K) (kf t st1) ι1 H1 F (WE W τ)) X.xe s := by
  cases h with
  | str e hl =>
    rename_i x j pos
    rw [evE] at hp
    subst e
    have hp' : Post (D.G X.K) (kf x st) ι H F (WE W τ) := hp
    refine thn (pe_str.run pins s τ H (fun u H' => u = .str (txt x) ∧ H' = H) I ⟨rfl, rfl⟩) fun u s1 hu => ?_
    obtain ⟨v, H', I', rv, hv, hH⟩ := hu
    subst hv; subst hH
    exact ⟨x, H', ι, st, rv, I', S, R, hp'⟩
  | fld h =>
    refine wpAny_FormattedValue_plain (thn (go h I S R hp) fun v s1 hg => ?_)
    obtain ⟨v1, H1, ι1, st1, x1, g⟩ := hg
    have p1 := g.p
    have r := g.r
    have rv := g.rv
    split at p1
    · rename_i t ht
      unfold fmt1 at ht
      split at ht
      · cases ht
        obtain ⟨rfl, hl⟩ := rep_str r
        obtain ⟨tk, rfl⟩ := rv
        exact wpAny_formatField_str ⟨_, H1, ι1, st1, ⟨tk, rfl⟩, g.I, g.S, g.R, p1⟩ ⟨_, H1, ι1, st1, ⟨_, rfl⟩, g.I.tok _, g.S, g.R, p1⟩ (lim_line hl)
      · rename_i i
        split at ht
        · rename_i hlog
          cases ht
          cases rep_int r
          obtain ⟨tk, rfl⟩ := rv
          have hlog' : i.natAbs.log2 < 1900 := hlog
          refine wpAny_formatField_int (by omega) ⟨_, H1, ι1, st1, ⟨s1.toks + 1, ?_⟩, g.I.tok _, g.S, g.R, p1⟩
          rw [txt_int]
        · cases ht
      · cases ht
    · exact p1.elim
theorem joins_ok (h : PFs X D C W es ms) : ∀ (acc : List Nat) (s : Shared) (H : Hp) (ι : List Addr) (st : PS) (Q : VK) (R' : Str → Shared → Prop), acc.length ≤ lim → Inv X pins τ H s → Sim (D.G X.K) ι st H → SRel (D.G X.K) ι H σ τ →
    Post (D.G X.K) ((evF D.T C ms acc σ st).bind fun t s1 => .ok (.v (.str t)) s1) ι H (FV (D.G X.K) Q) (WE W τ) →
    (∀ out s1 H1, out.length ≤ sizeLine → Inv X pins τ H1 s1 → Q (.str out) H1 → R' out s1) → Joins (model X.prog X.w) X.A X.xe (evalEach es X.env) (txt acc) R' s := by
  induction h with
  | nil =>
    intro acc s H ι st Q R' hz I S R hp k
    rw [evF] at hp
    have e0 : evalEach [] X.env = [] := by first | rfl | simp [evalEach]
    rw [e0]
    exact k (txt acc) s H (lim_line hz) I (ep_q S hp (.str acc hz))
  | @cons e m es ms he r ih =>
    intro acc s H ι st Q R' hz I S R hp k
    have e0 : evalEach (e :: es) X.env = eval e X.env :: evalEach es X.env := by first | rfl | simp [evalEach]
    rw [e0]
    rw [evF] at hp
    have hp2 : Post (D.G X.K) ((evE D.T C m σ st).bind fun x s1 => match fmt1 x with
      | some t => (if (acc ++ t).length ≤ lim then evF D.T C ms (acc ++ t) σ s1 else Res.bad).bind fun t s1 => Res.ok (SV.v (.str t)) s1
      | none => .bad) ι H (FV (D.G X.K) Q) (WE W τ) := by
      revert hp
      cases evE D.T C m σ st with
      | bad => exact fun z => z
      | ex _ _ => exact fun z => z
      | ok x s1 =>
        intro hp
        unfold Res.bind at hp ⊢
        dsimp only at hp ⊢
        cases hf : fmt1 x with
        | none => rw [hf] at hp; exact hp
        | some t => rw [hf] at hp; exact hp
    refine thn (goF (kf := fun t s1 => (if (acc ++ t).length ≤ lim then evF D.T C ms (acc ++ t) σ s1 else Res.bad).bind fun t s1 => Res.ok (SV.v (.str t)) s1) he I S R hp2) fun u s1 hg => ?_
    obtain ⟨t, H1, ι1, st1, rv, I1, S1, R1, p1⟩ := hg
    obtain ⟨tk, rfl⟩ := rv
    split at p1
    · rename_i hlen
      refine ⟨txt t, tk, rfl, ?_, ?_⟩
      · rw [txt_app]; exact lim_line hlen
      · rw [txt_app]
        exact ih (acc ++ t) s1 H1 ι1 st1 Q R' hlen I1 S1 R1 p1 k
    · exact p1.elim
theorem pv_fmt {e1 e2 : Expr} {m1 m2 : E} (h : PFs X D C W (e1 :: e2 :: es) (m1 :: m2 :: ms)) : PEv X D C W (.JoinedStr (e1 :: e2 :: es) pos) (.fmt (m1 :: m2 :: ms)) := by
  refine ⟨fun pins s τ H Q I hq => ?_⟩
  obtain ⟨ι, st, σ, S, R, hq⟩ := hq
  rw [evE] at hq
  refine wpAny_JoinedStr ?_
  exact joins_ok h [] s H ι st Q _ (Nat.zero_le _) I S R hq fun out s1 H1 hz I1 q1 => ⟨hz, .str out, H1, I1.tok _, ⟨_, rfl⟩, q1⟩
end
end Vm
set_option Elab.async false
set_option linter.all false
set_option maxRecDepth 100000
set_option maxHeartbeats 1000000
/-! Expressions: calls with keywords. -/
namespace Vm
open PySem PySem.Spec PyProof.Rows L2
open PySem.W (Looks)
theorem putAt_succ {α : Type} {a : α} {l : List α} : ∀ (p : List Nat), putAt (a :: l) (p.map (· + 1)) = putAt l p
  | [] => rfl
  | i :: p => by
    show putAt (a :: l) ((i + 1) :: p.map (· + 1)) = _
    unfold putAt
    rw [putAt_succ p]
    rfl
theorem kw_names {kws : List Keyword} {ns : List Str} {env : Env} {pos : Pos} (h : kws.map (·.arg) = ns.map some) :
    (backToKw pos (keywordEach kws env)).all (·.1.isSome) = true ∧ (backToKw pos (keywordEach kws env)).filterMap (·.1) = ns ∧ (backToKw pos (keywordEach kws env)).any (·.1.isNone) = false := by
  induction kws generalizing ns with
  | nil =>
    cases ns with
    | nil => exact ⟨rfl, rfl, rfl⟩
    | cons _ _ => cases h
  | cons k kws ih =>
    cases ns with
    | nil => cases h
    | cons n ns =>
      obtain ⟨a, e, p⟩ := k
      rw [List.map_cons, List.map_cons] at h
      obtain ⟨h1, h2⟩ := List.cons.inj h
      obtain ⟨i1, i2, i3⟩ := ih h2
      have h1' : a = some n := h1
      subst h1'
      refine ⟨?_, ?_, ?_⟩
      · show (true && (backToKw pos (keywordEach kws env)).all (·.1.isSome)) = true
        rw [i1]; rfl
      · show (n :: (backToKw pos (keywordEach kws env)).filterMap (·.1)) = n :: ns
        rw [i2]
      · show (false || (backToKw pos (keywordEach kws env)).any (·.1.isNone)) = false
        rw [i3]; rfl
section
variable {T : Tab} {C : Calls}
theorem evEs_append {σ : Sl} : ∀ (a b : List E) (s : PS), evEs T C (a ++ b) σ s = (evEs T C a σ s).bind fun xs s1 => (evEs T C b σ s1).bind fun ys s2 => .ok (xs ++ ys) s2
  | [], b, s => by
    rw [evEs]
    show evEs T C b σ s = (evEs T C b σ s).bind fun ys s2 => .ok ys s2
    cases evEs T C b σ s <;> rfl
  | e :: a, b, s => by
    show evEs T C (e :: (a ++ b)) σ s = _
    rw [evEs, evEs]
    cases evE T C e σ s with
    | bad => rfl
    | ex _ _ => rfl
    | ok x s1 =>
      show ((evEs T C (a ++ b) σ s1).bind _) = (((evEs T C a σ s1).bind _).bind _)
      rw [evEs_append a b s1]
      cases evEs T C a σ s1 with
      | bad => rfl
      | ex _ _ => rfl
      | ok xs s2 =>
        show (((evEs T C b σ s2).bind _).bind _) = ((evEs T C b σ s2).bind _)
        cases evEs T C b σ s2 <;> rfl
end
section
variable {X : Cx} {D : Dat} {C : Calls} {L : Nat} {W : WX} {pins : List (Addr × Obj)} {τ : L2.St} {H : Hp} {s : Shared} {Q : VK} {ι : List Addr} {st : PS} {σ : Sl} {x y : SV} {u u' : V} {v v' : Value}
  {α β : Type} {F : β → PS → List Addr → Hp → Prop} {e a b o : Expr} {es : List Expr} {m ma mb mo : E} {ms ms2 : List E} {pos p apos kpos : Pos} {k : SV → PS → Res β} {n : Str} {kws : List Keyword}
abbrev PKv (X : Cx) (D : Dat) (C : Calls) (W : WX) (kws : List Keyword) (ms : List E) : Prop := PK X kws (tL X D C W ms)
theorem pk_nil2 : PKv X D C W [] [] := by
  refine ⟨fun pos pins s τ H Q I h => ?_⟩
  obtain ⟨ι, st, σ, S, R, h⟩ := h
  rw [evEs] at h
  exact wpAny_evalAll_nil ⟨[], H, I, .nil, h.now S [] .nil⟩
theorem pk_cons2 {nm : Option Str} (ha : PEv X D C W a ma) (hr : PKv X D C W kws ms) : PKv X D C W (⟨nm, a, kpos⟩ :: kws) (ma :: ms) := by
  refine ⟨fun pos pins s τ H Q I h => ?_⟩
  obtain ⟨ι, st, σ, S, R, h⟩ := h
  rw [evEs] at h
  show wpAny _ _ (evalAll ((do let v ← eval a X.env; standAt pos; pure v) :: (backToKw pos (keywordEach kws X.env)).map (·.2))) _ _ s
  refine wpAny_evalAll_cons (wpAny_bind (thn (go ha I S R h) fun v s1 hg => wpAny_bind (wpAny_standAt (wpAny_pure ?_))))
  obtain ⟨v1, H1, ι1, st1, x1, g⟩ := hg
  refine thn (hr.run pos pins s1 τ H1 (fun vs H2 => ∃ ι2 st2 xs, Ext ι1 H1 ι2 H2 ∧ Sim (D.G X.K) ι2 st2 H2 ∧ RepSs (D.G X.K) ι2 H2 xs vs ∧ ∀ us, RepSs (D.G X.K) ι2 H2 (x1 :: xs) us → Q us H2) g.I ⟨ι1, st1, σ, g.S, g.R, ?_⟩) fun us s2 hg2 => ?_
  · have p1 := g.p.bind
    refine p1.imp fun xs s' ι' H' e' S' q us hus => ⟨ι', s', xs, e', S', hus, fun us2 h2 => q.now S' us2 h2⟩
  · obtain ⟨vs, H2, I2, rv2, ι2, st2, xs, e2, S2, r2, q2⟩ := hg2
    exact ⟨_, _, I2, .cons g.rv rv2, q2 _ (.cons (g.r.keep e2) r2)⟩
theorem goK {kl : List SV → PS → Res β} (h : PKv X D C W kws ms) (pos : Pos) (I : Inv X pins τ H s) (S : Sim (D.G X.K) ι st H) (R : SRel (D.G X.K) ι H σ τ) (hp : Post (D.G X.K) ((evEs D.T C ms σ st).bind kl) ι H F (WE W τ)) :
    wpAny (model X.prog X.w) X.A (evalAll ((backToKw pos (keywordEach kws X.env)).map (·.2))) (fun us s1 => ∃ vs H1 ι1 st1 xs, GoL X D W ms.length pins τ σ ι H kl F us s1 vs H1 ι1 st1 xs) X.xe s := by
  refine thn (h.run pos pins s τ H (fun v H1 => ∃ ι1 st1 x, Ext ι H ι1 H1 ∧ Sim (D.G X.K) ι1 st1 H1 ∧ RepSs (D.G X.K) ι1 H1 x v ∧ x.length = ms.length ∧ Post (D.G X.K) (kl x st1) ι1 H1 F (WE W τ)) I ⟨ι, st, σ, S, R, ?_⟩) fun u s1 hu => ?_
  · exact hp.bind.impE fun x s' ι' H' eq e' S' q v hv => ⟨ι', s', x, e', S', hv, evEs_len eq, q⟩
  · obtain ⟨v, H1, I1, rv, ι1, st1, x, e1, S1, r1, l1, p1⟩ := hu
    exact ⟨v, H1, ι1, st1, x, I1, rv, e1, S1, r1, l1, R.keep e1, p1⟩
/-- the arguments: positional ones, keywords -/
theorem args_KW {f : Value} {first : List Value} {Qv : Value → Shared → Prop} {kl : List SV → PS → Res SV} {ns : List Str} (h : PLv X D C W es ms) (hms : es = [] → ms = []) (hp : es.all plainE = true) (h2 : PKv X D C W kws ms2) (hns : kws.map (·.arg) = ns.map some)
    (hk : PySem.W.keepIn X.K f = true) (I : Inv X pins τ H s) (S : Sim (D.G X.K) ι st H) (R : SRel (D.G X.K) ι H σ τ)
    (hpost : Post (D.G X.K) ((evEs D.T C (ms ++ ms2) σ st).bind kl) ι H (FV (D.G X.K) Q) (WE W τ))
    (run : ∀ us ws s1 vs H1 ι1 st1 xs, (∃ vs1 vs2, vs = vs1 ++ vs2 ∧ Vals vs1 us ∧ Vals vs2 ws ∧ us.length = ms.length ∧ ws.length = ms2.length) → GoL X D W (ms.length + ms2.length) pins τ σ ι H kl (FV (D.G X.K) Q) (us ++ ws) s1 vs H1 ι1 st1 xs → wpAny (model X.prog X.w) X.A (call f (first ++ us) (ns.zip ws)) Qv X.xe s1) :
    wpAny (model X.prog X.w) X.A (callWith pos f first (backTo pos (starEach es X.env)) (backToKw pos (keywordEach kws X.env))) Qv X.xe s := by
  obtain ⟨k1, k2, k3⟩ := kw_names (env := X.env) (pos := pos) hns
  have hpost' : Post (D.G X.K) ((evEs D.T C ms σ st).bind fun xs s1 => (evEs D.T C ms2 σ s1).bind fun ys s2 => kl (xs ++ ys) s2) ι H (FV (D.G X.K) Q) (WE W τ) := by
    rw [evEs_append] at hpost
    revert hpost
    cases evEs D.T C ms σ st with
    | bad => exact fun z => z
    | ex _ _ => exact fun z => z
    | ok xs s1 =>
      intro z
      have z' : Post (D.G X.K) (((evEs D.T C ms2 σ s1).bind fun ys s2 => Res.ok (xs ++ ys) s2).bind kl) ι H (FV (D.G X.K) Q) (WE W τ) := z
      show Post (D.G X.K) ((evEs D.T C ms2 σ s1).bind fun ys s2 => kl (xs ++ ys) s2) ι H (FV (D.G X.K) Q) (WE W τ)
      revert z'
      cases evEs D.T C ms2 σ s1 <;> exact fun z => z
  have tail : ∀ us s1 vs H1 ι1 st1 xs, GoL X D W ms.length pins τ σ ι H (fun xs s1 => (evEs D.T C ms2 σ s1).bind fun ys s2 => kl (xs ++ ys) s2) (FV (D.G X.K) Q) us s1 vs H1 ι1 st1 xs →
      wpAny (model X.prog X.w) X.A (evalAll ((backToKw pos (keywordEach kws X.env)).map (·.2))) (fun ks s₂ => X.K.In s₂.heap ∧ wpAny (model X.prog X.w) X.A (call f (first ++ us) (((backToKw pos (keywordEach kws X.env)).filterMap (·.1)).zip ks)) Qv X.xe s₂) X.xe s1 := by
    intro us s1 vs H1 ι1 st1 xs g
    refine thn (goK h2 pos g.I g.S g.R g.p) fun ws s2 hg2 => ?_
    obtain ⟨vs2, H2, ι2, st2, ys, g2⟩ := hg2
    refine ⟨g2.I.kIn, ?_⟩
    rw [k2]
    exact run us ws s2 (vs ++ vs2) H2 ι2 st2 (xs ++ ys) ⟨vs, vs2, rfl, g.rv, g2.rv, by rw [← g.rv.length, ← g.r.length, g.len], by rw [← g2.rv.length, ← g2.r.length, g2.len]⟩ ⟨g2.I, g.rv.append g2.rv, g.e.trans g2.e, g2.S, (g.r.keep g2.e).append g2.r, by rw [List.length_append, g.len, g2.len], g2.R, g2.p⟩
  cases es with
  | nil =>
    cases hms rfl
    refine PySem.W.callWith_KW0 (h₀ := X.base) I.ok.mod.kin hk k1 (tail [] s [] H ι st [] ⟨I, .nil, .refl, S, .nil, rfl, R, ?_⟩) (by show (false || (backToKw pos (keywordEach kws X.env)).any (·.1.isNone)) = false; rw [k3]; rfl)
    rw [evEs] at hpost'
    exact hpost'
  | cons e es =>
    rw [List.all_cons, Bool.and_eq_true] at hp
    refine PySem.W.callWith_KW (h₀ := X.base) I.ok.mod.kin hk k1 (thn (goL h pos I S R hpost') fun us s1 ⟨vs, H1, ι1, st1, xs, g⟩ => tail us s1 vs H1 ι1 st1 xs g) ?_ (star1 hp.1)
    rw [star1 hp.1]
    show ((false || (backTo pos (starEach es X.env)).any (·.1)) || (backToKw pos (keywordEach kws X.env)).any (·.1.isNone)) = false
    rw [star_no hp.2, k3]; rfl

/-- an own def with keywords, every parameter given -/
theorem call_kw (w : Wk X D C L W) {A : Around} (a : At X L A) (I : Inv X pins τ H s) (S : Sim (D.G X.K) ι st H) {kk : KwI} (hk : kk ∈ D.kw) {args ys : List SV} {us1 us2 : List V} {vals ws : List Value}
    (r : RepSs (D.G X.K) ι H args (us1 ++ us2)) (r1 : Vals us1 vals) (r2 : Vals us2 ws) (l1 : vals.length = kk.npos) (l2 : ws.length = kk.ks.length) (hy : putAt args kk.perm = some ys)
    (h : Post (D.G X.K) (C kk.d ys st) ι H (FV (D.G X.K) Q) (WE W τ)) : wpAny (model X.prog X.w) A (call (.ref (D.fa kk.d)) vals ((kk.ks.map D.nm).zip ws)) (EP X pins τ Q) X.xe s := by
  obtain ⟨di, hd, hl⟩ := w.ar kk.d _ st h.ne
  obtain ⟨zs, hz, hb⟩ := w.fa.kw kk hk s vals ws I.kIn l1 l2
  obtain ⟨vs3, h3, r3⟩ := putAt_rep r hy
  obtain ⟨zs', hz', r4⟩ := putAt_vals (r1.append r2) h3
  rw [hz] at hz'
  cases hz'
  have e0 : Env0 X.prog X.w X.K X.mg X.base A X.stack s H := by
    have z := I.env0
    exact { frames := by rw [a.fr]; exact z.frames, mod := z.mod, bs := z.bs, bsz := z.bsz, funs := z.funs, frf := z.frf, hok := z.hok, bare := z.bare }
  refine wpAny_call (codeAny_mono ((w.fns kk.d di hd).run A X.stack s H ⟨vals, (kk.ks.map D.nm).zip ws⟩ zs vs3 Q (WE W τ) a.room a.gd e0 hb r4 ⟨ι, st, ys, S, r3, hl, h⟩) ?_)
  intro res s2 hq
  match res, hq with
  | .error e, hq => exact passAt w.tk τ pins H s e s2 I hq
  | .ok (.ret u), hq => exact I.after hq
  | .ok .next, hq => exact hq.elim
  | .ok .brk, hq => exact hq.elim
  | .ok .cont, hq => exact hq.elim
theorem pv_callK (w : Wk X D C L W) {kk : KwI} {di : DefI} (hk : kk ∈ D.kw) (hd : D.T.defs[kk.d]? = some di) (hg : Gl X n) (hm : X.mg n = some (.ref (D.fa kk.d))) (hdb : (n == ("__debug__" : Str)) = false) (h : PLv X D C W es ms) (hms : es = [] → ms = []) (hp : es.all plainE = true)
    (h2 : PKv X D C W kws ms2) (hns : kws.map (·.arg) = (kk.ks.map D.nm).map some) (hl : ms.length = kk.npos) (hl2 : ms2.length = kk.ks.length) : PEv X D C W (.Call (.Name n p) es kws pos) (.callK kk.d (ms ++ ms2) kk.perm) := by
  refine ⟨fun pins s τ H Q I hq => ?_⟩
  obtain ⟨ι, st, σ, S, R, hq⟩ := hq
  rw [evE] at hq
  refine wpAny_Call_Name_kw (ld_glob I hg hm ?_ hdb)
  refine args_KW (first := []) h hms hp h2 hns (w.fa.kf kk.d di hd) I S R hq fun us ws s1 vs H1 ι1 st1 xs hv g => ?_
  obtain ⟨vs1, vs2, rfl, r1, r2, l1, l2⟩ := hv
  have p1 := g.p
  split at p1
  · rename_i ys hy
    exact call_kw w (w.at_.mono (by omega)) g.I g.S hk g.r r1 r2 (l1.trans hl) (l2.trans hl2) hy p1
  · exact p1.elim
theorem pv_newK (w : Wk X D C L W) {c : Nat} {ci : ClsI} {kk : KwI} {p0 : List Nat} (hc : D.T.cls[c]? = some ci) (hx : ci.isx = false) (hi : ci.init = some kk.d) (hk : kk ∈ D.kw) (hperm : kk.perm = 0 :: p0.map (· + 1)) (hg : Gl X n) (hm : X.mg n = some (.ref (D.ca c))) (hdb : (n == ("__debug__" : Str)) = false)
    (h : PLv X D C W es ms) (hms : es = [] → ms = []) (hp : es.all plainE = true) (h2 : PKv X D C W kws ms2) (hns : kws.map (·.arg) = (kk.ks.map D.nm).map some) (hl : ms.length + 1 = kk.npos) (hl2 : ms2.length = kk.ks.length) : PEv X D C W (.Call (.Name n p) es kws pos) (.newK c (ms ++ ms2) p0) := by
  refine ⟨fun pins s τ H Q I hq => ?_⟩
  obtain ⟨ι, st, σ, S, R, hq⟩ := hq
  rw [evE] at hq
  refine wpAny_Call_Name_kw (ld_glob I hg hm ?_ hdb)
  refine args_KW (first := []) h hms hp h2 hns ((w.fa.cls c ci hc hx).make kk.d hi).kp I S R hq fun us ws s1 vs H1 ι1 st1 xs hv g => ?_
  obtain ⟨vs1, vs2, rfl, r1, r2, l1, l2⟩ := hv
  have p1 := g.p
  split at p1
  · rename_i ys hy
    refine make_kw w g.I g.S hc hi hk hperm g.r r1 r2 (by show us.length + 1 = _; rw [l1]; exact hl) (l2.trans hl2) (fun a => ?_) p1
    rw [hperm]
    unfold putAt
    rw [putAt_succ, hy]
    rfl
  · exact p1.elim
end
end Vm
set_option Elab.async false
set_option linter.all false
set_option maxRecDepth 100000
set_option maxHeartbeats 1000000
/-! What is walked; comprehensions. -/
namespace Vm
open PySem PySem.Spec PyProof.Rows L2
open PySem.W (Looks)

/-- J walks xs -/
def WalkOf (G : GD) (ι : List Addr) (H : Hp) (xs : List PV) (J : It) : Prop :=
  ∃ (Gd : Hp → Prop) (Y : Nat → Hp → V → Hp → Prop), L2.Walk J xs.length Gd Y ∧ (∀ ι' H', Stay ι H ι' H' → Gd H') ∧
    ∀ i ι' H' v H2, i < xs.length → Stay ι H ι' H' → Y i H' v H2 → H2 = H' ∧ ∃ x, xs[i]? = some x ∧ Rep G ι' H' x v
def tI (X : Cx) (D : Dat) (C : Calls) (W : WX) (m : E) : TI := fun τ H R => ∃ ι st σ, Sim (D.G X.K) ι st H ∧ SRel (D.G X.K) ι H σ τ ∧
  Post (D.G X.K) (evE D.T C m σ st) ι H (fun x _ ι1 H1 => ∃ xs, itemsOf x = some xs ∧ ∀ J, WalkOf (D.G X.K) ι1 H1 xs J → R J H1) (WE W τ)
abbrev PIv (X : Cx) (D : Dat) (C : Calls) (W : WX) (tg iter : Expr) (m : E) : Prop := PI X tg iter (tI X D C W m)

theorem walkOf_seq {G : GD} {ι : List Addr} {H : Hp} {xs : List PV} {us : List V} {a : Addr} (r : Reps G ι H xs us) {J : It} {Gd : Hp → Prop} (w : L2.Walk J us.length Gd (YAt us)) (h : ∀ ι' H', Stay ι H ι' H' → Gd H') : WalkOf G ι H xs J := by
  refine ⟨Gd, YAt us, by rw [r.length]; exact w, h, fun i ι' H' v H2 hi st y => ⟨y.1, ?_⟩⟩
  obtain ⟨x, hx⟩ : ∃ x, xs[i]? = some x := ⟨_, List.getElem?_eq_getElem hi⟩
  obtain ⟨u, h1, h2⟩ := r.get hx
  have y2 := y.2
  rw [h1] at y2
  cases y2
  exact ⟨x, hx, h2.keep st⟩
theorem rngL_get : ∀ (n : Nat) (lo : Int) (i : Nat), i < n → (rngL lo n)[i]? = some (.int (lo + i))
  | 0, _, _, h => absurd h (Nat.not_lt_zero _)
  | n + 1, lo, 0, _ => by simp [rngL]
  | n + 1, lo, i + 1, h => by
    rw [rngL, List.getElem?_cons_succ, rngL_get n (lo + 1) i (by omega)]
    congr 2
    omega
theorem rngL_len : ∀ (n : Nat) (lo : Int), (rngL lo n).length = n
  | 0, _ => rfl
  | n + 1, lo => by rw [rngL, List.length_cons, rngL_len n]
theorem walkOf_range {G : GD} {ι : List Addr} {H : Hp} {lo : Int} {n : Nat} : WalkOf G ι H (rngL lo n) (Itr lo n) := by
  refine ⟨fun _ => True, YFn fun i => .int (lo + i), by rw [rngL_len]; exact walk_range, fun _ _ _ => trivial, fun i ι' H' v H2 hi st y => ⟨y.1, .int (lo + i), ?_, ?_⟩⟩
  · rw [rngL_len] at hi
    exact rngL_get n lo i hi
  · rw [y.2]; exact .int _
theorem walkOf_str {G : GD} {ι : List Addr} {H : Hp} {x : List Nat} : WalkOf G ι H (x.map fun c => .str [c]) (Its (txt x)) := by
  refine ⟨fun _ => True, fun i H v H' => H' = H ∧ ∃ c, (txt x).cps[i]? = some c ∧ v = .str ⟨#[c]⟩, by rw [List.length_map]; exact walk_str (z := txt x), fun _ _ _ => trivial, fun i ι' H' v H2 hi st y => ⟨y.1, ?_⟩⟩
  obtain ⟨c, h1, h2⟩ := y.2
  have h1' : x[i]? = some c := by simpa [txt] using h1
  refine ⟨.str [c], by rw [List.getElem?_map, h1']; rfl, ?_⟩
  rw [h2]
  exact .str [c] (by show 1 ≤ lim; decide)

section
variable {X : Cx} {D : Dat} {C : Calls} {L : Nat} {W : WX} {pins : List (Addr × Obj)} {τ : L2.St} {H : Hp} {s : Shared} {Q : VK} {ι : List Addr} {st : PS} {σ : Sl} {x y : SV} {u u' : V} {v v' : Value}
  {α β : Type} {F : β → PS → List Addr → Hp → Prop} {e a b o tg : Expr} {es : List Expr} {m ma mb mo : E} {ms ms2 : List E} {pos p apos kpos : Pos} {k : SV → PS → Res β} {n : Str} {kws : List Keyword}

theorem pi_v (h : PEv X D C W e m) : PIv X D C W tg e m := by
  refine ⟨fun pins s τ H R I hq => ?_⟩
  obtain ⟨ι, st, σ, S, Rl, hq⟩ := hq
  refine thn (h.run pins s τ H (fun u H1 => ∃ ι1 st1 x xs, Sim (D.G X.K) ι1 st1 H1 ∧ RepS (D.G X.K) ι1 H1 x u ∧ itemsOf x = some xs ∧ ∀ J, WalkOf (D.G X.K) ι1 H1 xs J → R J H1) I ⟨ι, st, σ, S, Rl, ?_⟩) fun v s1 hv => ?_
  · exact hq.imp fun x s' ι' H' e' S' q v hv => by
      obtain ⟨xs, h1, h2⟩ := q
      exact ⟨ι', s', x, xs, S', hv, h1, h2⟩
  · obtain ⟨u, H1, I1, rv, ι1, st1, x, xs, S1, r, hi, hR⟩ := hv
    have isL : ∀ {a : Addr} {us : List V}, SqL X.K H1 a us → Reps (D.G X.K) ι1 H1 xs us → u = .ref a → (∀ ι' H', Stay ι1 H1 ι' H' → SqL X.K H' a us) → wpAny (model X.prog X.w) X.A (pyIter v) (PIE X pins τ tg R) X.xe s1 := by
      intro a us hq rr hu hst
      subst hu
      cases rv
      obtain ⟨its, rv, p, hz⟩ := I1.list hq
      refine wpAny_pyIter_list p.isList ?_
      refine ⟨s1.heap.objs.size, [s1.heap.objs.size], _, _, H1, rfl, I1.kept (t' := s1.toks) fun b o e => Heap.get?_push_of_some _ e, turn_list (K := X.K) a _, ⟨_, Heap.get?_push_size _ rfl, rfl, rfl⟩, fun b hb => ?_, hR _ (walkOf_seq (a := a) rr walk_list hst)⟩
      have e : b = s1.heap.objs.size := by simpa using hb
      subst e
      exact I1.fpOk (Nat.le_refl _) (I1.hok.fresh (Nat.le_refl _))
    unfold itemsOf at hi
    split at hi
    · cases hi
      obtain ⟨a, us, rfl, hh, rr⟩ := rep_tup r
      cases rv
      obtain ⟨its, rv, p, hz⟩ := I1.tuple hh.sq
      refine wpAny_pyIter_tuple (show s1.heap.IsTuple a its.toArray from p) ?_
      refine ⟨s1.heap.objs.size, [s1.heap.objs.size], _, _, H1, rfl, I1.kept (t' := s1.toks) fun b o e => Heap.get?_push_of_some _ e, turn_tuple (K := X.K) a _, ⟨_, Heap.get?_push_size _ rfl, rfl, rfl⟩, fun b hb => ?_, hR _ (walkOf_seq (a := a) rr walk_tup fun ι' H' st => (hh.keep st).sq)⟩
      have e : b = s1.heap.objs.size := by simpa using hb
      subst e
      exact I1.fpOk (Nat.le_refl _) (I1.hok.fresh (Nat.le_refl _))
    · cases hi
      obtain ⟨a, us, rfl, hh, hn, rr⟩ := rep_lst r
      exact isL (SqL.of hh) rr rfl fun ι' H' st => SqL.of (st _ _ hh hn).1
    · cases hi
      obtain ⟨a, us, rfl, hh, rr⟩ := rep_clst r
      exact isL hh.sq rr rfl fun ι' H' st => (hh.keep st).sq
    · cases hi
      rename_i z
      obtain ⟨rfl, _⟩ := rep_str r
      obtain ⟨t, rfl⟩ := rv
      have q := hR _ walkOf_str
      cases ha : (txt z).cps.all (· < 128)
      · exact wpAny_pyIter_wide ha (pi_one (tk := s1.toks) I1 _ (turn_str _ (txt z) t "str_iterator" (.inr rfl)) ⟨_, Heap.get?_push_size _ rfl, rfl, rfl⟩ q)
      · exact wpAny_pyIter_ascii ha (pi_one (tk := s1.toks) I1 _ (turn_str _ (txt z) t "str_ascii_iterator" (.inl rfl)) ⟨_, Heap.get?_push_size _ rfl, rfl, rfl⟩ q)
    · cases hi
/-- range(..) -/
theorem pi_r1 (hg : Gl X "range") (hm : X.mg "range" = none) (h : PLv X D C W [a] [m]) (pa : plainE a = true) : PIv X D C W tg (.Call (.Name "range" p) [a] [] pos) (.rng [m]) := by
  refine ⟨fun pins s τ H R I hq => ?_⟩
  obtain ⟨ι, st, σ, S, Rl, hq⟩ := hq
  rw [evE] at hq
  refine (pi_range1 (tg := tg) hg hm h (star1 pa)).run pins s τ H R I ⟨ι, st, σ, S, Rl, ?_⟩
  refine hq.bind.impE fun xs s' ι' H' eq e' S' q us hus => ?_
  have hl := evEs_len eq
  split at q
  · rename_i n
    split at q
    · rename_i hn
      obtain ⟨u, rfl, r1⟩ := repS1 hus
      cases rep_int r1
      obtain ⟨xs, h1, h2⟩ := q.now S'
      cases h1
      exact ⟨n, rfl, hn.1, hn.2, h2 _ walkOf_range⟩
    · exact q.elim
  · cases hl
  · exact q.elim
theorem pi_r2 (hg : Gl X "range") (hm : X.mg "range" = none) (h : PLv X D C W [a, b] [m, ma]) (pa : plainE a = true) (pb : plainE b = true) : PIv X D C W tg (.Call (.Name "range" p) [a, b] [] pos) (.rng [m, ma]) := by
  refine ⟨fun pins s τ H R I hq => ?_⟩
  obtain ⟨ι, st, σ, S, Rl, hq⟩ := hq
  rw [evE] at hq
  refine (pi_range2 (tg := tg) hg hm h (by rw [star1 pa, star1 pb]; rfl) (star1 pb)).run pins s τ H R I ⟨ι, st, σ, S, Rl, ?_⟩
  refine hq.bind.impE fun xs s' ι' H' eq e' S' q us hus => ?_
  have hl := evEs_len eq
  split at q
  · cases hl
  · rename_i i j
    split at q
    · rename_i hn
      obtain ⟨u, u', rfl, r1, r2⟩ := repS2 hus
      cases rep_int r1
      cases rep_int r2
      obtain ⟨xs, h1, h2⟩ := q.now S'
      cases h1
      exact ⟨i, j, rfl, hn, h2 _ walkOf_range⟩
    · exact q.elim
  · exact q.elim
end

/-! ### targets -/
def tgs : Tg → List Nat
  | .one i => [i]
  | .many is => is
def gMany : List Nat → TGs
  | [] => gNil
  | i :: r => gCons (gName i) (gMany r)
def gT (K : PySem.W.Frag) : Tg → TG
  | .one i => gName i
  | .many is => gTup K is.length (gMany is)
/-- slots but some -/
def SRelE (P : Nat → Prop) (G : GD) (ι : List Addr) (H : Hp) (σ : Sl) (τ : L2.St) : Prop := σ.length = τ.length ∧ ∀ (i : Nat) (x : SV), P i → σ[i]? = some (some x) → ∃ u, τ[i]? = some (some u) ∧ RepS G ι H x u
theorem SRelE.set {P : Nat → Prop} {G : GD} {ι : List Addr} {H : Hp} {σ : Sl} {τ : L2.St} {x : SV} {u : V} (R : SRelE P G ι H σ τ) (h : RepS G ι H x u) (i : Nat) : SRelE (fun j => P j ∨ j = i) G ι H (σ.set i (some x)) (τ.set i (some u)) := by
  refine ⟨by rw [List.length_set, List.length_set, R.1], fun j y hp q => ?_⟩
  by_cases hj : i = j
  · subst hj
    by_cases hi : i < σ.length
    · rw [List.getElem?_set_self hi] at q
      cases q
      exact ⟨u, by rw [List.getElem?_set_self (by rw [← R.1]; exact hi)], h⟩
    · rw [List.getElem?_eq_none (by rw [List.length_set]; omega)] at q; cases q
  · rw [List.getElem?_set_ne hj] at q
    rw [List.getElem?_set_ne hj]
    rcases hp with hp | hp
    · exact R.2 j y hp q
    · exact absurd hp.symm hj
theorem SRel.ex {G : GD} {ι : List Addr} {H : Hp} {σ : Sl} {τ : L2.St} (R : SRel G ι H σ τ) {P : Nat → Prop} : SRelE P G ι H σ τ := ⟨R.1, fun i x _ q => let ⟨u, a, b, _⟩ := R.2 i x q; ⟨u, a, b⟩⟩
theorem SRelE.all {G : GD} {ι : List Addr} {H : Hp} {σ : Sl} {τ : L2.St} {P : Nat → Prop} (R : SRelE P G ι H σ τ) (h : ∀ i, P i) : SRel G ι H σ τ := ⟨R.1, fun i x q => let ⟨u, a, b⟩ := R.2 i x (h i) q; ⟨u, a, b, b.blw⟩⟩
theorem gMany_ok {G : GD} {ι : List Addr} {H : Hp} {Qg : L2.St → Hp → Prop} : ∀ {is : List Nat} {xs : List PV} {us : List V} {σ σ' : Sl} {τ : L2.St} {P : Nat → Prop}, setMany is xs σ = some σ' → Reps G ι H xs us → SRelE P G ι H σ τ →
    (∀ τ', SRelE (fun j => P j ∨ j ∈ is) G ι H σ' τ' → (∀ j, j ∉ is → τ'[j]? = τ[j]?) → τ'.length = τ.length → Qg τ' H) → gMany is us τ H Qg
  | [], [], _, _, _, _, _, h, .nil, R, k => by
    cases h
    exact ⟨rfl, k _ ⟨R.1, fun i x hp q => R.2 i x (hp.elim id fun z => by cases z) q⟩ (fun _ _ => rfl) rfl⟩
  | i :: is, x :: xs, _, σ, σ', τ, P, h, .cons r rs, R, k => by
    refine ⟨_, _, rfl, ?_⟩
    refine gMany_ok (σ := σ.set i (some (.v x))) h rs (R.set (x := .v x) r i) fun τ' R' hk hl => k τ' ⟨R'.1, fun j y hp q => R'.2 j y ?_ q⟩ (fun j hj => ?_) (by rw [hl, List.length_set])
    · rcases hp with hp | hp
      · exact .inl (.inl hp)
      · rcases List.mem_cons.mp hp with e | e
        · exact .inl (.inr e)
        · exact .inr e
    · rw [hk j fun z => hj (List.mem_cons_of_mem _ z), List.getElem?_set_ne fun (z : i = j) => hj (by rw [← z]; exact List.mem_cons_self)]
  | [], _ :: _, _, _, _, _, _, h, _, _, _ => by cases h
  | _ :: _, [], _, _, _, _, _, h, _, _, _ => by cases h
theorem setMany_len : ∀ {is : List Nat} {xs : List PV} {σ σ' : Sl}, setMany is xs σ = some σ' → xs.length = is.length
  | [], [], _, _, _ => rfl
  | i :: is, x :: xs, _, _, h => congrArg (· + 1) (setMany_len (is := is) (xs := xs) h)
  | [], _ :: _, _, _, h => by cases h
  | _ :: _, [], _, _, h => by cases h
theorem gT_ok {G : GD} {ι : List Addr} {H : Hp} {Qg : L2.St → Hp → Prop} {t : Tg} {x : PV} {v : V} {σ σ' : Sl} {τ : L2.St} {P : Nat → Prop} (hx : Rep G ι H x v) (hs : asg t x σ = some σ') (R : SRelE P G ι H σ τ)
    (k : ∀ τ', SRelE (fun j => P j ∨ j ∈ tgs t) G ι H σ' τ' → (∀ j, j ∉ tgs t → τ'[j]? = τ[j]?) → τ'.length = τ.length → Qg τ' H) : gT G.K t v τ H Qg := by
  cases t with
  | one i =>
    cases hs
    refine k _ ⟨(R.set (x := .v x) hx i).1, fun j y hp q => (R.set (x := .v x) hx i).2 j y (hp.imp id fun z => by simpa [tgs] using z) q⟩ (fun j hj => ?_) (by rw [List.length_set])
    rw [List.getElem?_set_ne]
    intro z; subst z; exact hj (by simp [tgs])
  | many is =>
    unfold asg at hs
    split at hs
    · rename_i h0
      cases h0
    · rename_i is0 h0
      cases h0
      split at hs
      · rename_i xs
        obtain ⟨a, us, rfl, hh, rr⟩ := rep_tup (show RepS _ _ _ (.v (.tup xs)) v from hx)
        exact ⟨a, us, rfl, hh.sq, by rw [← rr.length]; exact setMany_len hs, gMany_ok hs rr R k⟩
      · cases hs
/-- a name that may be stored -/
def Sto (X : Cx) (n : Str) : Prop := Loc X.env.scope n ∧ (X.fn n = true ∨ X.env.scope.names.lookup n = some .local)
/-- what a target is -/
inductive PTg (X : Cx) : Expr → Tg → Prop where
  | one {n : Str} {i : Nat} {pos : Pos} (hi : X.N[i]? = some n) (hx : Sto X n) : PTg X (.Name n pos) (.one i)
  | many {es : List Expr} {is : List Nat} {j : Nat} {pos : Pos} (h : Paired (fun e i => ∃ n p, e = Expr.Name n p ∧ X.N[i]? = some n ∧ Sto X n) es is) : PTg X (.Tuple es j pos) (.many is)
theorem ptg_ok {X : Cx} {e : Expr} {t : Tg} (hN : X.N.Nodup) (hc : X.calm = true) (h : PTg X e t) : PG X e (gT X.K t) := by
  cases h with
  | one hi hx => exact pg_name hN hi hx.1 hx.2
  | @many es is j pos h =>
    have key : PGs X es (gMany is) ∧ (assignEach es X.env).length = is.length ∧ (assignEach es X.env).findIdx? (·.1) = none := by
      induction h with
      | nil => exact ⟨pgs_nil, rfl, rfl⟩
      | @cons e i es is r t ih =>
        obtain ⟨n, p, rfl, hi, hx⟩ := r
        obtain ⟨h1, h2, h3⟩ := ih
        refine ⟨pgs_cons (pg_name hN hi hx.1 hx.2) h1 rfl, ?_, ?_⟩
        · show ((false, assign (.Name n p) X.env) :: assignEach es X.env).length = _
          rw [List.length_cons, h2]; rfl
        · show ((false, assign (.Name n p) X.env) :: assignEach es X.env).findIdx? (·.1) = none
          rw [List.findIdx?_cons, h3]; rfl
    exact pg_tup hc key.1 key.2.1 key.2.2
end Vm
set_option Elab.async false
set_option linter.all false
set_option maxRecDepth 100000
set_option maxHeartbeats 1000000
/-! Comprehensions. -/
namespace Vm
open PySem PySem.Spec PyProof.Rows L2
open PySem.W (Looks)

theorem wipe_get (τ : L2.St) (j : Nat) : ∀ (vs : List Nat), (wipe τ vs)[j]? = if j ∈ vs then (τ[j]?).map fun _ => none else τ[j]?
  | [] => by simp [wipe]
  | v :: vs => by
    unfold wipe
    have ih := wipe_get τ j vs
    have hl := wipe_length τ vs
    by_cases hv : v = j
    · subst hv
      rw [if_pos List.mem_cons_self]
      by_cases hlt : v < τ.length
      · rw [List.getElem?_set_self (by rw [hl]; exact hlt), List.getElem?_eq_getElem hlt]; rfl
      · rw [List.getElem?_eq_none (by rw [List.length_set, hl]; omega), List.getElem?_eq_none (by omega)]; rfl
    · rw [List.getElem?_set_ne hv, ih]
      by_cases hm : j ∈ vs
      · rw [if_pos hm, if_pos (List.mem_cons_of_mem _ hm)]
      · rw [if_neg hm, if_neg]
        intro h
        rcases List.mem_cons.mp h with e | e
        · exact hv e.symm
        · exact hm e
theorem wipe_eq {τ τ' : L2.St} {vs : List Nat} (hl : τ'.length = τ.length) (h : ∀ j, j ∉ vs → τ'[j]? = (wipe τ vs)[j]?) : wipe τ' vs = wipe τ vs := by
  refine List.ext_getElem? fun j => ?_
  rw [wipe_get, wipe_get]
  by_cases hm : j ∈ vs
  · rw [if_pos hm, if_pos hm]
    by_cases hlt : j < τ.length
    · rw [List.getElem?_eq_getElem hlt, List.getElem?_eq_getElem (by omega)]; rfl
    · rw [List.getElem?_eq_none (by omega), List.getElem?_eq_none (by omega)]
  · rw [if_neg hm, if_neg hm, h j hm, wipe_get, if_neg hm]

def tTs (X : Cx) (D : Dat) (C : Calls) (W : WX) (cs : List B) : TT := fun τ H Q => ∃ ι st σ, Sim (D.G X.K) ι st H ∧ SRel (D.G X.K) ι H σ τ ∧ Post (D.G X.K) (evCs D.T C cs σ st) ι H (fun k _ _ H' => Q k H') (WE W τ)
/-- nothing is wished of an exception -/
abbrev WNo : WX := fun _ _ _ _ => False
inductive PTss (X : Cx) (D : Dat) (C : Calls) (W : WX) : List Expr → List B → Prop where
  | nil : PTss X D C W [] []
  | one {c : Expr} {b : B} (h : PTv X D C W c b) : PTss X D C W [c] [b]
theorem pts_ok {X : Cx} {D : Dat} {C : Calls} {W : WX} {cs : List Expr} {bs : List B} (h : PTss X D C W cs bs) : PTs X cs (tTs X D C W bs) := by
  cases h with
  | nil =>
    refine ⟨fun pins s τ H Q I hq => pts_nil.run pins s τ H Q I ?_⟩
    obtain ⟨ι, st, σ, S, R, hq⟩ := hq
    rw [evCs] at hq
    exact hq.now S
  | one h =>
    refine ⟨fun pins s τ H Q I hq => (pts_one h).run pins s τ H Q I ?_⟩
    obtain ⟨ι, st, σ, S, R, hq⟩ := hq
    rw [evCs] at hq
    refine ⟨ι, st, σ, S, R, ?_⟩
    refine hq.bind.imp fun k s' ι' H' e' S' q => ?_
    cases k with
    | true =>
      rw [if_pos rfl, evCs] at q
      exact q.now S'
    | false => exact q.now S'

section
variable {X : Cx} {D : Dat} {C : Calls} {L : Nat} {W : WX} {pins : List (Addr × Obj)} {τ : L2.St} {H : Hp} {s : Shared} {Q : VK} {ι : List Addr} {st : PS} {σ : Sl}
theorem takes_no {X : Cx} : Takes X WNo := fun u s' ⟨a, B, sI, pins, σ, H, cls, d, e, I, nb, up, sky, na, os, ag, w⟩ => w.elim
/-- the block of a comprehension -/
theorem Wk.blk (w : Wk X D C L W) (s : Shared) (H : Hp) (scope : Scope) (cenv : Env) (fp : List Addr) : Wk (X.blk s H scope cenv fp) D C L WNo :=
  ⟨w.fa, w.fns, w.ar, takes_no, ⟨w.at_.room, w.at_.gd, w.at_.fr⟩, w.calm⟩

theorem bind_ok {α β : Type} {r : Res α} {k : α → PS → Res β} {b : β} {s : PS} (h : r.bind k = .ok b s) : ∃ a s1, r = .ok a s1 ∧ k a s1 = .ok b s := by
  cases r with
  | ok a s1 => exact ⟨a, s1, rfl, h⟩
  | ex _ _ => cases h
  | bad => cases h
theorem calm_ok {α : Type} {r : Res α} {G : GD} {β : Type} {k : α → PS → Res β} {F : β → PS → List Addr → Hp → Prop} {E : XK} (h : Post G (r.calm.bind k) ι H F E) : ∃ a s1, r = .ok a s1 ∧ Post G (k a s1) ι H F E := by
  cases r with
  | ok a s1 => exact ⟨a, s1, rfl, h⟩
  | ex _ _ => exact h.elim
  | bad => exact h.elim
theorem lc_imp {t : Tg} {cs : List B} {mi me : E} {fr : Bool} {own : List (Str × Nat)} (hown : ∀ i, i ∈ own.map (·.2) ↔ i ∈ tgs t) (hq : tE X D C W (.lc fr t mi cs me) τ H Q) :
    tLc (tI X D C W mi) (gT X.K t) (tTs X D C WNo cs) (tE X D C WNo me) (own.map (·.2)) τ H Q := by
  obtain ⟨ι, st, σ, S, R, hq⟩ := hq
  rw [evE] at hq
  refine ⟨ι, st, σ, S, R, ?_⟩
  refine hq.bind.imp fun x s1 ι1 H1 e1 S1 q => ?_
  split at q
  · rename_i xs hxs
    refine ⟨xs, hxs, fun J hJ D0 hD0 => ?_⟩
    obtain ⟨u, s2, hlc, q⟩ := calm_ok q
    obtain ⟨Gd, Y, wk, hG, hY⟩ := hJ
    have R1 := R.keep e1
    obtain ⟨S2, e2⟩ := S1.push (ho := .lst []) (o := .lst []) hD0 fun e => ⟨[], upd_same, .nil, fun x hx => by cases hx⟩
    have hn0 : (ι1 ++ [D0])[s1.length]? = some D0 := by rw [← S1.len, List.getElem?_append_right (Nat.le_refl _), Nat.sub_self]; rfl
    refine lc_it wk (fun i H' => ∃ ι' st', Ext (ι1 ++ [D0]) (upd H1 D0 (.lst [])) ι' H' ∧ Sim (D.G X.K) ι' st' H' ∧
      lcL (fun y t' => match asg t y σ with
        | some σ' => evCs D.T C cs σ' t'
        | none => .bad) (fun y t' => match asg t y σ with
        | some σ' => evE D.T C me σ' t'
        | none => .bad) s1.length (xs.drop i) st' = .ok u s2) ⟨_, _, .refl, S2, hlc⟩ (fun i H' hi' ⟨ι', st', e', _⟩ => hG ι' H' (e2.trans e').stay) ?_ ?_
    · rintro i v H' H'' hlt ⟨ι', st', e', S', hl⟩ y
      obtain ⟨rfl, x', hx', rx⟩ := hY i ι' H' v H'' hlt (e2.trans e').stay y
      have hdrop : xs.drop i = x' :: xs.drop (i + 1) := by
        rw [List.drop_eq_getElem_cons hlt]
        rw [List.getElem?_eq_getElem hlt] at hx'
        rw [Option.some.inj hx']
      rw [hdrop] at hl
      obtain ⟨k, s3, hce, hl⟩ := bind_ok hl
      dsimp only at hce hl
      have hn1 : ∀ {ι2 H2}, Ext ι' H'' ι2 H2 → ι2[s1.length]? = some D0 := fun {ι2 H2} e => by
        obtain ⟨t1, h1⟩ := (e'.trans e).pre
        rw [h1, List.getElem?_append_left (by rw [List.length_append, S1.len]; exact Nat.lt_succ_self _)]
        exact hn0
      cases ha : asg t x' σ with
      | none => rw [ha] at hce; cases hce
      | some σ' =>
        rw [ha] at hce hl
        have hce : evCs D.T C cs σ' st' = .ok k s3 := hce
        have Rw : SRelE (fun j => j ∉ own.map (·.2)) (D.G X.K) ι' H'' σ (wipe τ (own.map (·.2))) := by
          have R2 := R1.keep (e2.trans e')
          refine ⟨by rw [wipe_length]; exact R2.1, fun j y hp q => ?_⟩
          obtain ⟨u, h1, h2, _⟩ := R2.2 j y q
          exact ⟨u, by rw [wipe_get, if_neg hp]; exact h1, h2⟩
        refine gT_ok (G := D.G X.K) rx ha Rw fun τ' R' hk hlen => ?_
        have R3 : SRel (D.G X.K) ι' H'' σ' τ' := R'.all fun j => by
          by_cases hj : j ∈ own.map (·.2)
          · exact .inr ((hown j).mp hj)
          · exact .inl hj
        refine ⟨wipe_eq (by rw [hlen, wipe_length]) fun j hj => hk j fun z => hj ((hown j).mpr z), ι', st', σ', S', R3, ?_⟩
        rw [hce]
        intro ι3 H3 e3 S3
        have R4 := R3.keep e3
        dsimp only
        cases k with
        | false =>
          rw [if_neg (by decide)]
          rw [if_neg (by decide)] at hl
          exact ⟨ι3, s3, e'.trans e3, S3, hl⟩
        | true =>
          rw [if_pos rfl]
          rw [if_pos rfl] at hl
          obtain ⟨y', s4, hel, hl⟩ := bind_ok hl
          have hel : evE D.T C me σ' s3 = .ok y' s4 := hel
          refine ⟨ι3, s3, σ', S3, R4, ?_⟩
          rw [hel]
          intro ι4 H4 e4 S4 u4 r4
          cases hap : apnd s1.length y' s4 with
          | none => rw [hap] at hl; cases hl
          | some s5 =>
            rw [hap] at hl
            obtain ⟨us, h1, h2, S5, e5⟩ := apnd_ok (hn1 (e3.trans e4)) S4 r4 hap
            exact ⟨us, h1, h2, ι4, s5, ((e'.trans e3).trans e4).trans e5, S5, hl⟩
    · rintro H' ⟨ι', st', e', S', hl⟩
      rw [List.drop_length] at hl
      cases hl
      have ex := e2.trans e'
      have hn2 : ι'[s1.length]? = some D0 := by
        obtain ⟨t1, h1⟩ := e'.pre
        rw [h1, List.getElem?_append_left (by rw [List.length_append, S1.len]; exact Nat.lt_succ_self _)]
        exact hn0
      unfold lcEnd at q
      cases fr with
      | false => exact q ι' H' ex S' _ ⟨D0, hn2, rfl⟩
      | true =>
        rw [if_pos rfl] at q
        split at q
        · rename_i acc hacc
          split at q
          · rename_i ys hys
            obtain ⟨a, g1, us, g2, g3, g4⟩ := S'.at_ _ _ hacc
            rw [hn2] at g1
            cases g1
            have htk : ι'.take s1.length = ι1 := by
              obtain ⟨t1, h1⟩ := e'.pre
              rw [h1, ← S1.len]; exact take_pre
            refine q (ι'.take s1.length) H' ⟨⟨[], by rw [htk, List.append_nil]⟩, ex.stay.trans Stay.cut⟩ (S'.cut _) _ ?_
            exact .lst g2 (S'.last_out hn2) ((RepSs.ofVs hys g3).keep Stay.cut)
          · exact q.elim
        · exact q.elim
  · exact q.elim
theorem pv_lc (w : Wk X D C L W) {tg iter elt : Expr} {t : Tg} {ifs : List Expr} {cs : List B} {mi me : E} {fr : Bool} {scope : Scope} {own : List (Str × Nat)} {pos : Pos} (hN : X.N.Nodup) (hi : PIv X D C W tg iter mi) (ok : BlkOk X.N X.env.scope scope own)
    (hown : ∀ i, i ∈ own.map (·.2) ↔ i ∈ tgs t)
    (hb : ∀ (s : Shared) (H : Hp) (C0 : Addr) (cl : List (Str × Addr)) (fp : List Addr), PTg (X.blk s H scope (compEnvC scope cl C0 X.env) fp) tg t ∧ PTss (X.blk s H scope (compEnvC scope cl C0 X.env) fp) D C WNo ifs cs ∧ PEv (X.blk s H scope (compEnvC scope cl C0 X.env) fp) D C WNo elt me)
    (hs : ∀ x, foldedSetIterable iter X.env x = pure x) : PEv X D C W (.ListComp elt [⟨tg, iter, ifs, 0⟩] scope pos) (.lc fr t mi cs me) :=
  ⟨fun pins s τ H Q I hq => (pe_lc (te := tE X D C WNo me) (tt := tTs X D C WNo cs) (g := gT X.K t) w.calm hN hi ok (fun s H C0 cl fp => ptg_ok hN w.calm (hb s H C0 cl fp).1) (fun s H C0 cl fp => pts_ok (hb s H C0 cl fp).2.1) (fun s H C0 cl fp => (hb s H C0 cl fp).2.2) hs).run pins s τ H Q I (lc_imp hown hq)⟩
end
end Vm
set_option Elab.async false
set_option linter.all false
set_option maxRecDepth 100000
set_option maxHeartbeats 1000000
/-! The checker: an expression is the IR's. -/
namespace Vm
open PySem PySem.Spec PyProof.Rows L2
open PySem.W (Looks)

def pvEqs (r : PV → PV → Bool) : List PV → List PV → Bool
  | [], [] => true
  | x :: xs, y :: ys => r x y && pvEqs r xs ys
  | _, _ => false
def pvEq : Nat → PV → PV → Bool
  | 0, _, _ => false
  | k + 1, x, y => match x, y with
    | .non, .non => true
    | .bl a, .bl b => a == b
    | .int a, .int b => a == b
    | .str a, .str b => a == b
    | .tup a, .tup b => pvEqs (pvEq k) a b
    | .lst a, .lst b => pvEqs (pvEq k) a b
    | .clst a, .clst b => pvEqs (pvEq k) a b
    | _, _ => false
theorem pvEqs_ok {r : PV → PV → Bool} (h : ∀ x y, r x y = true → x = y) : ∀ {xs ys : List PV}, pvEqs r xs ys = true → xs = ys
  | [], [], _ => rfl
  | x :: xs, y :: ys, e => by
    unfold pvEqs at e
    rw [Bool.and_eq_true] at e
    rw [h x y e.1, pvEqs_ok h e.2]
  | [], _ :: _, e => by cases e
  | _ :: _, [], e => by cases e
theorem pvEq_ok : ∀ (k : Nat) (x y : PV), pvEq k x y = true → x = y
  | 0, _, _, e => by cases e
  | k + 1, x, y, e => by
    unfold pvEq at e
    split at e
    · rfl
    · rw [beq_iff_eq.mp e]
    · rw [beq_iff_eq.mp e]
    · rw [beq_iff_eq.mp e]
    · rw [pvEqs_ok (pvEq_ok k) e]
    · rw [pvEqs_ok (pvEq_ok k) e]
    · rw [pvEqs_ok (pvEq_ok k) e]
    · cases e

def visB (sc : Scope) (n : Str) : Bool := match sc.names.lookup n with
  | some .local => true
  | some .cell => true
  | some .free => true
  | _ => false
def locB (sc : Scope) (n : Str) : Bool := match sc.names.lookup n with
  | some .local => true
  | _ => false
def glB (sc : Scope) (n : Str) : Bool := match sc.names.lookup n with
  | some .globalImplicit => true
  | _ => false
def okN (n : Str) : Bool := (n != ("__debug__" : Str)) && (n != ("__classdict__" : Str))
def isFn (D : Dat) (n : Str) (d : Nat) : Bool := (match D.gs.lookup n with
  | some (.fn k) => k == d
  | _ => false) && (D.T.defs[d]?).isSome
def isCl (D : Dat) (n : Str) (c : Nat) : Bool := (match D.gs.lookup n with
  | some (.cl k) => k == c
  | _ => false) && (match D.T.cls[c]? with
  | some ci => !ci.isx
  | none => false)
section
variable (D : Dat) (N : List Str) (rE : Scope → Expr → E → Bool) (rB : Scope → Expr → B → Bool) (sc : Scope)
def mL : List Expr → List E → Bool
  | [], [] => true
  | e :: es, m :: ms => rE sc e m && mL es ms
  | _, _ => false
def mK : List Keyword → List E → Bool
  | [], [] => true
  | ⟨_, e, _⟩ :: es, m :: ms => rE sc e m && mK es ms
  | _, _ => false
def mO (oe : Option Expr) (hl : Bool) (m : E) : Bool := match oe, hl with
  | none, false => true
  | some e, true => rE sc e m
  | _, _ => false
def mF : List Expr → List E → Bool
  | [], [] => true
  | e :: es, m :: ms => (match e, m with
    | .Constant (.str z) _ _, .cst (.str x) => z.cps.toList == x && decide (x.length ≤ lim)
    | .FormattedValue e (-1) none _, m => rE sc e m
    | _, _ => false) && mF es ms
  | _, _ => false
def chA : List Expr → E → Bool
  | [a], m => rE sc a m
  | a :: b :: r, m => (match m with
    | .and ma mb => rE sc a ma && chA (b :: r) mb
    | _ => false)
  | _, _ => false
def chO : List Expr → E → Bool
  | [a], m => rE sc a m
  | a :: b :: r, m => (match m with
    | .or ma mb => rE sc a ma && chO (b :: r) mb
    | _ => false)
  | _, _ => false
def tyN (t : Ty) : Str := match t with
  | .int => "int" | .bool => "bool" | .str => "str" | .list => "list" | .tuple => "tuple" | .dict => "dict" | .cls _ => ""
def mTy (e : Expr) (t : Ty) : Bool := match e with
  | .Name n _ => glB sc n && okN n && (match t with
    | .cls c => isCl D n c
    | t => n == tyN t && D.nb.contains n)
  | _ => false
def mTys : List Expr → List Ty → Bool
  | [], [] => true
  | e :: es, t :: ts => mTy D sc e t && mTys es ts
  | _, _ => false
def clOk (c : Nat) : Bool := match D.T.cls[c]? with
  | some ci => !ci.isx
  | none => false
def notSet : Expr → Bool
  | .Set _ _ _ => false
  | _ => true
def mI (e : Expr) (m : E) : Bool := match m with
  | .rng [m1] => (match e with
    | .Call (.Name n _) [a] [] _ => n == ("range" : Str) && glB sc n && D.nb.contains n && plainE a && rE sc a m1
    | _ => false)
  | .rng [m1, m2] => (match e with
    | .Call (.Name n _) [a, b] [] _ => n == ("range" : Str) && glB sc n && D.nb.contains n && plainE a && plainE b && rE sc a m1 && rE sc b m2
    | _ => false)
  | .rng _ => false
  | m => rE sc e m
def ownOf : Expr → Tg → Option (List (Str × Nat))
  | .Name n _, .one i => some [(n, i)]
  | .Tuple es _ _, .many is => if es.length = is.length then (es.mapM fun (e : Expr) => match e with
    | .Name n _ => some n
    | _ => none).map fun (ns : List Str) => ns.zip is else none
  | _, _ => none
def stoB (cl : Bool) (sc : Scope) (n : Str) : Bool := match sc.names.lookup n with
  | some .local => true
  | some .cell => cl
  | _ => false
def mTgs (cl : Bool) : List Expr → List Nat → Bool
  | [], [] => true
  | e :: es, i :: is => (match e with
    | .Name n _ => N[i]? == some n && stoB cl sc n
    | _ => false) && mTgs cl es is
  | _, _ => false
/-- cl: names that are captured too -/
def mTg (cl : Bool) (e : Expr) (t : Tg) : Bool := match e, t with
  | .Name n _, .one i => N[i]? == some n && stoB cl sc n
  | .Tuple es _ _, .many is => mTgs N sc cl es is
  | _, _ => false
def mIfs (rB : Expr → B → Bool) : List Expr → List B → Bool
  | [], [] => true
  | [c], [b] => rB c b
  | _, _ => false

def stepE (e : Expr) (m : E) : Bool := match m with
  | .var i => (match e with
    | .Name n _ => N[i]? == some n && visB sc n && okN n
    | _ => false)
  | .cst x => (match e with
    | .Name n _ => glB sc n && okN n && (match D.gs.lookup n with
      | some (.con y) => pvEq 8 x y
      | _ => false)
    | .Constant (.int i) _ _ => (match x with
      | .int j => i == j
      | _ => false)
    | .Constant (.bool i) _ _ => (match x with
      | .bl j => i == j
      | _ => false)
    | .Constant .none _ _ => (match x with
      | .non => true
      | _ => false)
    | .Constant (.str z) _ _ => (match x with
      | .str x => z.cps.toList == x && decide (x.length ≤ lim)
      | _ => false)
    | _ => false)
  | .neg ma => (match e with
    | .UnaryOp .USub a _ => rE sc a ma
    | _ => false)
  | .not ma => (match e with
    | .UnaryOp .Not a _ => rE sc a ma
    | _ => false)
  | .op o ma mb => (match e with
    | .BinOp a op b _ => decide (op = opr o) && rE sc a ma && rE sc b mb
    | _ => false)
  | .cmp o ma mb => (match e with
    | .Compare a [op] [b] _ => decide (op = cop o) && !behindInMarks op b && rE sc a ma && rE sc b mb
    | _ => false)
  | .and _ _ => (match e with
    | .BoolOp .And (a :: b :: r) _ => chA rE sc (a :: b :: r) m
    | _ => false)
  | .or _ _ => (match e with
    | .BoolOp .Or (a :: b :: r) _ => chO rE sc (a :: b :: r) m
    | _ => false)
  | .ite bc ma mb => (match e with
    | .IfExp c a b _ => rB sc c bc && rE sc a ma && rE sc b mb
    | _ => false)
  | .tup ms => (match e with
    | .Tuple es _ _ => es.all plainE && mL rE sc es ms
    | _ => false)
  | .lst _ ms => (match e with
    | .List es _ => es.all plainE && mL rE sc es ms
    | _ => false)
  | .idx ma mb => (match e with
    | .Subscript a b _ => plainE b && rE sc a ma && rE sc b mb
    | _ => false)
  | .sl _ ma hl hh ml mh => (match e with
    | .Subscript a (.Slice lo hi none _) _ => rE sc a ma && mO rE sc lo hl ml && mO rE sc hi hh mh
    | _ => false)
  | .fld ma f => (match e with
    | .Attribute a n _ => n == D.nm f && notSuper a && rE sc a ma
    | _ => false)
  | .ccon c f => (match e with
    | .Attribute (.Name nc _) n _ => n == D.nm f && glB sc nc && okN nc && isCl D nc c
    | _ => false)
  | .call d ms => (match e with
    | .Call (.Name n _) es [] _ => glB sc n && okN n && isFn D n d && es.all plainE && mL rE sc es ms
    | _ => false)
  | .new c ms => (match e with
    | .Call (.Name n _) es [] _ => glB sc n && okN n && isCl D n c && es.all plainE && mL rE sc es ms && (match D.T.cls[c]? with
      | some ci => ci.init.isSome
      | none => false)
    | _ => false)
  | .meth mo mi ms => (match e with
    | .Call (.Attribute o n ap) es [] p => n == D.nm mi && notSuper o && (ap.endLine == p.line) && es.all plainE && decide (es.length < 30) && rE sc o mo && mL rE sc es ms
    | _ => false)
  | .smeth c mi ms => (match e with
    | .Call (.Attribute (.Name nc _) n ap) es [] p => n == D.nm mi && glB sc nc && okN nc && isCl D nc c && (ap.endLine == p.line) && es.all plainE && decide (es.length < 30) && mL rE sc es ms && (match D.T.cls[c]? with
      | some ci => (match lookN ci.stats mi with
        | some d => (D.T.defs[d]?).isSome
        | none => false)
      | none => false)
    | _ => false)
  | .bm bm _ mo ms => (match e with
    | .Call (.Attribute o n ap) (e :: es) [] p => n == bmName bm && notSuper o && (ap.endLine == p.line) && (e :: es).all plainE && decide ((e :: es).length < 30) && rE sc o mo && mL rE sc (e :: es) ms
    | _ => false)
  | .bi (.isinst q ts) _ [ma] => (match e with
    | .Call (.Name n _) [a, b] [] _ => n == ("isinstance" : Str) && glB sc n && D.nb.contains n && plainE a && plainE b && rE sc a ma && (match q, b with
      | false, b => (match ts with
        | [t] => mTy D sc b t
        | _ => false)
      | true, .Tuple es _ _ => es.all plainE && mTys D sc es ts && !ts.isEmpty && decide (ts.length ≤ 100)
      | _, _ => false)
    | _ => false)
  | .bi (.isinst _ _) _ _ => false
  | .bi .gcd _ ms => (match e with
    | .Call (.Name n _) (e :: es) [] _ => glB sc n && okN n && (match D.gs.lookup n with
      | some .gcd => true
      | _ => false) && (e :: es).all plainE && mL rE sc (e :: es) ms
    | _ => false)
  | .bi b _ ms => (match e with
    | .Call (.Name n _) (e :: es) [] _ => glB sc n && okN n && n == biName b && D.nb.contains n && (e :: es).all plainE && mL rE sc (e :: es) ms
    | _ => false)
  | .callK d ms p => (match e with
    | .Call (.Name n _) es kws _ => glB sc n && okN n && isFn D n d && es.all plainE && mL rE sc es (ms.take es.length) && mK rE sc kws (ms.drop es.length) && D.kw.any (fun kk => kk.d == d && kk.perm == p && kk.npos == es.length && decide (kws.map (·.arg) = (kk.ks.map D.nm).map some))
    | _ => false)
  | .newK c ms p => (match e with
    | .Call (.Name n _) es kws _ => glB sc n && okN n && isCl D n c && es.all plainE && mL rE sc es (ms.take es.length) && mK rE sc kws (ms.drop es.length) &&
      D.kw.any (fun kk => (match D.T.cls[c]? with
        | some ci => ci.init == some kk.d
        | none => false) && decide (kk.perm = 0 :: p.map (· + 1)) && kk.npos == es.length + 1 && decide (kws.map (·.arg) = (kk.ks.map D.nm).map some))
    | _ => false)
  | .fmt ms => (match e with
    | .JoinedStr (e1 :: e2 :: es) _ => mF rE sc (e1 :: e2 :: es) ms
    | _ => false)
  | .lc _ t mi cs me => (match e with
    | .ListComp elt [⟨tg, iter, ifs, 0⟩] scope _ => (match ownOf tg t with
      | some own => blkC N sc scope own && decide (own.map (·.2) = tgs t) && notSet iter && mI D rE sc iter mi && mTg N (relS scope sc) false tg t && mIfs (rB (relS scope sc)) ifs cs && rE (relS scope sc) elt me
      | none => false)
    | _ => false)
  | .edct => (match e with
    | .Dict [] [] _ => true
    | _ => false)
  | .rng _ => false
def plainT : Expr → Bool
  | .UnaryOp _ _ _ => false
  | .BoolOp _ _ _ => false
  | .IfExp _ _ _ _ => false
  | .Compare _ _ _ _ => false
  | _ => true
def chAB : List Expr → B → Bool
  | [a], m => rB sc a m
  | a :: b :: r, m => (match m with
    | .and ma mb => rB sc a ma && chAB (b :: r) mb
    | _ => false)
  | _, _ => false
def chOB : List Expr → B → Bool
  | [a], m => rB sc a m
  | a :: b :: r, m => (match m with
    | .or ma mb => rB sc a ma && chOB (b :: r) mb
    | _ => false)
  | _, _ => false
def stepB (e : Expr) (b : B) : Bool := match b with
  | .e m => plainT e && rE sc e m
  | .not b => (match e with
    | .UnaryOp .Not a _ => rB sc a b
    | _ => false)
  | .cmp o ma mb => (match e with
    | .Compare a [op] [b] _ => decide (op = cop o) && !behindInMarks op b && rE sc a ma && rE sc b mb
    | _ => false)
  | .and _ _ => (match e with
    | .BoolOp .And (a :: c :: r) _ => chAB rB sc (a :: c :: r) b
    | _ => false)
  | .or _ _ => (match e with
    | .BoolOp .Or (a :: c :: r) _ => chOB rB sc (a :: c :: r) b
    | _ => false)
end
def mR (D : Dat) (N : List Str) : Nat → (Scope → Expr → E → Bool) × (Scope → Expr → B → Bool)
  | 0 => (fun _ _ _ => false, fun _ _ _ => false)
  | k + 1 => (fun sc e m => stepE D N (mR D N k).1 (mR D N k).2 sc e m, fun sc e b => stepB (mR D N k).1 (mR D N k).2 sc e b)
end Vm
set_option Elab.async false
set_option linter.all false
set_option maxRecDepth 100000
set_option maxHeartbeats 4000000
/-! The checker is right. -/
namespace Vm
open PySem PySem.Spec PyProof.Rows L2
open PySem.W (Looks)

def SndE (D : Dat) (C : Calls) (L : Nat) (N : List Str) (rE : Scope → Expr → E → Bool) : Prop := ∀ (X : Cx) (W : WX) (sc : Scope) (e : Expr) (m : E), Wk X D C L W → X.N = N → X.env.scope = sc → rE sc e m = true → PEv X D C W e m
def SndB (D : Dat) (C : Calls) (L : Nat) (N : List Str) (rB : Scope → Expr → B → Bool) : Prop := ∀ (X : Cx) (W : WX) (sc : Scope) (e : Expr) (b : B), Wk X D C L W → X.N = N → X.env.scope = sc → rB sc e b = true → PTv X D C W e b

section
variable {D : Dat} {C : Calls} {L : Nat} {N : List Str} {rE : Scope → Expr → E → Bool} {rB : Scope → Expr → B → Bool} {X : Cx} {W : WX} {sc : Scope}
theorem vis_of {n : Str} (hs : X.env.scope = sc) (h : visB sc n = true) : Vis X.env.scope n := by
  subst hs
  unfold visB at h
  split at h
  · exact .inl (by assumption)
  · exact .inr (.inl (by assumption))
  · exact .inr (.inr (by assumption))
  · cases h
theorem loc_of {n : Str} (hs : X.env.scope = sc) (h : locB sc n = true) : X.env.scope.names.lookup n = some .local := by
  subst hs
  unfold locB at h
  split at h
  · assumption
  · cases h
theorem gl_of {n : Str} (hs : X.env.scope = sc) (h : glB sc n = true) : Gl X n := by
  subst hs
  unfold glB at h
  split at h
  · assumption
  · cases h
theorem okN_of {n : Str} (h : okN n = true) : (n == ("__debug__" : Str)) = false ∧ (n == ("__classdict__" : Str)) = false := by
  unfold okN at h
  rw [Bool.and_eq_true] at h
  exact ⟨by simpa using h.1, by simpa using h.2⟩
theorem txt_of {z : Str} {x : List Nat} (h : (z.cps.toList == x) = true) : z = txt x := by
  have := beq_iff_eq.mp h
  subst this
  exact (txt_tl z).symm
theorem isFn_of {n : Str} {d : Nat} (w : Wk X D C L W) (h : isFn D n d = true) : X.mg n = some (.ref (D.fa d)) ∧ ∃ di, D.T.defs[d]? = some di := by
  unfold isFn at h
  rw [Bool.and_eq_true] at h
  obtain ⟨h1, h2⟩ := h
  refine ⟨?_, Option.isSome_iff_exists.mp h2⟩
  split at h1
  · rename_i k hk
    have := beq_iff_eq.mp h1
    subst this
    exact w.fa.gs _ _ hk
  · cases h1
theorem isCl_of {n : Str} {c : Nat} (w : Wk X D C L W) (h : isCl D n c = true) : X.mg n = some (.ref (D.ca c)) ∧ ∃ ci, D.T.cls[c]? = some ci ∧ ci.isx = false := by
  unfold isCl at h
  rw [Bool.and_eq_true] at h
  obtain ⟨h1, h2⟩ := h
  refine ⟨?_, ?_⟩
  · split at h1
    · rename_i k hk
      have := beq_iff_eq.mp h1
      subst this
      exact w.fa.gs _ _ hk
    · cases h1
  · split at h2
    · rename_i ci hci
      exact ⟨ci, hci, by simpa using h2⟩
    · cases h2
theorem nb_of {n : Str} (w : Wk X D C L W) (h : D.nb.contains n = true) : X.mg n = none := w.fa.nb n (by simpa using h)

theorem mL_ok (sE : SndE D C L N rE) (w : Wk X D C L W) (hN : X.N = N) (hs : X.env.scope = sc) : ∀ {es : List Expr} {ms : List E}, es.all plainE = true → mL rE sc es ms = true → PLv X D C W es ms
  | [], [], _, _ => pl_nil
  | e :: es, m :: ms, hp, h => by
    unfold mL at h
    rw [Bool.and_eq_true] at h
    rw [List.all_cons, Bool.and_eq_true] at hp
    exact pl_cons (sE X W sc e m w hN hs h.1) (mL_ok sE w hN hs hp.2 h.2) (star1 hp.1)
  | [], _ :: _, _, h => by cases h
  | _ :: _, [], _, h => by cases h
theorem mL_nil {es : List Expr} {ms : List E} (h : mL rE sc es ms = true) : es = [] → ms = [] := by
  rintro rfl
  cases ms with
  | nil => rfl
  | cons _ _ => cases h
theorem mL_len : ∀ {es : List Expr} {ms : List E}, mL rE sc es ms = true → es.length = ms.length
  | [], [], _ => rfl
  | e :: es, m :: ms, h => by
    unfold mL at h
    rw [Bool.and_eq_true] at h
    exact congrArg (· + 1) (mL_len h.2)
  | [], _ :: _, h => by cases h
  | _ :: _, [], h => by cases h
theorem mK_ok (sE : SndE D C L N rE) (w : Wk X D C L W) (hN : X.N = N) (hs : X.env.scope = sc) : ∀ {es : List Keyword} {ms : List E}, mK rE sc es ms = true → PKv X D C W es ms
  | [], [], _ => pk_nil2
  | ⟨_, e, _⟩ :: es, m :: ms, h => by
    unfold mK at h
    rw [Bool.and_eq_true] at h
    exact pk_cons2 (sE X W sc e m w hN hs h.1) (mK_ok sE w hN hs h.2)
  | [], _ :: _, h => by cases h
  | ⟨_, _, _⟩ :: _, [], h => by simp [mK] at h
theorem mK_len : ∀ {es : List Keyword} {ms : List E}, mK rE sc es ms = true → es.length = ms.length
  | [], [], _ => rfl
  | ⟨_, e, _⟩ :: es, m :: ms, h => by
    unfold mK at h
    rw [Bool.and_eq_true] at h
    exact congrArg (· + 1) (mK_len h.2)
  | [], _ :: _, h => by cases h
  | ⟨_, _, _⟩ :: _, [], h => by simp [mK] at h
theorem mO_ok (sE : SndE D C L N rE) (w : Wk X D C L W) (hN : X.N = N) (hs : X.env.scope = sc) {oe : Option Expr} {hl : Bool} {m : E} (h : mO rE sc oe hl m = true) : PPt X D C W oe hl m := by
  unfold mO at h
  split at h
  · exact .no
  · exact .yes (sE X W sc _ _ w hN hs h)
  · cases h
theorem mF_ok (sE : SndE D C L N rE) (w : Wk X D C L W) (hN : X.N = N) (hs : X.env.scope = sc) : ∀ {es : List Expr} {ms : List E}, mF rE sc es ms = true → PFs X D C W es ms
  | [], [], _ => .nil
  | e :: es, m :: ms, h => by
    unfold mF at h
    rw [Bool.and_eq_true] at h
    refine .cons ?_ (mF_ok sE w hN hs h.2)
    have h1 := h.1
    split at h1
    · rw [Bool.and_eq_true] at h1
      exact .str (txt_of h1.1) (of_decide_eq_true h1.2)
    · exact .fld (sE X W sc _ _ w hN hs h1)
    · cases h1
  | [], _ :: _, h => by cases h
  | _ :: _, [], h => by cases h
theorem chA_ok (sE : SndE D C L N rE) (w : Wk X D C L W) (hN : X.N = N) (hs : X.env.scope = sc) {pos : Pos} : ∀ {es : List Expr} {m : E}, chA rE sc es m = true → PEv X D C W (.BoolOp .And es pos) m
  | [a], m, h => pv_one (sE X W sc a m w hN hs h)
  | a :: b :: r, m, h => by
    unfold chA at h
    split at h
    · rw [Bool.and_eq_true] at h
      exact pv_and w (sE X W sc _ _ w hN hs h.1) (chA_ok sE w hN hs h.2)
    · cases h
  | [], _, h => by cases h
theorem chO_ok (sE : SndE D C L N rE) (w : Wk X D C L W) (hN : X.N = N) (hs : X.env.scope = sc) {pos : Pos} : ∀ {es : List Expr} {m : E}, chO rE sc es m = true → PEv X D C W (.BoolOp .Or es pos) m
  | [a], m, h => pv_one (sE X W sc a m w hN hs h)
  | a :: b :: r, m, h => by
    unfold chO at h
    split at h
    · rw [Bool.and_eq_true] at h
      exact pv_or w (sE X W sc _ _ w hN hs h.1) (chO_ok sE w hN hs h.2)
    · cases h
  | [], _, h => by cases h
theorem chAB_ok (sB : SndB D C L N rB) (w : Wk X D C L W) (hN : X.N = N) (hs : X.env.scope = sc) {pos : Pos} : ∀ {es : List Expr} {m : B}, chAB rB sc es m = true → PWv X D C W (.BoolOp .And es pos) m
  | [a], m, h => pw_andOne (sB X W sc a m w hN hs h)
  | a :: b :: r, m, h => by
    unfold chAB at h
    split at h
    · rw [Bool.and_eq_true] at h
      exact pw_and2 (sB X W sc _ _ w hN hs h.1) (chAB_ok sB w hN hs h.2)
    · cases h
  | [], _, h => by cases h
theorem chOB_ok (sB : SndB D C L N rB) (w : Wk X D C L W) (hN : X.N = N) (hs : X.env.scope = sc) {pos : Pos} : ∀ {es : List Expr} {m : B}, chOB rB sc es m = true → PWv X D C W (.BoolOp .Or es pos) m
  | [a], m, h => pw_orOne (sB X W sc a m w hN hs h)
  | a :: b :: r, m, h => by
    unfold chOB at h
    split at h
    · rw [Bool.and_eq_true] at h
      exact pw_or2 (sB X W sc _ _ w hN hs h.1) (chOB_ok sB w hN hs h.2)
    · cases h
  | [], _, h => by cases h
theorem mTy_ok (w : Wk X D C L W) (hs : X.env.scope = sc) {e : Expr} {t : Ty} (h : mTy D sc e t = true) : PE X e (tC (tyV1 D t)) ∧ okTy D t ∧ plainE e = true := by
  unfold mTy at h
  split at h
  · rename_i n p
    simp only [Bool.and_eq_true] at h
    obtain ⟨⟨h1, h2⟩, h3⟩ := h
    have hg := gl_of hs h1
    have hd := okN_of h2
    have blt : ∀ (t : Ty) (T : String), n = T → X.mg n = none → tyV1 D t = .ty T → bootBuiltins T = some (.type T) → (Str.ofString T ≠ "__name__") → PE X (.Name n p) (tC (tyV1 D t)) := by
      intro t T e hm ht hb hn
      subst e
      rw [ht]
      exact pe_bltn hg hm hb rfl hn hd.1
    cases t with
    | cls c =>
      obtain ⟨hm, ci, hc, hx⟩ := isCl_of w h3
      exact ⟨pe_glob hg hm rfl hd.1, ⟨ci, hc, hx⟩, rfl⟩
    | int =>
      simp only [Bool.and_eq_true, beq_iff_eq] at h3
      exact ⟨blt .int "int" h3.1 (nb_of w h3.2) rfl (by decide +kernel) (by decide +kernel), trivial, rfl⟩
    | bool =>
      simp only [Bool.and_eq_true, beq_iff_eq] at h3
      exact ⟨blt .bool "bool" h3.1 (nb_of w h3.2) rfl (by decide +kernel) (by decide +kernel), trivial, rfl⟩
    | str =>
      simp only [Bool.and_eq_true, beq_iff_eq] at h3
      exact ⟨blt .str "str" h3.1 (nb_of w h3.2) rfl (by decide +kernel) (by decide +kernel), trivial, rfl⟩
    | list =>
      simp only [Bool.and_eq_true, beq_iff_eq] at h3
      exact ⟨blt .list "list" h3.1 (nb_of w h3.2) rfl (by decide +kernel) (by decide +kernel), trivial, rfl⟩
    | tuple =>
      simp only [Bool.and_eq_true, beq_iff_eq] at h3
      exact ⟨blt .tuple "tuple" h3.1 (nb_of w h3.2) rfl (by decide +kernel) (by decide +kernel), trivial, rfl⟩
    | dict =>
      simp only [Bool.and_eq_true, beq_iff_eq] at h3
      exact ⟨blt .dict "dict" h3.1 (nb_of w h3.2) rfl (by decide +kernel) (by decide +kernel), trivial, rfl⟩
  · cases h
theorem mTys_ok (w : Wk X D C L W) (hs : X.env.scope = sc) : ∀ {es : List Expr} {ts : List Ty}, mTys D sc es ts = true → (PA X es (fun _ H Q => Q (ts.map (tyV1 D)) H)) ∧ (∀ t ∈ ts, okTy D t)
  | [], [], _ => ⟨pa_nil, fun _ h => by cases h⟩
  | e :: es, t :: ts, h => by
    unfold mTys at h
    rw [Bool.and_eq_true] at h
    obtain ⟨h1, h2, h3⟩ := mTy_ok w hs h.1
    obtain ⟨i1, i2⟩ := mTys_ok w hs h.2
    exact ⟨pa_cons h1 i1 (star1 h3), fun z hz => (List.mem_cons.mp hz).elim (fun q => q ▸ h2) (i2 z)⟩
  | [], _ :: _, h => by cases h
  | _ :: _, [], h => by cases h
theorem notSet_ok {e : Expr} {env : Env} (h : notSet e = true) : ∀ x, foldedSetIterable e env x = pure x := by
  cases e <;> first | (intro _; rfl) | cases h
theorem mI_ok (sE : SndE D C L N rE) (w : Wk X D C L W) (hN : X.N = N) (hs : X.env.scope = sc) {tg e : Expr} {m : E} (h : mI D rE sc e m = true) : PIv X D C W tg e m := by
  unfold mI at h
  split at h
  · split at h
    · simp only [Bool.and_eq_true, beq_iff_eq] at h
      obtain ⟨⟨⟨⟨rfl, h2⟩, h3⟩, h4⟩, h5⟩ := h
      exact pi_r1 (gl_of hs h2) (nb_of w h3) (pl_cons (sE X W sc _ _ w hN hs h5) pl_nil (star1 h4)) h4
    · cases h
  · split at h
    · simp only [Bool.and_eq_true, beq_iff_eq] at h
      obtain ⟨⟨⟨⟨⟨⟨rfl, h2⟩, h3⟩, h4⟩, h5⟩, h6⟩, h7⟩ := h
      exact pi_r2 (gl_of hs h2) (nb_of w h3) (pl_cons (sE X W sc _ _ w hN hs h6) (pl_cons (sE X W sc _ _ w hN hs h7) pl_nil (star1 h5)) (star1 h4)) h4 h5
    · cases h
  · cases h
  · exact pi_v (sE X W sc _ _ w hN hs h)
theorem sto_of {cl : Bool} {n : Str} (hs : X.env.scope = sc) (hf : cl = true → ∀ n, X.fn n = true) (h : stoB cl sc n = true) : Sto X n := by
  subst hs
  unfold stoB at h
  split at h
  · rename_i q
    exact ⟨.inl q, .inr q⟩
  · rename_i q
    exact ⟨.inr q, .inl (hf h n)⟩
  · cases h
theorem mTgs_ok {cl : Bool} (hN : X.N = N) (hs : X.env.scope = sc) (hf : cl = true → ∀ n, X.fn n = true) : ∀ {es : List Expr} {is : List Nat}, mTgs N sc cl es is = true → Paired (fun e i => ∃ n p, e = Expr.Name n p ∧ X.N[i]? = some n ∧ Sto X n) es is
  | [], [], _ => .nil
  | e :: es, i :: is, h => by
    unfold mTgs at h
    rw [Bool.and_eq_true] at h
    have h1 := h.1
    split at h1
    · simp only [Bool.and_eq_true, beq_iff_eq] at h1
      exact .cons ⟨_, _, rfl, by rw [hN]; exact h1.1, sto_of hs hf h1.2⟩ (mTgs_ok hN hs hf h.2)
    · cases h1
  | [], _ :: _, h => by cases h
  | _ :: _, [], h => by cases h
theorem mTg_ok {cl : Bool} (hN : X.N = N) (hs : X.env.scope = sc) (hf : cl = true → ∀ n, X.fn n = true) {e : Expr} {t : Tg} (h : mTg N sc cl e t = true) : PTg X e t := by
  unfold mTg at h
  split at h
  · simp only [Bool.and_eq_true, beq_iff_eq] at h
    exact .one (by rw [hN]; exact h.1) (sto_of hs hf h.2)
  · exact .many (mTgs_ok hN hs hf h)
  · cases h
theorem mIfs_ok (sB : SndB D C L N rB) (w : Wk X D C L W) (hN : X.N = N) (hs : X.env.scope = sc) {cs : List Expr} {bs : List B} (h : mIfs (rB sc) cs bs = true) : PTss X D C W cs bs := by
  unfold mIfs at h
  split at h
  · exact .nil
  · exact .one (sB X W sc _ _ w hN hs h)
  · cases h
theorem plainT_ok {e : Expr} {env : Env} (h : plainT e = true) : ∀ whole, isTrue e env whole = (do let v ← whole; standAt e.pos; holding [v] (truthy v)) := by
  cases e <;> first | (intro _; rfl) | cases h

theorem stepB_ok (sE : SndE D C L N rE) (sB : SndB D C L N rB) : SndB D C L N (stepB rE rB) := by
  intro X W sc e b w hN hs h
  unfold stepB at h
  split at h
  · rw [Bool.and_eq_true] at h
    exact pt_e w (sE X W sc _ _ w hN hs h.2) (plainT_ok h.1)
  · split at h
    · exact (pw_not2 (sB X W sc _ _ w hN hs h)).pt
    · cases h
  · split at h
    · simp only [Bool.and_eq_true, decide_eq_true_eq, Bool.not_eq_true'] at h
      obtain ⟨⟨⟨rfl, h2⟩, h3⟩, h4⟩ := h
      exact (pt_cmp2 w _ (sE X W sc _ _ w hN hs h3) (sE X W sc _ _ w hN hs h4) h2).pt
    · cases h
  · split at h
    · exact (chAB_ok sB w hN hs h).pt
    · cases h
  · split at h
    · exact (chOB_ok sB w hN hs h).pt
    · cases h

theorem ownOf_ok {e : Expr} {t : Tg} {own : List (Str × Nat)} (h : own.map (·.2) = tgs t) : ∀ i, i ∈ own.map (·.2) ↔ i ∈ tgs t := fun i => by rw [h]
theorem kws_len {kws : List Keyword} {ns : List Str} (h : kws.map (·.arg) = ns.map some) : kws.length = ns.length := by
  have := congrArg List.length h
  simpa using this
theorem stepE_ok (Nd : N.Nodup) (sE : SndE D C L N rE) (sB : SndB D C L N rB) : SndE D C L N (stepE D N rE rB) := by
  intro X W sc e m w hN hs h
  unfold stepE at h
  split at h
  · -- var
    split at h
    · simp only [Bool.and_eq_true, beq_iff_eq] at h
      obtain ⟨⟨h1, h2⟩, h3⟩ := h
      exact pv_var (by rw [hN]; exact h1) (vis_of hs h2) (okN_of h3).1 (okN_of h3).2
    · cases h
  · -- cst
    split at h
    · simp only [Bool.and_eq_true] at h
      obtain ⟨⟨h1, h2⟩, h3⟩ := h
      split at h3
      · rename_i y hy
        have := pvEq_ok _ _ _ h3
        subst this
        obtain ⟨u, v, z1, z2, z3⟩ := w.fa.gs _ _ hy
        exact pv_con (gl_of hs h1) z1 z2 z3 (okN_of h2).1
      · cases h3
    · split at h
      · have := beq_iff_eq.mp h; subst this; exact pv_int
      · cases h
    · split at h
      · have := beq_iff_eq.mp h; subst this; exact pv_bl
      · cases h
    · split at h
      · exact pv_non
      · cases h
    · split at h
      · rw [Bool.and_eq_true] at h
        exact pv_str (txt_of h.1) (of_decide_eq_true h.2)
      · cases h
    · cases h
  · split at h
    · exact pv_neg w (sE X W sc _ _ w hN hs h)
    · cases h
  · split at h
    · exact pv_not w (sE X W sc _ _ w hN hs h)
    · cases h
  · split at h
    · simp only [Bool.and_eq_true, decide_eq_true_eq] at h
      obtain ⟨⟨rfl, h3⟩, h4⟩ := h
      exact pv_op w _ (sE X W sc _ _ w hN hs h3) (sE X W sc _ _ w hN hs h4)
    · cases h
  · split at h
    · simp only [Bool.and_eq_true, decide_eq_true_eq, Bool.not_eq_true'] at h
      obtain ⟨⟨⟨rfl, h2⟩, h3⟩, h4⟩ := h
      exact pv_cmp w _ (sE X W sc _ _ w hN hs h3) (sE X W sc _ _ w hN hs h4) h2
    · cases h
  · split at h
    · exact chA_ok sE w hN hs h
    · cases h
  · split at h
    · exact chO_ok sE w hN hs h
    · cases h
  · split at h
    · simp only [Bool.and_eq_true] at h
      exact pv_ite (sB X W sc _ _ w hN hs h.1.1) (sE X W sc _ _ w hN hs h.1.2) (sE X W sc _ _ w hN hs h.2)
    · cases h
  · split at h
    · rw [Bool.and_eq_true] at h
      exact pv_tup (mL_ok sE w hN hs h.1 h.2)
    · cases h
  · split at h
    · rw [Bool.and_eq_true] at h
      exact pv_lst (mL_ok sE w hN hs h.1 h.2)
    · cases h
  · split at h
    · simp only [Bool.and_eq_true] at h
      exact pv_idx w (sE X W sc _ _ w hN hs h.1.2) (sE X W sc _ _ w hN hs h.2) (sub_plain h.1.1)
    · cases h
  · split at h
    · simp only [Bool.and_eq_true] at h
      exact pv_sl w (sE X W sc _ _ w hN hs h.1.1) (mO_ok sE w hN hs h.1.2) (mO_ok sE w hN hs h.2)
    · cases h
  · split at h
    · simp only [Bool.and_eq_true, beq_iff_eq] at h
      exact pv_fld w h.1.1 (sE X W sc _ _ w hN hs h.2) (base_ok h.1.2)
    · cases h
  · split at h
    · simp only [Bool.and_eq_true, beq_iff_eq] at h
      obtain ⟨⟨⟨h1, h2⟩, h3⟩, h4⟩ := h
      obtain ⟨hm, ci, hc, hx⟩ := isCl_of w h4
      exact pv_ccon w hc hx h1 (gl_of hs h2) hm (okN_of h3).1
    · cases h
  · -- call
    split at h
    · simp only [Bool.and_eq_true] at h
      obtain ⟨⟨⟨⟨h1, h2⟩, h3⟩, h4⟩, h5⟩ := h
      obtain ⟨hm, di, hd⟩ := isFn_of w h3
      exact pv_call w hd (gl_of hs h1) hm (okN_of h2).1 (mL_ok sE w hN hs h4 h5) (mL_nil h5) h4
    · cases h
  · -- new
    split at h
    · simp only [Bool.and_eq_true] at h
      obtain ⟨⟨⟨⟨⟨h1, h2⟩, h3⟩, h4⟩, h5⟩, h6⟩ := h
      obtain ⟨hm, ci, hc, hx⟩ := isCl_of w h3
      rw [hc] at h6
      obtain ⟨d, hi⟩ := Option.isSome_iff_exists.mp h6
      exact pv_new w hc hx hi (gl_of hs h1) hm (okN_of h2).1 (mL_ok sE w hN hs h4 h5) (mL_nil h5) h4
    · cases h
  · -- meth
    split at h
    · simp only [Bool.and_eq_true, beq_iff_eq, decide_eq_true_eq] at h
      obtain ⟨⟨⟨⟨⟨⟨h1, h2⟩, h3⟩, h4⟩, h5⟩, h6⟩, h7⟩ := h
      exact pv_meth w h1 (sE X W sc _ _ w hN hs h6) h2 (beq_iff_eq.mpr h3) (mL_ok sE w hN hs h4 h7) (mL_nil h7) h4 h5
    · cases h
  · -- smeth
    split at h
    · simp only [Bool.and_eq_true, beq_iff_eq, decide_eq_true_eq] at h
      obtain ⟨⟨⟨⟨⟨⟨⟨⟨h1, h2⟩, h3⟩, h4⟩, h5⟩, h6⟩, h7⟩, h8⟩, h9⟩ := h
      obtain ⟨hm, ci, hc, hx⟩ := isCl_of w h4
      rw [hc] at h9
      dsimp only at h9
      split at h9
      · rename_i d hd
        obtain ⟨di, hdi⟩ := Option.isSome_iff_exists.mp h9
        exact pv_smeth w hc hx hd hdi h1 (gl_of hs h2) hm (okN_of h3).1 (beq_iff_eq.mpr h5) (mL_ok sE w hN hs h6 h8) (mL_nil h8) h6 h7
      · cases h9
    · cases h
  · -- bm
    split at h
    · simp only [Bool.and_eq_true, beq_iff_eq, decide_eq_true_eq] at h
      obtain ⟨⟨⟨⟨⟨⟨h1, h2⟩, h3⟩, h4⟩, h5⟩, h6⟩, h7⟩ := h
      exact pv_bm w h1 (sE X W sc _ _ w hN hs h6) h2 (beq_iff_eq.mpr h3) (mL_ok sE w hN hs h4 h7) h4 h5
    · cases h
  · -- isinstance
    split at h
    · simp only [Bool.and_eq_true, beq_iff_eq] at h
      obtain ⟨⟨⟨⟨⟨⟨rfl, h2⟩, h3⟩, h4⟩, h5⟩, h6⟩, h7⟩ := h
      split at h7
      · split at h7
        · obtain ⟨t1, t2, t3⟩ := mTy_ok w hs h7
          exact pv_isi w (gl_of hs h2) (nb_of w h3) (sE X W sc _ _ w hN hs h6) h4 (.one t1) h5 (fun t ht => by rw [List.mem_singleton] at ht; subst ht; exact t2) (by simp)
        · cases h7
      · simp only [Bool.and_eq_true, decide_eq_true_eq, Bool.not_eq_true'] at h7
        obtain ⟨⟨⟨z1, z2⟩, z3⟩, z4⟩ := h7
        obtain ⟨p1, p2⟩ := mTys_ok w hs z2
        refine pv_isi w (gl_of hs h2) (nb_of w h3) (sE X W sc _ _ w hN hs h6) h4 (.many ?_) h5 p2 (by intro q; subst q; cases z3)
        refine ⟨fun pins s τ H Q I hq => (pe_tup p1).run pins s τ H Q I ⟨?_, hq⟩⟩
        rw [List.length_map]
        exact Nat.le_trans z4 (by decide)
      · cases h7
    · cases h
  · cases h
  · -- gcd
    split at h
    · simp only [Bool.and_eq_true] at h
      obtain ⟨⟨⟨⟨h1, h2⟩, h3⟩, h4⟩, h5⟩ := h
      split at h3
      · rename_i hg
        exact pv_bi w (fun q ts z => nomatch z) (gl_of hs h1) (.inr ⟨rfl, w.fa.gs _ _ hg⟩) (okN_of h2).1 (mL_ok sE w hN hs h4 h5) h4
      · cases h3
    · cases h
  · -- bi
    rename_i b fr ms n1 n2 n3
    split at h
    · simp only [Bool.and_eq_true, beq_iff_eq] at h
      obtain ⟨⟨⟨⟨⟨h1, h2⟩, h3⟩, h4⟩, h5⟩, h6⟩ := h
      refine pv_bi w (fun q ts z => ?_) (gl_of hs h1) (.inl ⟨fun z => ?_, h3, nb_of w h4⟩) (okN_of h2).1 (mL_ok sE w hN hs h5 h6) h5
      · subst z
        rcases ms with _ | ⟨ma, _ | ⟨mb, ms⟩⟩
        · exact n2 _ _ rfl
        · exact n1 _ _ _ rfl rfl
        · exact n2 _ _ rfl
      · subst z
        exact n3 rfl
    · cases h
  · -- callK
    split at h
    · simp only [Bool.and_eq_true] at h
      obtain ⟨⟨⟨⟨⟨⟨h1, h2⟩, h3⟩, h4⟩, h5⟩, h6⟩, h7⟩ := h
      obtain ⟨kk, hk, hkk⟩ := List.any_eq_true.mp h7
      simp only [Bool.and_eq_true, beq_iff_eq, decide_eq_true_eq] at hkk
      obtain ⟨⟨⟨rfl, rfl⟩, k3⟩, k4⟩ := hkk
      obtain ⟨hm, di, hd⟩ := isFn_of w h3
      have hl := mL_len h5
      rename_i ms _ n pn es kws pos
      rw [← List.take_append_drop es.length ms]
      exact pv_callK w hk hd (gl_of hs h1) hm (okN_of h2).1 (mL_ok sE w hN hs h4 h5) (mL_nil h5) h4 (mK_ok sE w hN hs h6) k4 (by rw [← hl, k3]) (by rw [← mK_len h6, kws_len k4, List.length_map])
    · cases h
  · -- newK
    split at h
    · simp only [Bool.and_eq_true] at h
      obtain ⟨⟨⟨⟨⟨⟨h1, h2⟩, h3⟩, h4⟩, h5⟩, h6⟩, h7⟩ := h
      obtain ⟨kk, hk, hkk⟩ := List.any_eq_true.mp h7
      simp only [Bool.and_eq_true, beq_iff_eq, decide_eq_true_eq] at hkk
      obtain ⟨⟨⟨k1, k2⟩, k3⟩, k4⟩ := hkk
      obtain ⟨hm, ci, hc, hx⟩ := isCl_of w h3
      rw [hc] at k1
      have hl := mL_len h5
      rename_i ms p0 _ n pn es kws pos
      rw [← List.take_append_drop es.length ms]
      exact pv_newK w hc hx (beq_iff_eq.mp k1) hk k2 (gl_of hs h1) hm (okN_of h2).1 (mL_ok sE w hN hs h4 h5) (mL_nil h5) h4 (mK_ok sE w hN hs h6) k4 (by rw [← hl, k3]) (by rw [← mK_len h6, kws_len k4, List.length_map])
    · cases h
  · -- fmt
    split at h
    · rename_i ms _ e1 e2 es pos
      cases ms with
      | nil => cases h
      | cons m1 ms =>
        cases ms with
        | nil => simp [mF] at h
        | cons m2 ms => exact pv_fmt (mF_ok sE w hN hs h)
    · cases h
  · -- lc
    split at h
    · rename_i elt tg iter ifs scope pos
      split at h
      · rename_i own ho
        simp only [Bool.and_eq_true, decide_eq_true_eq] at h
        obtain ⟨⟨⟨⟨⟨⟨h1, h2⟩, h3⟩, h4⟩, h5⟩, h6⟩, h7⟩ := h
        subst hN; subst hs
        refine pv_lc w Nd (mI_ok sE w rfl rfl h4) (blkOk_by h1) (fun i => by rw [h2]) (fun s H C0 cl fp => ?_) (notSet_ok h3)
        have wb := w.blk s H scope (compEnvC scope cl C0 X.env) fp
        exact ⟨mTg_ok (X := X.blk s H scope (compEnvC scope cl C0 X.env) fp) rfl rfl (fun z => by cases z) h5, mIfs_ok sB wb rfl rfl h6, sE _ _ _ _ _ wb rfl rfl h7⟩
      · cases h
    · cases h
  · split at h
    · exact pv_edct
    · cases h
  · cases h
end
theorem mR_ok {D : Dat} {C : Calls} {L : Nat} {N : List Str} (Nd : N.Nodup) : ∀ k, SndE D C L N (mR D N k).1 ∧ SndB D C L N (mR D N k).2
  | 0 => ⟨fun _ _ _ _ _ _ _ _ h => (Bool.noConfusion (show false = true from h)), fun _ _ _ _ _ _ _ _ h => (Bool.noConfusion (show false = true from h))⟩
  | k + 1 => ⟨stepE_ok Nd (mR_ok Nd k).1 (mR_ok Nd k).2, stepB_ok (mR_ok Nd k).1 (mR_ok Nd k).2⟩
end Vm
set_option Elab.async false
set_option linter.all false
set_option maxRecDepth 100000
set_option maxHeartbeats 1000000
/-! Statements. -/
namespace Vm
open PySem PySem.Spec PyProof.Rows L2
open PySem.W (Looks)

/-- what must hold of a statement's answer -/
def PostS (G : GD) (W : WX) (n0 : Nat) (r : RS) (ι : List Addr) (H : Hp) (Dn : Ends) : Prop :=
  match r with
  | .go f σ' s' => ∀ ι' H' τ', ExtK n0 ι H ι' H' → Sim G ι' s' H' → SRel G ι' H' σ' τ' → (match f with
    | .nx => Dn.nx τ' H'
    | .brk => Dn.bk τ' H'
    | .ct => Dn.ct τ' H'
    | .rt x => ∀ u, RepS G ι' H' x u → Dn.rt u H')
  | .ex e σ' s' => ∀ ι' H' τ' cl d, ExtK n0 ι H ι' H' → Sim G ι' s' H' → SRel G ι' H' σ' τ' → XRep G ι' H' e cl d → W cl d τ' H'
  | .bad => False
theorem PostS.at {G : GD} {W : WX} {n0 : Nat} {r : RS} {ι ι1 : List Addr} {H H1 : Hp} {Dn : Ends} (h : PostS G W n0 r ι H Dn) (e : ExtK n0 ι H ι1 H1) : PostS G W n0 r ι1 H1 Dn := by
  cases r with
  | go f σ' s' => exact fun ι' H' τ' e' S R => h ι' H' τ' (e.trans e') S R
  | ex x σ' s' => exact fun ι' H' τ' cl d e' S R q => h ι' H' τ' cl d (e.trans e') S R q
  | bad => exact h
/-- an expression's answer within a statement -/
theorem PostS.ofE {G : GD} {W : WX} {n0 : Nat} {α : Type} {r : Res α} {k : α → PS → RS} {ι : List Addr} {H : Hp} {Dn : Ends} {σ : Sl} {τ : L2.St} (h : PostS G W n0 (ofE r σ k) ι H Dn) (hn : n0 ≤ ι.length) (R : SRel G ι H σ τ) :
    Post G r ι H (fun x s' ι' H' => PostS G W n0 (k x s') ι' H' Dn) (WE W τ) := by
  cases r with
  | ok x s' => exact fun ι' H' e S => PostS.at h (e.k hn)
  | ex x s' => exact fun ι' H' cl d e S q => h ι' H' τ cl d (e.k hn) S (R.keep e) q
  | bad => exact h
/-- from one statement to the next -/
theorem PostS.seq {G : GD} {W : WX} {n0 : Nat} {r : RS} {k : Sl → PS → RS} {ι : List Addr} {H : Hp} {Dn : Ends} {N2 : L2.St → Hp → Prop} (h : PostS G W n0 (r.seq k) ι H Dn)
    (hk : ∀ σ' s' ι' H' τ', ExtK n0 ι H ι' H' → Sim G ι' s' H' → SRel G ι' H' σ' τ' → PostS G W n0 (k σ' s') ι' H' Dn → N2 τ' H') : PostS G W n0 r ι H { Dn with nx := N2 } := by
  cases r with
  | go f σ' s' =>
    cases f with
    | nx => exact fun ι' H' τ' e S R => hk σ' s' ι' H' τ' e S R (PostS.at h e)
    | brk => exact h
    | ct => exact h
    | rt x => exact h
  | ex x σ' s' => exact h
  | bad => exact h
theorem PostS.now {G : GD} {W : WX} {n0 : Nat} {σ : Sl} {s : PS} {ι : List Addr} {H : Hp} {Dn : Ends} {τ : L2.St} (h : PostS G W n0 (.go .nx σ s) ι H Dn) (hn : n0 ≤ ι.length) (S : Sim G ι s H) (R : SRel G ι H σ τ) : Dn.nx τ H := h ι H τ (.refl hn) S R

def tS (X : Cx) (D : Dat) (C : Calls) (W : WX) (n0 : Nat) (a : S) : TS := fun Dn τ H => ∃ ι st σ, n0 ≤ ι.length ∧ Sim (D.G X.K) ι st H ∧ SRel (D.G X.K) ι H σ τ ∧ PostS (D.G X.K) W n0 (exS D.T C n0 a σ st) ι H Dn
def tSs (X : Cx) (D : Dat) (C : Calls) (W : WX) (n0 : Nat) (a : List S) : TS := fun Dn τ H => ∃ ι st σ, n0 ≤ ι.length ∧ Sim (D.G X.K) ι st H ∧ SRel (D.G X.K) ι H σ τ ∧ PostS (D.G X.K) W n0 (exSs D.T C n0 a σ st) ι H Dn
abbrev PSv (X : Cx) (D : Dat) (C : Calls) (W : WX) (n0 : Nat) (st : Stmt) (a : S) : Prop := L2.PS X st (tS X D C W n0 a)
abbrev PSsv (X : Cx) (D : Dat) (C : Calls) (W : WX) (n0 : Nat) (st : List Stmt) (a : List S) : Prop := PSs X st (tSs X D C W n0 a)

/-- what a body's statements lean on -/
structure WkS (X : Cx) (D : Dat) (C : Calls) (L : Nat) (W : WX) : Prop where
  w : Wk X D C L W
  nd : X.N.Nodup
  fn : ∀ n, X.fn n = true
  po : PassesOwn (model X.prog X.w) X.A X.env X.xe
  bk : X.env.blockKind = .function

theorem ps_imp {X : Cx} {st : Stmt} {t u : TS} (h : L2.PS X st t) (k : ∀ D σ H, u D σ H → t D σ H) : L2.PS X st u := ⟨fun pins s σ H D I q => h.run pins s σ H D I (k _ _ _ q)⟩
theorem pss_imp {X : Cx} {st : List Stmt} {t u : TS} (h : PSs X st t) (k : ∀ D σ H, u D σ H → t D σ H) : PSs X st u := ⟨fun pins s σ H D I q => h.run pins s σ H D I (k _ _ _ q)⟩

section
variable {X : Cx} {D : Dat} {C : Calls} {L : Nat} {W : WX} {n0 : Nat} {pins : List (Addr × Obj)} {τ : L2.St} {H : Hp} {s : Shared} {ι : List Addr} {st : PS} {σ : Sl} {x y : SV} {u u' : V} {v v' : Value} {Dn : Ends}
  {e a b o : Expr} {es : List Expr} {m ma mb mo mi : E} {ms : List E} {pos p apos : Pos} {n : Str} {sts : List Stmt} {ss : List S} {stm : Stmt} {sm : S}

/-- an expression within a statement: its end -/
theorem tE_of {k : SV → PS → RS} {Q : VK} (hn : n0 ≤ ι.length) (S : Sim (D.G X.K) ι st H) (R : SRel (D.G X.K) ι H σ τ) (h : PostS (D.G X.K) W n0 (ofE (evE D.T C m σ st) σ k) ι H Dn)
    (hk : ∀ x s1 ι1 H1 u, Ext ι H ι1 H1 → n0 ≤ ι1.length → Sim (D.G X.K) ι1 s1 H1 → SRel (D.G X.K) ι1 H1 σ τ → RepS (D.G X.K) ι1 H1 x u → PostS (D.G X.K) W n0 (k x s1) ι1 H1 Dn → Q u H1) : tE X D C W m τ H Q :=
  ⟨ι, st, σ, S, R, (h.ofE hn R).imp fun x s1 ι1 H1 e1 S1 q u r => hk x s1 ι1 H1 u e1 (e1.k hn).hi S1 (R.keep e1) r q⟩

theorem ss_nil : PSsv X D C W n0 [] [] := pss_imp pss_nil fun Dn τ H h => by
  obtain ⟨ι, st, σ, hn, S, R, h⟩ := h
  rw [exSs] at h
  exact h.now hn S R
theorem ss_cons (h1 : PSv X D C W n0 stm sm) (h2 : PSsv X D C W n0 sts ss) : PSsv X D C W n0 (stm :: sts) (sm :: ss) := pss_imp (pss_cons h1 h2) fun Dn τ H h => by
  obtain ⟨ι, st, σ, hn, S, R, h⟩ := h
  rw [exSs] at h
  exact ⟨ι, st, σ, hn, S, R, h.seq fun σ' s' ι' H' τ' e S' R' q => ⟨ι', s', σ', e.hi, S', R', q⟩⟩
/-- a list is frozen: nothing of the text -/
theorem ss_frz {i : Nat} (h2 : PSsv X D C W n0 sts ss) : PSsv X D C W n0 sts (.frz i :: ss) := pss_imp h2 fun Dn τ H h => by
  obtain ⟨ι, st, σ, hn, S, R, h⟩ := h
  rw [exSs, exS] at h
  unfold frzS at h
  split at h
  · rename_i n hi
    split at h
    · rename_i hnn
      split at h
      · rename_i xs hxs
        split at h
        · rename_i ys hys
          dsimp only at h
          split at h
          · rename_i hall
            obtain ⟨a, h1, us, h2', h3, h4⟩ := S.at_ n _ hxs
            have S' := S.cut n
            have Rk := (RepSs.ofVs hys h3).keep (Stay.cut (k := n))
            have out := S.last_out h1
            obtain ⟨u0, g1, g2, _⟩ := R.2 i _ hi
            obtain ⟨a', g3, g4⟩ := g2
            rw [h1] at g3
            cases g3
            subst g4
            refine ⟨ι.take n, st.take n, _, by rw [List.length_take]; have := S.len; have := S.ref_lt h1; omega, S', ?_, PostS.at h ⟨hn, by rw [List.length_take]; have := S.len; have := S.ref_lt h1; omega, ?_, Stay.cut⟩⟩
            · refine ⟨by rw [List.length_set]; exact R.1, fun j y q => ?_⟩
              by_cases hj : i = j
              · subst hj
                have hlt : i < σ.length := (List.getElem?_eq_some_iff.mp hi).1
                rw [List.getElem?_set_self hlt] at q
                cases q
                exact ⟨_, g1, .lst h2' out Rk, trivial⟩
              · have hq := q
                rw [List.getElem?_set_ne hj] at q
                obtain ⟨u, f1, f2, f3⟩ := R.2 j y q
                have hb : blw n y := by
                  cases y with
                  | v _ => trivial
                  | ref m =>
                    have hm := List.all_eq_true.mp hall _ (List.mem_of_getElem? hq)
                    have hm' : (m != n) = true := hm
                    have hml : m < ι.length := f3
                    have : m ≠ n := by simpa using hm'
                    show m < n
                    have := S.len
                    omega
                have f4 := f2.cut hb
                exact ⟨u, f1, f4, f4.blw⟩
            · rw [List.take_take, Nat.min_eq_left hnn.1]
          · exact h.elim
        · exact h.elim
      · exact h.elim
    · exact h.elim
  · exact h.elim

theorem sv_pass : PSv X D C W n0 (.Pass pos) .pass := ps_imp ps_pass fun Dn τ H h => by
  obtain ⟨ι, st, σ, hn, S, R, h⟩ := h
  rw [exS] at h
  exact h.now hn S R
theorem sv_doc {z : Str} {j : Nat} : PSv X D C W n0 (.Expr (.Constant (.str z) j p) pos) .pass := ps_imp ps_doc fun Dn τ H h => by
  obtain ⟨ι, st, σ, hn, S, R, h⟩ := h
  rw [exS] at h
  exact h.now hn S R
theorem sv_brk : PSv X D C W n0 (.Break pos) .brk := ps_imp ps_break fun Dn τ H h => by
  obtain ⟨ι, st, σ, hn, S, R, h⟩ := h
  rw [exS] at h
  exact h ι H τ (.refl hn) S R
theorem sv_ct : PSv X D C W n0 (.Continue pos) .cont := ps_imp ps_continue fun Dn τ H h => by
  obtain ⟨ι, st, σ, hn, S, R, h⟩ := h
  rw [exS] at h
  exact h ι H τ (.refl hn) S R
theorem sv_retN : PSv X D C W n0 (.Return none pos) .retN := ps_imp ps_retN fun Dn τ H h => by
  obtain ⟨ι, st, σ, hn, S, R, h⟩ := h
  rw [exS] at h
  exact h ι H τ (.refl hn) S R _ .non
theorem sv_ret (ha : PEv X D C W a ma) : PSv X D C W n0 (.Return (some a) pos) (.ret ma) := ps_imp (ps_ret ha) fun Dn τ H h => by
  obtain ⟨ι, st, σ, hn, S, R, h⟩ := h
  rw [exS] at h
  exact tE_of hn S R h fun x s1 ι1 H1 u e1 hn1 S1 R1 r q => q ι1 H1 τ (.refl hn1) S1 R1 u r
theorem sv_ex (ha : PEv X D C W a ma) (hs : swapsWith a none pos.line X.env = pure false) : PSv X D C W n0 (.Expr a pos) (.ex ma) := ps_imp (ps_expr ha hs) fun Dn τ H h => by
  obtain ⟨ι, st, σ, hn, S, R, h⟩ := h
  rw [exS] at h
  exact tE_of hn S R h fun x s1 ι1 H1 u e1 hn1 S1 R1 r q => q.now hn1 S1 R1
theorem sv_ite {c : Expr} {bc : B} {sa sb : List Stmt} {xa xb : List S} (hc : PTv X D C W c bc) (ha : PSsv X D C W n0 sa xa) (hb : PSsv X D C W n0 sb xb) : PSv X D C W n0 (.If c sa sb pos) (.ite bc xa xb) := ps_imp (ps_if hc ha hb) fun Dn τ H h => by
  obtain ⟨ι, st, σ, hn, S, R, h⟩ := h
  rw [exS] at h
  refine ⟨ι, st, σ, S, R, (h.ofE hn R).imp fun k s1 ι1 H1 e1 S1 q => ?_⟩
  cases k with
  | true => exact ⟨ι1, s1, σ, (e1.k hn).hi, S1, R.keep e1, q⟩
  | false => exact ⟨ι1, s1, σ, (e1.k hn).hi, S1, R.keep e1, q⟩
theorem sv_set (w : WkS X D C L W) {i : Nat} (hi : X.N[i]? = some n) (hx : Sto X n) (ha : PEv X D C W a ma) (hs : swapsWith a (some (.Name n p)) pos.line X.env = pure false) : PSv X D C W n0 (.Assign [.Name n p] a pos) (.set i ma) :=
  ps_imp (ps_set w.nd hi hx.1 ha hs hx.2) fun Dn τ H h => by
    obtain ⟨ι, st, σ, hn, S, R, h⟩ := h
    rw [exS] at h
    exact tE_of hn S R h fun x s1 ι1 H1 u e1 hn1 S1 R1 r q => q.now hn1 S1 (R1.set r i)
/-- name = [..] -/
theorem sv_setLc (w : WkS X D C L W) {tg iter elt : Expr} {t : Tg} {ifs : List Expr} {cs : List B} {me : E} {fr : Bool} {scope : Scope} {own : List (Str × Nat)} {i : Nat} (hi' : X.N[i]? = some n) (hyl : X.env.scope.names.lookup n = some .local)
    (hl : (p.line == apos.line) = true) (ho : (scope.names.any fun (z, k) => z == n && (k == .local || k == .cell)) = false) (hk : X.env.scope.kind = .function)
    (hi : PIv X D C W tg iter mi) (ok : BlkOk X.N X.env.scope scope own) (hown : ∀ i, i ∈ own.map (·.2) ↔ i ∈ tgs t)
    (hb : ∀ (s : Shared) (H : Hp) (C0 : Addr) (cl : List (Str × Addr)) (fp : List Addr), PTg (X.blk s H scope (compEnvC scope cl C0 X.env) fp) tg t ∧ PTss (X.blk s H scope (compEnvC scope cl C0 X.env) fp) D C WNo ifs cs ∧ PEv (X.blk s H scope (compEnvC scope cl C0 X.env) fp) D C WNo elt me)
    (hs : ∀ x, foldedSetIterable iter X.env x = pure x) : PSv X D C W n0 (.Assign [.Name n p] (.ListComp elt [⟨tg, iter, ifs, 0⟩] scope apos) pos) (.set i (.lc fr t mi cs me)) :=
  ps_imp (ps_setLc (te := tE X D C WNo me) (tt := tTs X D C WNo cs) (g := gT X.K t) w.w.calm w.nd hi' hyl (sw_true hk hyl hl ho) hi ok (fun s H C0 cl fp => ptg_ok w.nd w.w.calm (hb s H C0 cl fp).1) (fun s H C0 cl fp => pts_ok (hb s H C0 cl fp).2.1) (fun s H C0 cl fp => (hb s H C0 cl fp).2.2) hs) fun Dn τ H h => by
    obtain ⟨ι, st, σ, hn, S, R, h⟩ := h
    rw [exS] at h
    refine lc_imp (fr := fr) hown ?_
    exact tE_of hn S R h fun x s1 ι1 H1 u e1 hn1 S1 R1 r q => q.now hn1 S1 (R1.set r i)
theorem asg_many {is : List Nat} {xs : List PV} {σ : Sl} : asg (.many is) (.tup xs) σ = setMany is xs σ := rfl
theorem sv_tset (w : WkS X D C L W) {ts : List Expr} {is : List Nat} {j : Nat} (ht : PTg X (.Tuple ts j p) (.many is)) (ha : PEv X D C W a ma) (hs : swapsWithSole [.Tuple ts j p] a pos.line X.env = pure false) (hw : swappedStores [.Tuple ts j p] a X.env = pure none) :
    PSv X D C W n0 (.Assign [.Tuple ts j p] a pos) (.tset is ma) :=
  ps_imp (ps_asg ha (ptg_ok w.nd w.w.calm ht) hs hw rfl) fun Dn τ H h => by
    obtain ⟨ι, st, σ, hn, S, R, h⟩ := h
    rw [exS] at h
    refine tE_of hn S R h fun x s1 ι1 H1 u e1 hn1 S1 R1 r q => ?_
    split at q
    · rename_i xs
      split at q
      · rename_i σ1 hσ
        refine gT_ok (G := D.G X.K) (P := fun _ => True) r (by rw [asg_many]; exact hσ) R1.ex fun τ' R' hk hl => ?_
        exact q.now hn1 S1 (R'.all fun _ => .inl trivial)
      · exact q.elim
    · exact q.elim
theorem reps1 {G : GD} {xs : List PV} {us : List V} (h : Reps G ι H xs us) : xs.length = us.length := h.length
/-- a, b = x, y -/
theorem sv_par (w : WkS X D C L W) {i j : Nat} {n1 n2 : Str} {px py pt pt2 : Pos} {kt k2 : Nat} (hi : X.N[i]? = some n1) (hj : X.N[j]? = some n2) (hij : i ≠ j) (hx : X.env.scope.names.lookup n1 = some .local) (hy : X.env.scope.names.lookup n2 = some .local) (h : PLv X D C W [a, b] [ma, mb])
    (hw : swappedStores [.Tuple [.Name n1 px, .Name n2 py] kt pt] (.Tuple [a, b] k2 pt2) X.env = pure (some [n1, n2])) : PSv X D C W n0 (.Assign [.Tuple [.Name n1 px, .Name n2 py] kt pt] (.Tuple [a, b] k2 pt2) pos) (.par i j ma mb) :=
  ps_imp (ps_par w.w.calm w.nd hi hj hij hx hy h hw) fun Dn τ H h => by
    obtain ⟨ι, st, σ, hn, S, R, h⟩ := h
    rw [exS] at h
    refine ⟨ι, st, σ, S, R, ?_⟩
    rw [evEs]
    revert h
    cases evE D.T C ma σ st with
    | bad => exact fun z => z.elim
    | ex e s => exact fun h => PostS.ofE (r := (Res.ex e s : Res SV)) (k := fun x1 s1 => .bad) h hn R
    | ok x1 s1 =>
      intro h
      show Post _ ((evEs D.T C [mb] σ s1).bind fun xs s2 => Res.ok (x1 :: xs) s2) _ _ _ _
      have h0 : PostS (D.G X.K) W n0 (ofE (evE D.T C mb σ s1) σ fun y s2 => RS.go .nx ((σ.set i (some x1)).set j (some y)) s2) ι H Dn := h
      rw [evEs]
      have h2 := h0.ofE hn R
      revert h2
      cases evE D.T C mb σ s1 with
      | bad => exact fun z => z
      | ex _ _ => exact fun z => z
      | ok x2 s2 =>
        intro h2
        simp only [evEs, Res.bind]
        intro ι' H' e' S' us hus
        obtain ⟨u, u', rfl, r1, r2⟩ := repS2 hus
        exact ⟨u, u', rfl, (h2 ι' H' e' S').now (e'.k hn).hi S' (((R.keep e').set r1 i).set r2 j)⟩
theorem sv_aug (w : WkS X D C L W) {i : Nat} {ao : Op2} (hi : X.N[i]? = some n) (hx : Sto X n) (ha : PEv X D C W a ma) (hao : ao = .add ∨ ao = .sub) : PSv X D C W n0 (.AugAssign (.Name n p) (opr ao) a pos) (.aug i ao ma) := by
  have ip : PIp X (opr ao) (fun x y H Q => ∃ ι st sx sy, Sim (D.G X.K) ι st H ∧ RepS (D.G X.K) ι H sx x ∧ RepS (D.G X.K) ι H sy y ∧ Post (D.G X.K) (aug2 ao sx sy st) ι H (FV (D.G X.K) Q) (fun _ _ _ => False)) := by
    intro pins s τ H x y v u Q I r1 r2 h
    obtain ⟨ι, st, sx, sy, S, rx, ry, h⟩ := h
    unfold aug2 at h
    split at h
    · cases rep_int rx
      cases rep_int ry
      rcases hao with rfl | rfl
      · exact ip_add pins s τ H _ _ v u Q I r1 r2 ⟨_, _, rfl, rfl, h.now S _ (.int _)⟩
      · exact ip_sub pins s τ H _ _ v u Q I r1 r2 ⟨_, _, rfl, rfl, h.now S _ (.int _)⟩
    · obtain ⟨rfl, l1⟩ := rep_str rx
      obtain ⟨rfl, l2⟩ := rep_str ry
      rcases hao with rfl | rfl
      · dsimp only at h
        split at h
        · rename_i hl
          exact iop_add_str pins s τ H _ _ v u Q I r1 r2 ⟨_, _, rfl, rfl, by rw [txt_len, txt_len]; exact lim_line hl, by rw [txt_app]; exact h.now S _ (.str _ (by rw [List.length_append]; exact hl))⟩
        · exact h.elim
      · exact h.elim
    · exact h.elim
  refine ps_imp (ps_aug w.nd hi hx.1 ha ip hx.2) fun Dn τ H h => ?_
  obtain ⟨ι, st, σ, hn, S, R, h⟩ := h
  rw [exS] at h
  split at h
  · rename_i x hx'
    obtain ⟨u, h1, h2, _⟩ := R.2 i x hx'
    refine ⟨u, h1, ?_⟩
    refine tE_of hn S R h fun y s1 ι1 H1 u' e1 hn1 S1 R1 r q => ?_
    refine ⟨ι1, s1, x, y, S1, h2.keep e1, r, ?_⟩
    have q2 := q.ofE hn1 R1
    have calm : ∀ e s, aug2 ao x y s1 ≠ .ex e s := by
      intro e s
      unfold aug2
      split
      · split <;> exact fun z => nomatch z
      · split
        · split <;> exact fun z => nomatch z
        · exact fun z => nomatch z
      · exact fun z => nomatch z
    revert q2 calm
    cases aug2 ao x y s1 with
    | bad => exact fun z _ => z
    | ex e s => exact fun _ z => absurd rfl (z e s)
    | ok z s2 => exact fun q2 _ ι' H' e' S' uz rz => (q2 ι' H' e' S').now (e'.k hn1).hi S' ((R1.keep e').set rz i)
  · exact h.elim
end
end Vm
set_option Elab.async false
set_option linter.all false
set_option maxRecDepth 100000
set_option maxHeartbeats 1000000
/-! Statements: stores, loops. -/
namespace Vm
open PySem PySem.Spec PyProof.Rows L2
open PySem.W (Looks)
section
variable {X : Cx} {D : Dat} {C : Calls} {L : Nat} {W : WX} {n0 : Nat} {pins : List (Addr × Obj)} {τ : L2.St} {H : Hp} {s : Shared} {ι : List Addr} {st : PS} {σ : Sl} {x y : SV} {u u' : V} {v v' : Value} {Dn : Ends}
  {e a b o i : Expr} {es : List Expr} {m ma mb mo mi : E} {ms : List E} {pos p apos : Pos} {n : Str} {sts : List Stmt} {ss : List S} {stm : Stmt} {sm : S}

theorem sub_assign (hp : plainE i = true) : ∀ v, assign (.Subscript o i p) X.env v = (do
      let ov ← holding [v] (eval o X.env)
      let iv ← holding [v, ov] (eval i X.env)
      standAt p
      holding [v, ov, iv] (setItem ov iv v)
      release [v, ov, iv] []) := by
  cases i <;> first | (intro _; rfl) | cases hp
theorem ixN_same (n : Nat) (k : Int) : L2.ixN n k = Vm.ixN n k := rfl
theorem sv_setix (w : WkS X D C L W) (ha : PEv X D C W a ma) (ho : PEv X D C W o mo) (hi : PEv X D C W i mi) (hp : plainE i = true) (hs : swapsWithSole [.Subscript o i p] a pos.line X.env = pure false) (hw : swappedStores [.Subscript o i p] a X.env = pure none) :
    PSv X D C W n0 (.Assign [.Subscript o i p] a pos) (.setix mo mi ma) :=
  ps_imp (ps_asg ha (pg_sub ho hi set_list (sub_assign hp)) hs hw rfl) fun Dn τ H h => by
    obtain ⟨ι, st, σ, hn, S, R, h⟩ := h
    rw [exS] at h
    refine tE_of hn S R h fun x s1 ι1 H1 u e1 hn1 S1 R1 r q => ?_
    refine tE_of hn1 S1 R1 q fun y s2 ι2 H2 u2 e2 hn2 S2 R2 r2 q2 => ?_
    refine tE_of hn2 S2 R2 q2 fun z s3 ι3 H3 u3 e3 hn3 S3 R3 r3 q3 => ?_
    have ry := r2.keep e3
    have rx := (r.keep e2).keep e3
    split at q3
    · rename_i s4 hs4
      unfold setIx at hs4
      split at hs4
      · rename_i nn k
        split at hs4
        · rename_i xs hxs
          split at hs4
          · rename_i j hj
            obtain ⟨ad, h1, rfl⟩ := ry
            obtain ⟨b', h2, us, h3, h4, h5⟩ := S3.at_ nn _ hxs
            rw [h1] at h2
            cases h2
            cases rep_int r3
            refine ⟨ad, us, k, j, rfl, rfl, h3, by rw [ixN_same, ← h4.length]; exact hj, ?_⟩
            have key : blw nn x → s4 = s3.set nn (.lst (xs.set j x)) → Dn.nx τ (upd H3 ad (.lst (us.set j u))) := by
              intro hb he
              subst he
              obtain ⟨S5, e5⟩ := S3.write (ho := .lst (us.set j u)) (o := .lst (xs.set j x)) h1 (S3.ref_lt h1) fun e => ⟨_, upd_same, (h4.keep e).set (rx.keep e) j, fun z hz => by
                rcases List.mem_or_eq_of_mem_set hz with hz | hz
                · exact h5 z hz
                · subst hz; exact hb⟩
              exact q3 ι3 _ τ (e5.k hn3) S5 (R3.keep e5)
            split at hs4
            · cases hs4
              exact key trivial rfl
            · split at hs4
              · rename_i hm
                cases hs4
                exact key hm rfl
              · cases hs4
          · cases hs4
        · cases hs4
      · cases hs4
    · exact q3.elim

theorem putF_at : ∀ {ns : List Str} {us : List V} {j : Nat} {f : Str} {z : V}, ns.Nodup → ns[j]? = some f → j < us.length → putF f z (ns.zip us) = ns.zip (us.set j z)
  | [], _, _, _, _, _, h, _ => by simp at h
  | _ :: _, [], _, _, _, _, _, h => by simp at h
  | m :: ns, w' :: us, 0, f, z, _, h, _ => by
    simp at h
    subst h
    simp [putF]
  | m :: ns, w' :: us, j + 1, f, z, nd, h, hl => by
    have nd' := List.nodup_cons.mp nd
    have hf : f ∈ ns := List.mem_of_getElem? (by simpa using h)
    have hne : m ≠ f := fun q => nd'.1 (q ▸ hf)
    rw [List.zip_cons_cons]
    show (if m = f then (m, z) :: ns.zip us else (m, w') :: putF f z (ns.zip us)) = _
    rw [if_neg hne, putF_at nd'.2 (by simpa using h) (by simpa using hl)]
    rfl
theorem putF_end : ∀ {ns : List Str} {us : List V} {f : Str} {z : V}, ns.Nodup → ns[us.length]? = some f → putF f z (ns.zip us) = ns.zip (us ++ [z])
  | [], _, _, _, _, h => by simp at h
  | m :: ns, [], f, z, _, h => by
    simp at h
    subst h
    simp [putF]
  | m :: ns, w' :: us, f, z, nd, h => by
    have nd' := List.nodup_cons.mp nd
    have hf : f ∈ ns := List.mem_of_getElem? (by simpa using h)
    have hne : m ≠ f := fun q => nd'.1 (q ▸ hf)
    rw [List.zip_cons_cons]
    show (if m = f then (m, z) :: ns.zip us else (m, w') :: putF f z (ns.zip us)) = _
    rw [if_neg hne, putF_end nd'.2 (by simpa using h)]
    rfl
theorem sv_setfld (w : WkS X D C L W) {f : Nat} (hn' : n = D.nm f) (ha : PEv X D C W a ma) (ho : PEv X D C W o mo) (hs : swapsWith a (some (.Attribute o n p)) pos.line X.env = pure false) : PSv X D C W n0 (.Assign [.Attribute o n p] a pos) (.setfld mo f ma) := by
  refine ⟨fun pins s τ H Dn I h => ?_⟩
  obtain ⟨ι, st, σ, hn, S, R, h⟩ := h
  rw [exS] at h
  refine plainObj_wpAny_Assign_Attribute (thn (ha.run pins s τ H (fun u H1 => ∃ ι1 s1 x, n0 ≤ ι1.length ∧ Sim (D.G X.K) ι1 s1 H1 ∧ SRel (D.G X.K) ι1 H1 σ τ ∧ RepS (D.G X.K) ι1 H1 x u ∧ PostS (D.G X.K) W n0 (ofE (evE D.T C mo σ s1) σ fun y s2 => match setFld D.T y f x s2 with
      | some s3 => .go .nx σ s3
      | none => .bad) ι1 H1 Dn) I ?_) fun v s1 hv => ?_) hs
  · exact tE_of hn S R h fun x s1 ι1 H1 u e1 hn1 S1 R1 r q => ⟨ι1, s1, x, hn1, S1, R1, r, q⟩
  obtain ⟨u, H1, I1, rv, ι1, st1, x, hn1, S1, R1, r, q⟩ := hv
  refine thn (ho.run pins s1 τ H1 (fun u2 H2 => ∃ ι2 s2 y, n0 ≤ ι2.length ∧ Sim (D.G X.K) ι2 s2 H2 ∧ SRel (D.G X.K) ι2 H2 σ τ ∧ RepS (D.G X.K) ι2 H2 x u ∧ RepS (D.G X.K) ι2 H2 y u2 ∧ PostS (D.G X.K) W n0 (match setFld D.T y f x s2 with
      | some s3 => .go .nx σ s3
      | none => .bad) ι2 H2 Dn) I1 ?_) fun v2 s2 hv2 => ?_
  · exact tE_of hn1 S1 R1 q fun y s2 ι2 H2 u2 e2 hn2 S2 R2 r2 q2 => ⟨ι2, s2, y, hn2, S2, R2, r.keep e2, r2, q2⟩
  obtain ⟨u2, H2, I2, rv2, ι2, st2, y, hn2, S2, R2, rx, ry, q2⟩ := hv2
  split at q2
  · rename_i s4 hs4
    unfold setFld at hs4
    split at hs4
    · rename_i nn
      split at hs4
      · rename_i c fs hfs
        split at hs4
        · rename_i ci hci
          split at hs4
          · rename_i j hj
            split at hs4
            · rename_i hjl
              obtain ⟨ad, h1, rfl⟩ := ry
              obtain ⟨b', h2, ci2, dx, us, ⟨hc2, hx2⟩, h3, h4, h5, h6⟩ := S2.at_ nn _ hfs
              rw [h1] at h2
              cases h2
              rw [hci] at hc2
              cases hc2
              cases rv2
              have cf := w.w.fa.cls c ci hci hx2
              have hf := idxN_get hj
              have hf2 : (ci.flds.map D.nm)[j]? = some (D.nm f) := by rw [List.getElem?_map, hf]; rfl
              have hlu : us.length = fs.length := h5.length.symm
              have hjf : j < ci.flds.length := (List.getElem?_eq_some_iff.mp hf).1
              subst hn'
              refine setattr_ok I2 h3 cf.cls (cf.no f (List.mem_of_getElem? hf)) (by rw [List.length_zip]; have := cf.few; rw [List.length_map]; omega) rv fun s' I' => ?_
              have key : ∀ fs' us', blw nn x → fs' = (if j < fs.length then fs.set j x else fs ++ [x]) → us' = (if j < us.length then us.set j u else us ++ [u]) → s4 = st2.set nn (.ins c fs') → SP X pins Dn .next s' := by
                intro fs' us' hb he hu hs
                have hp : putF (D.nm f) u ((ci.flds.map D.nm).zip us) = (ci.flds.map D.nm).zip us' := by
                  subst hu
                  by_cases hl : j < us.length
                  · rw [if_pos hl]; exact putF_at cf.nd hf2 hl
                  · rw [if_neg hl]
                    have : j = us.length := by omega
                    exact putF_end cf.nd (by rw [← this]; exact hf2)
                rw [hp] at I'
                subst hs
                have hrep : RepSs (D.G X.K) ι2 H2 fs' us' := by
                  subst he; subst hu
                  by_cases hl : j < fs.length
                  · rw [if_pos hl, if_pos (by omega)]; exact h5.set rx j
                  · rw [if_neg hl, if_neg (by omega)]; exact h5.append (.cons rx .nil)
                have hcell : ∀ (e : Ext ι2 H2 ι2 (upd H2 ad (.ins (D.ca c) dx ((ci.flds.map D.nm).zip us')))), Cell (D.G X.K) ι2 (upd H2 ad (.ins (D.ca c) dx ((ci.flds.map D.nm).zip us'))) nn (.ins c fs') ad := by
                  intro e
                  refine ⟨ci, dx, us', ⟨hci, hx2⟩, upd_same, ?_, ?_, ?_⟩
                  · subst he
                    by_cases hl : j < fs.length
                    · rw [if_pos hl, List.length_set]; exact h4
                    · rw [if_neg hl, List.length_append, List.length_singleton]; omega
                  · exact hrep.keep e
                  · subst he
                    intro z hz
                    by_cases hl : j < fs.length
                    · rw [if_pos hl] at hz
                      rcases List.mem_or_eq_of_mem_set hz with hz | hz
                      · exact h6 z hz
                      · subst hz; exact hb
                    · rw [if_neg hl] at hz
                      rcases List.mem_append.mp hz with hz | hz
                      · exact h6 z hz
                      · rw [List.mem_singleton] at hz; subst hz; exact hb
                obtain ⟨S5, e5⟩ := S2.write h1 (S2.ref_lt h1) hcell
                exact ⟨τ, _, I', q2 ι2 _ τ (e5.k hn2) S5 (R2.keep e5)⟩
              dsimp only at hs4
              split at hs4
              · cases hs4
                exact key _ _ trivial rfl rfl rfl
              · split at hs4
                · rename_i hm
                  cases hs4
                  exact key _ _ hm rfl rfl rfl
                · cases hs4
            · cases hs4
          · cases hs4
        · cases hs4
      · cases hs4
    · cases hs4
  · exact q2.elim

/-! ### loops -/
theorem sv_loop (w : WkS X D C L W) {tg iter : Expr} {t : Tg} {body : List Stmt} {xb : List S} (ht : PTg X tg t) (hi : PIv X D C W tg iter mi) (hb : PSsv X D C W n0 body xb) (hs : ∀ x, foldedSetIterable iter X.env x = pure x) :
    PSv X D C W n0 (.For tg iter body [] pos) (.loop t mi xb) :=
  ps_imp (ps_for w.po w.w.calm hi (ptg_ok w.nd w.w.calm ht) hb hs) fun Dn τ H h => by
    obtain ⟨ι, st, σ, hn, S, R, h⟩ := h
    rw [exS] at h
    refine ⟨ι, st, σ, S, R, (h.ofE hn R).imp fun x s1 ι1 H1 e1 S1 q => ?_⟩
    split at q
    · rename_i xs hxs
      refine ⟨xs, hxs, fun J hJ => ?_⟩
      obtain ⟨Gd, Y, wk, hG, hY⟩ := hJ
      have hn1 := (e1.k hn).hi
      refine for_it wk (fun i τ' H' => ∃ ι' st' σ', ExtK n0 ι1 H1 ι' H' ∧ Sim (D.G X.K) ι' st' H' ∧ SRel (D.G X.K) ι' H' σ' τ' ∧ PostS (D.G X.K) W n0 (forL t (fun σ2 s2 => exSs D.T C n0 xb σ2 s2) (xs.drop i) σ' st') ι' H' Dn)
        ⟨ι1, s1, σ, .refl hn1, S1, R.keep e1, q⟩ (fun i τ' H' _ ⟨ι', _, _, e', _⟩ => hG ι' H' e'.stay) ?_ ?_
      · rintro i v τ' H' H'' hlt ⟨ι', st', σ', e', S', R', q'⟩ y
        obtain ⟨rfl, x', hx', rx⟩ := hY i ι' H' v H'' hlt e'.stay y
        have hdrop : xs.drop i = x' :: xs.drop (i + 1) := by
          rw [List.drop_eq_getElem_cons hlt]
          rw [List.getElem?_eq_getElem hlt] at hx'
          rw [Option.some.inj hx']
        rw [hdrop] at q'
        unfold forL at q'
        cases ha : asg t x' σ' with
        | none => rw [ha] at q'; exact q'.elim
        | some σ1 =>
          rw [ha] at q'
          refine gT_ok (G := D.G X.K) (P := fun _ => True) rx ha R'.ex fun τ1 Rt _ _ => ?_
          have R1 := Rt.all fun _ => .inl trivial
          refine ⟨ι', st', σ1, e'.hi, S', R1, ?_⟩
          dsimp only at q'
          revert q'
          cases exSs D.T C n0 xb σ1 st' with
          | bad => exact fun z => z
          | ex e σ2 s2 => exact fun q' => q'
          | go f σ2 s2 =>
            cases f with
            | nx => exact fun q' ι2 H2 τ2 e2 S2 R2 => ⟨ι2, s2, σ2, e'.trans e2, S2, R2, PostS.at q' e2⟩
            | ct => exact fun q' ι2 H2 τ2 e2 S2 R2 => ⟨ι2, s2, σ2, e'.trans e2, S2, R2, PostS.at q' e2⟩
            | brk => exact fun q' => q'
            | rt z => exact fun q' => q'
      · rintro τ' H' ⟨ι', st', σ', e', S', R', q'⟩
        rw [List.drop_length] at q'
        exact q'.now e'.hi S' R'
    · exact q.elim
theorem sv_wh (w : WkS X D C L W) {c : Expr} {bc : B} {k : Nat} {body : List Stmt} {xb : List S} (hc : PTv X D C W c bc) (hb : PSsv X D C W n0 body xb) : PSv X D C W n0 (.While c body [] pos) (.wh k bc xb) :=
  ps_imp (ps_while w.po hc hb) fun Dn τ H h => by
    obtain ⟨ι, st, σ, hn, S, R, h⟩ := h
    rw [exS] at h
    refine ⟨fun m τ' H' => ∃ ι' st' σ', n0 ≤ ι'.length ∧ Sim (D.G X.K) ι' st' H' ∧ SRel (D.G X.K) ι' H' σ' τ' ∧ PostS (D.G X.K) W n0 (whL (fun σ2 s2 => evB D.T C bc σ2 s2) (fun σ2 s2 => exSs D.T C n0 xb σ2 s2) m σ' st') ι' H' Dn, ⟨k, ι, st, σ, hn, S, R, h⟩, ?_⟩
    rintro m τ' H' ⟨ι', st', σ', hn', S', R', q⟩
    cases m with
    | zero => exact q.elim
    | succ m =>
      unfold whL at q
      refine ⟨ι', st', σ', S', R', (q.ofE hn' R').imp fun kk s1 ι1 H1 e1 S1 q1 => ?_⟩
      have R1 := R'.keep e1
      have hn1 := (e1.k hn').hi
      cases kk with
      | false =>
        exact PostS.now (W := W) (n0 := n0) q1 hn1 S1 R1
      | true =>
        show ∃ N : L2.St → Hp → Prop, _
        refine ⟨fun τ2 H2 => ∃ ι' st' σ', n0 ≤ ι'.length ∧ Sim (D.G X.K) ι' st' H2 ∧ SRel (D.G X.K) ι' H2 σ' τ2 ∧ PostS (D.G X.K) W n0 (whL (fun σ2 s2 => evB D.T C bc σ2 s2) (fun σ2 s2 => exSs D.T C n0 xb σ2 s2) m σ' st') ι' H2 Dn, fun τ2 H2 z => ⟨m, Nat.lt_succ_self _, z⟩, ι1, s1, σ', hn1, S1, R1, ?_⟩
        revert q1
        cases exSs D.T C n0 xb σ' s1 with
        | bad => exact fun z => z
        | ex e σ2 s2 => exact fun q' => q'
        | go f σ2 s2 =>
          cases f with
          | nx => exact fun q' ι2 H2 τ2 e2 S2 R2 => ⟨ι2, s2, σ2, e2.hi, S2, R2, PostS.at q' e2⟩
          | ct => exact fun q' ι2 H2 τ2 e2 S2 R2 => ⟨ι2, s2, σ2, e2.hi, S2, R2, PostS.at q' e2⟩
          | brk => exact fun q' => q'
          | rt z => exact fun q' => q'
end
end Vm
set_option Elab.async false
set_option linter.all false
set_option maxRecDepth 100000
set_option maxHeartbeats 2000000
/-! Errors: their __init__. -/
namespace Vm
open PySem PySem.Spec PyProof.Rows L2
open PySem.W (Looks)
open NdefX
section
variable {prog : Program} {w : World} {A : Around} {E : Value → Shared → Prop} {h : Heap} {g : Array GenState} {d : Drawn} {t : Nat} {os : OsState}
variable {nm q : Str} {C N : Addr} {bs bm : List Value} {hdct : Bool} {sn : List Str} {sub : List Value} {ab : Bool} {col : Option Bool} {dd : Option Addr} {k0 k1 k2 k3 k5 : Option Value}
/-- the bound ValueError.__init__ is called -/
theorem bound_init {u e t0 : Addr} {rest : List Value} {Q : Value → Shared → Prop}
    (hC : h.get? C = some (excClassObj nm q C N bs bm hdct sn sub ab col dd k0 k1 k2 k3 k5 "ValueError.__new__")) (he : h.get? e = some (HandSPX.excO C t0)) (hu : h.get? u = some (PySem.W.kxs_mw "ValueError.__init__" e)) (hrest : rest.length ≤ sizeLine)
    (hq : ∀ h' t1, (∀ b o, b ≠ e → h.get? b = some o → h'.get? b = some o) → h'.get? e = some (HandSPX.excO C t1) → Q .none ⟨h', g, d, t, os⟩) :
    wpAny (model prog w) A (call (.ref u) rest) Q E ⟨h, g, d, t, os⟩ := by
  refine wpAny_call (codeAny_of_tree ?_)
  show wpAny _ A.in1 (callAny (.ref u) ⟨rest, []⟩) _ _ _
  simp only [callAny]
  refine wpAny_bind (wpAny_load hu ?_)
  simp only [PySem.W.kxs_mw, show (Value.type "method-wrapper" == Value.type "method" || Value.type "method-wrapper" == Value.type "builtin_function_or_method" || Value.type "method-wrapper" == Value.type "method-wrapper") = true by decide, if_true]
  refine PySem.W.KFB.if_so (by decide) ?_
  refine wpAny_bind (PySem.ESX.check_bound F.excBase_ValueError hC he rfl ?_)
  refine wpAny_bind (wpAny_pure (wpAny_pure ?_))
  refine ⟨plainId_quiet F.excBase_ValueError.init.plain _, codeAny_builtin F.excBase_ValueError.initEntry ?_⟩
  rw [Around.under_plainId F.excBase_ValueError.init.plain _]
  refine PySem.W.exc_init_tree (cls := .ref C) (t0 := t0) (dv := none) (c2 := .none) (c3 := .none) (b4 := .bool false) he hrest fun h' k e1 e2 => ?_
  exact hq h' h.objs.size k e1
end

/-- what the text's top says of an own error's class, of its __init__ -/
structure SupF (prog : Program) (K : PySem.W.Frag) (mg : Str → Option Value) (C fi : Addr) (F : NF) (slf : Str) : Prop where
  T : OexC K C
  cell : ∃ cc cl cld csl, F.cl = [(("__class__" : Str), cc)] ∧ K.lookup cc = some ⟨cl, cld, .cell (some (.ref C)), csl⟩
  cls : ∃ cd, PySem.W.clsIn K C = some cd
  mro : PySem.W.mroIn K C (.ref C) = some true
  sup : mg "super" = none
  code : ∃ ccl cdd vs ccs file tf, K.lookup F.c = some ⟨ccl, cdd, .fields vs, ccs⟩ ∧ vs[2]? = some (.str file tf) ∧ ((prog.main.file : Str) == file) = true
  top : (prog.main.scope.names.lookup ("super" : Str)).isSome = false
  opq : PySem.W.nsIn K cStatics "thirdparty.any" = some none
  kxs : PySem.W.ks_superIn K C C "__init__" = some (some (.builtin "ValueError.__init__"))
  subV : PySem.W.subIn K (.ref C) (.type "ValueError") = some true
  kS : F.scope.names.lookup ("super" : Str) = some .globalImplicit
  kC : F.scope.names.lookup ("__class__" : Str) = some .free
  kSelf : F.scope.names.lookup slf = some .local
  par : ∃ ar, (F.params.posonlyargs ++ F.params.args).head? = some ar ∧ ar.arg = slf
  fn : ∃ oc od doc pm ctv osl, K.lookup fi = some ⟨oc, od, .func (F.fd doc pm ctv), osl⟩

section
variable {P : Program} {w : World} {K : PySem.W.Frag} {mg : Str → Option Value} {base : Heap} {N : List Str} {F : NF} {fi : Addr} {A : Around} {outer : List Env} {s0 : Shared} {H0 : Hp} {E : XK} {CXx : CXT}
theorem sup_ok {C e : Addr} {self z : Str} {j : Nat} {p0 p1 ap pc pos pos' : Pos} {σ : L2.St} {H : Hp} {s : Shared} {R : Flow → Shared → Prop} {body : List Stmt} (sf : SupF P K mg C fi F self)
    (I : Inv (ncx CXx P w K mg base N F fi A outer s0 H0 E) [] σ H s) (hN0 : N[0]? = some self) (hσ : σ[0]? = some (some (.ref e))) (he : H e = some (exo e C none)) (hl : (ap.endLine == pos.line) = true)
    (h : ∀ s', Inv (ncx CXx P w K mg base N F fi A outer s0 H0 E) [] σ H s' → R .next s') :
    PySem.wpAt (model P w) (ncx CXx P w K mg base N F fi A outer s0 H0 E).A (.func body (envF F fi s0.heap.objs.size)) (exec (.Expr (.Call (.Attribute (.Call (.Name "super" p0) [] [] p1) "__init__" ap) [.Constant (.str z) j pc] [] pos) pos') (envF F fi s0.heap.objs.size)) R (ncx CXx P w K mg base N F fi A outer s0 H0 E).xe s := by
  generalize hX : ncx CXx P w K mg base N F fi A outer s0 H0 E = X at I h ⊢
  have hK : X.K = K := by rw [← hX]; rfl
  have hmg : X.mg = mg := by rw [← hX]; rfl
  have henv : X.env = envF F fi s0.heap.objs.size := by rw [← hX]; rfl
  have hP : X.prog = P := by rw [← hX]; rfl
  have hw : X.w = w := by rw [← hX]; rfl
  have hXN : X.N = N := by rw [← hX]; rfl
  subst hP; subst hw; subst hK; subst hmg
  obtain ⟨cc, cl, cld, csl, hcl, hcell⟩ := sf.cell
  obtain ⟨cd, hcd⟩ := sf.cls
  obtain ⟨ccl, cdd, vs, ccs, file, tf, hcode, hvs, hfile⟩ := sf.code
  obtain ⟨ar, har, hself⟩ := sf.par
  obtain ⟨oc, od, doc, pm, ctv, osl, hfn⟩ := sf.fn
  have kin := I.kIn
  have hkind : (envF F fi s0.heap.objs.size).scope.kind = .function := by rw [← henv]; exact I.ok.kind
  refine PySem.ks_wpAt_Expr_any (PySem.ks_wpAt_MethodCall (pl := (do return (← importBound (.Call (.Name "super" p0) [] [] p1) (envF F fi s0.heap.objs.size)).getD true)) ?_ ?_) (by rw [← henv]; exact I.quiet) rfl
  · refine PySem.ks_wpAt_super_base (env := envF F fi s0.heap.objs.size) sf.kS sf.kC rfl rfl (kin _ _ hfn) rfl har rfl (kin _ _ hcode) rfl hvs hfile sf.top ?_
    obtain ⟨mb, hb1, hb2⟩ := I.mod.blt
    have hglob : (envF F fi s0.heap.objs.size).globals = mainGlobals := rfl
    refine PySem.W.ks_loadName_global hkind sf.kS (Calls.loadGlobal_builtin (env := envF F fi s0.heap.objs.size) (I.mod.glob.keeps I.bk) sf.sup (hb1.keeps I.bk) ((hb2 "super" (by decide)).trans (show bootBuiltins "super" = some (.type "super") by decide +kernel)) ⟨rfl, ?_⟩)
    refine wpAny_loadName_free (c := cc) hkind sf.kC (by show F.cl.lookup _ = _; rw [hcl]; rfl) ⟨_, kin _ _ hcell, rfl⟩ ?_
    obtain ⟨m, hn, hlk⟩ := I.loc
    obtain ⟨u, ru, lk⟩ := hlk 0 self (.ref e) (by rw [hXN]; exact hN0) hσ (.inl (by rw [henv]; exact sf.kSelf))
    cases ru
    have hm : m self = some (.ref e) := by
      rcases lk with ⟨_, hm⟩ | ⟨k, _⟩
      · exact hm
      · have k0 : X.env.kindOf self = some .local := by rw [henv]; exact sf.kSelf
        rcases k with k | k <;> rw [k0] at k <;> cases k
    rw [hself]
    refine wpAny_loadName_local hkind sf.kSelf (by rw [← henv]; exact hn) hm ?_
    obtain ⟨t1, ho⟩ := exo_at I.hok he
    obtain ⟨oD, hD1, hD2⟩ : ∃ oD, s.heap.get? C = some oD ∧ oD.data = .cls cd := by
      have hcd' := hcd
      unfold PySem.W.clsIn at hcd'
      split at hcd'
      · rename_i c d cd' sl ho
        cases hcd'
        exact ⟨_, kin _ _ ho, rfl⟩
      · cases hcd'
    refine PySem.ks_wpAny_isType_cls hD1 hD2 ⟨rfl, ?_⟩
    obtain ⟨hh, g, dr, tk, os⟩ := s
    refine PySem.ks_wpAny_call_super hD1 hD2 ho rfl (fun c z => nomatch z) (PySem.W.looks_mroIn kin sf.mro) fun h1 hso k1 => ?_
    have I1 : Inv X [] σ H ⟨h1, g, dr, tk, os⟩ := I.kept (t' := tk) fun b o z => k1 b o z
    have J1 : PySem.W.InstAt h1 e { cls := .ref C, dict := none, data := .fields #[.ref t1, .none, .none, .none, .bool false, .none] } C none := ⟨k1 _ _ ho, rfl, rfl, trivial⟩
    have hk := sf.kxs
    unfold PySem.W.ks_superIn at hk
    rw [hcd] at hk
    refine PySem.W.kxs_getMethod PySem.W.kxs_ValueError hso (PySem.W.looks_opaque I1.kIn sf.opq) (l₀ := cd.mro) (fun A Q E s k q => wpAny_bind ((PySem.W.looks_clsIn I1.kIn hcd) A _ E s k (wpAny_pure q))) rfl I1.kIn hk (J1.type.andThen (PySem.W.looks_subIn I1.kIn sf.subV)) (PySem.W.ks_ne I1.kIn J1 hcd) (by decide +kernel) ?_
    have I2 : Inv X [] σ H ⟨h1.push (PySem.W.kxs_mw "ValueError.__init__" e), g, dr, tk + 1, os⟩ := I1.kept (t' := tk + 1) fun b o z => Heap.get?_push_of_some _ z
    have hu : (h1.push (PySem.W.kxs_mw "ValueError.__init__" e)).get? h1.objs.size = some (PySem.W.kxs_mw "ValueError.__init__" e) := Heap.get?_push_size _ rfl
    refine PySem.W.kxs_callWith (i := "ValueError.__init__") (x := e) rfl (Calls.evalArgs_plain (Calls.spliced_cons (Calls.Constant_str (pos := pc) (k := j) (Calls.spliced_nil ⟨hu, ?_⟩))))
    have I3 := I2.tok (tk + 1 + 1)
    obtain ⟨nm, q, N', bs, bm, sn, sub, ab, col, dd, k0, k1', k2, k3, k5, hC, hbm⟩ := sf.T.cls
    obtain ⟨t2, ho2⟩ := exo_at I3.hok he
    refine bound_init (I3.kIn _ _ hC) ho2 hu (by show 1 ≤ sizeLine; decide) fun h4 t4 k4 e4 => ?_
    refine h _ ?_
    have J := I3.write (t' := tk + 1 + 1) (x := e) (e := e) (o := exo e C none) (by rw [he]; exact True.intro) (.inl rfl) k4 ⟨_, e4⟩ (exo_ok e4)
    have eu : upd H e (exo e C none) = H := by
      funext b
      by_cases hb : b = e
      · rw [hb, upd_same, he]
      · rw [upd_ne hb]
    rw [eu] at J
    exact J
  · rw [arm_eval_Call]
    have hform : methodCallForm ([Expr.Constant (.str z) j pc].length + ([] : List Keyword).length) (backTo pos (starEach [Expr.Constant (.str z) j pc] (envF F fi s0.heap.objs.size))) (backToKw pos (keywordEach [] (envF F fi s0.heap.objs.size))) = true := rfl
    have hpos : methodCallPos true (.Call (.Name "super" p0) [] [] p1) (envF F fi s0.heap.objs.size) ap pos = pure pos := by unfold methodCallPos; simp [hl]
    unfold methodCall
    simp only [hform, hpos, calleeOf, if_true, pure_bind]
    rfl
end
end Vm
set_option Elab.async false
set_option linter.all false
set_option maxRecDepth 100000
set_option maxHeartbeats 2000000
/-! Errors: the promise of their __init__; making, raising. -/
namespace Vm
open PySem PySem.Spec PyProof.Rows L2
open PySem.W (Looks)
open NdefX
/-- self.f = p, .. -/
def tF (K : PySem.W.Frag) : List (Str × Nat) → TS
  | [] => tNext
  | (f, i) :: r => tSeq (tOst K f (tVar 0) (tVar i)) (tF K r)
theorem tF_more {K : PySem.W.Frag} {C e dx : Addr} {σ : L2.St} {Dn : Ends} (T : OexC K C) (hne : dx ≠ e) (hσ : σ[0]? = some (some (.ref e))) : ∀ (l : List (Str × Nat)) (ys : List V) (fs : List (Str × V)) (H : Hp), H e = some (exo e C (some dx)) → H dx = some (exd dx fs) → fs.length + l.length ≤ 900 →
    (∀ p ∈ l, PySem.W.findIn K (.ref C) p.1 = some none) → Paired (fun (p : Str × Nat) (y : V) => σ[p.2]? = some (some y)) l ys →
    (∀ H', H' e = some (exo e C (some dx)) → H' dx = some (exd dx (((l.map (·.1)).zip ys).reverse ++ fs)) → (∀ b, b ≠ dx → H' b = H b) → Dn.nx σ H') → tF K l Dn σ H
  | [], _, fs, H, he, hd, _, _, .nil, k => k H he (by simpa using hd) fun _ _ => rfl
  | (f, i) :: l, _, fs, H, he, hd, hl, hf, .cons (b := y) r rs, k => by
    refine ⟨y, r, ⟨.ref e, hσ, e, C, rfl, T, hf _ List.mem_cons_self, .inr ⟨dx, fs, he, hd, by simp at hl; omega, ?_⟩⟩⟩
    refine tF_more T hne hσ l _ ((f, y) :: fs) _ (by rw [upd_ne hne.symm]; exact he) upd_same (by simp at hl ⊢; omega) (fun p hp => hf p (List.mem_cons_of_mem _ hp)) rs fun H' h1 h2 h3 => k H' h1 ?_ fun b hb => (h3 b hb).trans (upd_ne hb)
    rw [h2]
    simp
theorem tF_ok {K : PySem.W.Frag} {C e : Addr} {σ : L2.St} {Dn : Ends} (T : OexC K C) (hσ : σ[0]? = some (some (.ref e))) {l : List (Str × Nat)} {ys : List V} {H : Hp} (he : H e = some (exo e C none)) (hl : l.length ≤ 900) (hn : l ≠ [])
    (hf : ∀ p ∈ l, PySem.W.findIn K (.ref C) p.1 = some none) (hp : Paired (fun (p : Str × Nat) (y : V) => σ[p.2]? = some (some y)) l ys)
    (k : ∀ dx H', H dx = none → dx ≠ e → H' e = some (exo e C (some dx)) → H' dx = some (exd dx (((l.map (·.1)).zip ys).reverse)) → (∀ b, b ≠ e → b ≠ dx → H' b = H b) → Dn.nx σ H') : tF K l Dn σ H := by
  cases hp with
  | nil => exact absurd rfl hn
  | @cons p y l ys r rs =>
    obtain ⟨f, i⟩ := p
    refine ⟨y, r, ⟨.ref e, hσ, e, C, rfl, T, hf _ List.mem_cons_self, .inl ⟨he, fun dx hdx hne => ?_⟩⟩⟩
    refine tF_more T hne hσ l ys [(f, y)] _ upd_same (by rw [upd_ne hne, upd_same]) (by simp at hl ⊢; omega) (fun p hp => hf p (List.mem_cons_of_mem _ hp)) rs fun H' h1 h2 h3 => k dx H' hdx hne h1 ?_ fun b h4 h5 => ?_
    · rw [h2]; simp
    · rw [h3 b h5, upd_ne h4, upd_ne h5]

/-- the statements self.f = p, .. -/
def mFl (N : List Str) (slf : Str) (sc : Scope) : List Stmt → List (Str × Nat) → Bool
  | [], [] => true
  | .Assign [.Attribute (.Name s _) f _] (.Name x _) _ :: r, (g, i) :: l => s == slf && f == g && N[i]? == some x && locB sc x && okN x && mFl N slf sc r l
  | _, _ => false
theorem mFl_ok {X : Cx} {slf : Str} (h0 : X.N[0]? = some slf) (hs : locB X.env.scope slf = true) (hsn : okN slf = true) : ∀ {sts : List Stmt} {l : List (Str × Nat)}, mFl X.N slf X.env.scope sts l = true → PSs X sts (tF X.K l)
  | [], [], _ => pss_nil
  | [], _ :: _, h => by cases h
  | st :: r, [], h => by
    unfold mFl at h
    split at h
    · contradiction
    · contradiction
    · cases h
  | st :: r, (g, i) :: l, h => by
    unfold mFl at h
    split at h
    · rename_i a b; cases a
    · rename_i s _ f _ x _ _ r' g' i' l' h1 h2
      cases h1
      cases h2
      simp only [Bool.and_eq_true, beq_iff_eq] at h
      obtain ⟨⟨⟨⟨⟨rfl, rfl⟩, q3⟩, q4⟩, q5⟩, q6⟩ := h
      exact pss_cons (ps_ost (pe_var h0 (.inl (loc_of rfl hs)) (okN_of hsn).1 (okN_of hsn).2) (pe_var q3 (.inl (loc_of rfl q4)) (okN_of q5).1 (okN_of q5).2)) (mFl_ok h0 hs hsn q6)
    · cases h

/-- what an own error's __init__ does -/
def spX (C : Addr) (fn : List Str) : Sp := fun us H Q _ => ∃ e ws, us = .ref e :: ws ∧ ws.length = fn.length ∧ H e = some (exo e C none) ∧
  ∀ d H', H d = none → d ≠ e → H' e = some (exo e C (some d)) → H' d = some (exd d ((fn.zip ws).reverse)) → (∀ b, b ≠ e → b ≠ d → H' b = H b) → Q .non H'
section
variable {P : Program} {w : World} {K : PySem.W.Frag} {mg : Str → Option Value} {base : Heap} {N ps : List Str} {F : NF} {fi : Addr} {CXx : CXT}
/-- all that is asked of an own error's __init__ -/
structure XinF (P : Program) (K : PySem.W.Frag) (mg : Str → Option Value) (C fi : Addr) (F : NF) (fd : FuncData) (ps : List Str) (fn : List Str) (slf : Str) : Prop where
  sf : SupF P K mg C fi F slf
  fdE : ∃ oc od doc pm ctv osl, K.lookup fi = some ⟨oc, od, .func (F.fd doc pm ctv), osl⟩ ∧ fd = F.fd doc pm ctv
  code : PySem.W.codeIn K (.ref F.c) F.qual = true
  sc : NScope (ps ++ [("__class__" : Str)]) ps [("__class__" : Str)] F.scope
  par : ∃ r, ps = slf :: r ∧ r.length = fn.length
  okS : okN slf = true
  body : ∃ z j p0 p1 ap pc pos pos' rest l, F.body = .Expr (.Call (.Attribute (.Call (.Name "super" p0) [] [] p1) "__init__" ap) [.Constant (.str z) j pc] [] pos) pos' :: rest ∧ (ap.endLine == pos.line) = true ∧
    mFl (ps ++ [("__class__" : Str)]) slf F.scope rest l = true ∧ l = fn.zip ((List.range fn.length).map (· + 1))
  no : ∀ f ∈ fn, PySem.W.findIn K (.ref C) f = some none
  few : fn.length ≤ 900
  some_ : fn ≠ []
theorem paired_range {ws : List V} {τ : L2.St} : ∀ (fn : List Str) (k : Nat), ws.length = fn.length → (∀ j y, ws[j]? = some y → τ[k + 1 + j]? = some (some y)) →
    Paired (fun (p : Str × Nat) (y : V) => τ[p.2]? = some (some y)) (fn.zip ((List.range' k fn.length).map (· + 1))) ws := by
  induction ws with
  | nil => intro fn k hl _; cases fn with
    | nil => exact .nil
    | cons _ _ => cases hl
  | cons y ws ih =>
    intro fn k hl h
    cases fn with
    | nil => cases hl
    | cons f fn =>
      have e : (f :: fn).zip ((List.range' k (f :: fn).length).map (· + 1)) = (f, k + 1) :: fn.zip ((List.range' (k + 1) fn.length).map (· + 1)) := by
        rw [List.length_cons, List.range'_succ, List.map_cons, List.zip_cons_cons]
      rw [e]
      refine .cons (h 0 y rfl) (ih fn (k + 1) (by simpa using hl) fun j z hz => ?_)
      have := h (j + 1) z (by simpa using hz)
      rw [show k + 1 + (j + 1) = k + 1 + 1 + j by omega] at this
      exact this
theorem xin_fn {C : Addr} {fd : FuncData} {fn : List Str} {slf : Str} {k : Nat} (x : XinF P K mg C fi F fd ps fn slf) : FnOk P w K mg base (L2.CX P w) (k + 1) fi fd ps (spX C fn) where
  len := by
    rintro us H Q E ⟨e, ws, rfl, hl, _⟩
    obtain ⟨r, h1, h2⟩ := x.par
    rw [h1, List.length_cons, List.length_cons, hl, h2]
  run := by
    rintro A outer s H args us vs Q E hr e0 hb r ⟨e, ws, rfl, hlw, he, hq⟩
    obtain ⟨rp, h1, h2⟩ := x.par
    have hl : (V.ref e :: ws).length = ps.length := by rw [h1, List.length_cons, List.length_cons, hlw, h2]
    have KX : K.In s.heap := e0.mod.kin.keeps fun b o e => (e0.bs b o e).1
    have lim : s.heap.NoLimit := e0.mod.nolimit.keeps fun b o e => (e0.bs b o e).1
    obtain ⟨oc, od, doc, pm, ctv, osl, lk, rfl⟩ := x.fdE
    have S := x.sc
    obtain ⟨cc, cl, cld, csl, hcl, hcell⟩ := x.sf.cell
    have hcb : ∃ oc, base.get? cc = some oc := ⟨_, e0.mod.kin _ _ hcell⟩
    have C0 : CellsAt F.cl [("__class__" : Str)] [(none : Option V)] s.heap H := by
      refine ⟨rfl, fun y c hc => ?_, fun a b c h1 h2 => ?_, fun i y hi => ?_⟩
      · rw [hcl] at hc
        have : c = cc := by
          unfold List.lookup at hc
          split at hc
          · cases hc; rfl
          · cases hc
        subst this
        exact ⟨(e0.bs _ _ (e0.mod.kin _ _ hcell)).2, _, ⟨_, KX _ _ hcell, rfl⟩⟩
      · rw [hcl] at h1 h2
        have key : ∀ {z : Str} {c : Addr}, List.lookup z [(("__class__" : Str), cc)] = some c → z = "__class__" := by
          intro z c hz
          unfold List.lookup at hz
          split at hz
          · rename_i q; simpa using q
          · cases hz
        rw [key h1, key h2]
      · cases i with
        | zero =>
          cases hi
          refine ⟨cc, by rw [hcl]; rfl, fun v hv => ?_⟩
          cases hv
        | succ i => simp at hi
    refine codeAny_call_function hr.depth (KX _ _ lk) rfl S.co S.gen rfl (PySem.W.codeRec_of KX x.code) (hb _ _ _ _ ?_)
    refine wpAny_newFunctionEnv S.nocell (fun ⟨n, _⟩ hy => S.par n (List.of_mem_zip hy).1) (fun h₁ hns hsb => ⟨lim.fresh _ hsb, ?_⟩) S.kind
    show codeAny _ _ (.func F.body (envF F fi s.heap.objs.size)) _ _
    have kp : ∀ b o, s.heap.get? b = some o → h₁.get? b = some o := fun b o e => hsb.extBut b o (Nat.ne_of_lt (Heap.lt_size e)) (Heap.get?_push_of_some _ e)
    have I := inv_startN (CX := L2.CX P w) (E := E) (f := fi) (tk := s.toks + (ps.zip us).length) S hr.hd e0 hl r C0 hns kp
    have hN0 : (ps ++ [("__class__" : Str)])[0]? = some slf := by rw [h1]; rfl
    have hσ0 : (startF (ps ++ [("__class__" : Str)]) (V.ref e :: ws) [(none : Option V)])[0]? = some (some (.ref e)) := rfl
    obtain ⟨z, j, p0, p1, ap, pc, pos, pos', rest, l, hbody, hline, hmf, hlq⟩ := x.body
    rw [hbody]
    have X0 := x.sf
    refine ks_codeAny_funcAt (ks_wpAt_execs_cons (sup_ok (F := F) (body := _) X0 I hN0 hσ0 he hline fun s' I' => ?_))
    have hT := x.sf.T
    have hpl : PSs (ncx (L2.CX P w) P w K mg base (ps ++ [("__class__" : Str)]) F fi A outer s H E) rest (tF K l) := mFl_ok (X := ncx (L2.CX P w) P w K mg base (ps ++ [("__class__" : Str)]) F fi A outer s H E) hN0 (by have := X0.kSelf; show locB F.scope slf = true; unfold locB; rw [this]) x.okS hmf
    have fin : ∀ {σ' : L2.St} {H' : Hp} {v : V} {u : Value} {s2 : Shared}, Inv (ncx (L2.CX P w) P w K mg base (ps ++ [("__class__" : Str)]) F fi A outer s H E) [] σ' H' s2 → L2.RelV v u → Q v H' → CE outer P w H s Q u s2 :=
      fun {σ' H' v u s2} J rv q => ⟨v, H', J.os, J.bare, J.base, J.hok, rv, q⟩
    refine wpAt_of_wpAny (wpAny_mono (hpl.run [] s' _ H { nx := fun _ H' => Q .non H', rt := fun v H' => Q v H' } I' ?_) (fun fl s2 hs => ?_) fun e2 s2 hs => hs)
    · subst hlq
      refine tF_ok (ys := ws) hT hσ0 he ?_ ?_ ?_ ?_ ?_
      · rw [List.length_zip, List.length_map, List.length_range, Nat.min_self]; exact x.few
      · intro hz
        have hz2 := congrArg List.length hz
        rw [List.length_zip, List.length_map, List.length_range, Nat.min_self] at hz2
        exact x.some_ (List.length_eq_zero_iff.mp hz2)
      · intro p hp
        exact x.no _ (List.of_mem_zip hp).1
      · have := paired_range (τ := startF (ps ++ [("__class__" : Str)]) (V.ref e :: ws) [(none : Option V)]) fn 0 hlw fun j y hy => by
          show ((V.ref e :: ws).map some ++ _)[0 + 1 + j]? = _
          have hj : j < ws.length := (List.getElem?_eq_some_iff.mp hy).1
          rw [List.getElem?_append_left (by simp; omega), Nat.zero_add, Nat.add_comm 1 j, List.map_cons, List.getElem?_cons_succ, List.getElem?_map, hy]
          rfl
        rw [List.range_eq_range']
        exact this
      · intro dx H' a1 a2 a3 a4 a5
        refine hq dx H' a1 a2 a3 ?_ a5
        rw [a4]
        have : (fn.zip ((List.range fn.length).map (· + 1))).map (·.1) = fn := by
          rw [List.map_fst_zip]
          rw [List.length_map, List.length_range]
          exact Nat.le_refl _
        rw [this]
    · cases fl with
      | ret u =>
        obtain ⟨v, σ', H', J, rv, q⟩ := hs
        exact fin J rv q
      | next =>
        obtain ⟨σ', H', J, q⟩ := hs
        exact fin (v := V.non) (u := Value.none) J rfl q
      | brk =>
        obtain ⟨_, _, _, q⟩ := hs
        exact False.elim q
      | cont =>
        obtain ⟨_, _, _, q⟩ := hs
        exact False.elim q
end
end Vm
set_option Elab.async false
set_option linter.all false
set_option maxRecDepth 100000
set_option maxHeartbeats 2000000
/-! raise. -/
namespace Vm
open PySem PySem.Spec PyProof.Rows L2
open PySem.W (Looks)
open NdefX

/-- an own error's class -/
structure ErrF (P : Program) (K : PySem.W.Frag) (mg : Str → Option Value) (D : Dat) (c : Nat) (ci : ClsI) : Prop where
  nd : (ci.flds.map D.nm).Nodup
  mks : ci.init.isSome = true → ∃ fi F fd ps slf, XinF P K mg (D.ca c) fi F fd ps (ci.flds.map D.nm) slf ∧ PySem.W.findIn K (.ref (D.ca c)) "__init__" = some (some (.ref fi)) ∧ PySem.W.typeIn K (.ref fi) = some (.type "function") ∧ Binds K fd ps []
  xf : XfC K (D.ca c)
  no : ∀ f ∈ ci.flds, PySem.W.findIn K (.ref (D.ca c)) (D.nm f) = some none
  is_ : ExcC K (D.ca c)
  ty : PySem.W.typeIn K (.ref (D.ca c)) = some (.type "type")
  sub : ∀ k ck, D.T.cls[k]? = some ck → ck.isx = true → PySem.W.subIn K (.ref (D.ca c)) (.ref (D.ca k)) = some (ci.supers.contains k) ∧ PySem.W.kitOne K (.ref (D.ca c)) (.ref (D.ca k)) = some (ci.supers.contains k)
/-- what a body's statements lean on, errors too -/
structure WkX (X : Cx) (D : Dat) (C : Calls) (L : Nat) (W : WX) : Prop where
  s : WkS X D C L W
  er : ∀ c ci, D.T.cls[c]? = some ci → ci.isx = true → ErrF X.prog X.K X.mg D c ci

theorem look_rev : ∀ {ns : List Str} {us : List V} {j : Nat} {n : Str} {z : V}, ns.Nodup → ns[j]? = some n → us[j]? = some z → ((ns.zip us).reverse).lookup n = some z
  | [], _, _, _, _, _, h, _ => by simp at h
  | _ :: _, [], _, _, _, _, _, h => by simp at h
  | m :: ns, w' :: us, 0, n, z, nd, h1, h2 => by
    simp at h1 h2
    subst h1; subst h2
    rw [List.zip_cons_cons, List.reverse_cons]
    have nd' := List.nodup_cons.mp nd
    have : ∀ (l : List (Str × V)), (∀ p ∈ l, p.1 ≠ m) → (l ++ [(m, w')]).lookup m = some w' := by
      intro l
      induction l with
      | nil => intro _; simp [List.lookup]
      | cons p l ih =>
        intro h
        obtain ⟨a, b⟩ := p
        have hne : (m == a) = false := beq_eq_false_iff_ne.mpr (h _ List.mem_cons_self).symm
        rw [List.cons_append, List.lookup_cons, hne]
        exact ih fun q hq => h q (List.mem_cons_of_mem _ hq)
    refine this _ fun p hp q => nd'.1 ?_
    rw [← q]
    exact (List.of_mem_zip (List.mem_reverse.mp hp)).1
  | m :: ns, w' :: us, j + 1, n, z, nd, h1, h2 => by
    have nd' := List.nodup_cons.mp nd
    rw [List.zip_cons_cons, List.reverse_cons]
    have ih := look_rev (ns := ns) (us := us) (j := j) nd'.2 (by simpa using h1) (by simpa using h2)
    have : ∀ (l : List (Str × V)), l.lookup n = some z → (l ++ [(m, w')]).lookup n = some z := by
      intro l
      induction l with
      | nil => intro h; cases h
      | cons p l ih =>
        intro h
        obtain ⟨a, b⟩ := p
        rw [List.cons_append, List.lookup_cons]
        rw [List.lookup_cons] at h
        cases hb : n == a with
        | true => rw [hb] at h; exact h
        | false => rw [hb] at h; exact ih h
    exact this _ ih

section
variable {X : Cx} {D : Dat} {C : Calls} {L : Nat} {W : WX} {n0 : Nat} {e : Expr} {es : List Expr} {ms : List E} {pos p rpos : Pos} {n : Str}
theorem sv_raise (w : WkX X D C L W) {c : Nat} {ci : ClsI} (hc : D.T.cls[c]? = some ci) (hx : ci.isx = true) (hi : ci.init.isSome = true) (hg : Gl X n) (hm : X.mg n = some (.ref (D.ca c))) (hdb : (n == ("__debug__" : Str)) = false) (h : PLv X D C W (e :: es) ms) (hp : (e :: es).all plainE = true) (hlen : ms.length = ci.flds.length) :
    PSv X D C W n0 (.Raise (some (.Call (.Name n p) (e :: es) [] pos)) none rpos) (.raise c ms) := by
  have ef := w.er c ci hc hx
  obtain ⟨fi, F, fd, ps, slf, xin, iC, tI, hbi⟩ := ef.mks hi
  have hp' := hp
  rw [List.all_cons, Bool.and_eq_true] at hp'
  have F1 := xin_fn (P := X.prog) (w := X.w) (base := X.base) (k := L) xin
  refine ps_imp (ps_raise w.s.w.calm w.s.w.tk (pmk_oex xin.sf.T iC tI F1 (w.s.w.at_.room.mono (by omega)) hbi .nil (fun _ _ _ _ _ _ _ z => ?_) hg hm h hdb (star1 hp'.1) (star_no hp'.2))) fun Dn τ H hq => ?_
  · obtain ⟨_, _, _, _, _, _, _, _, _, _, _, _, q⟩ := z
    exact q.elim
  obtain ⟨ι, st, σ, hn, S, R, hq⟩ := hq
  rw [exS] at hq
  refine ⟨ι, st, σ, S, R, (hq.ofE hn R).impE fun xs s1 ι1 H1 eq e1 S1 q us hus => ?_⟩
  split at q
  · rename_i ys hys
    have hl1 : us.length = ci.flds.length := by rw [← hus.length, evEs_len eq, hlen]
    have hfew : ci.flds.length ≤ 900 := by have := xin.few; rw [List.length_map] at this; exact this
    refine ⟨by omega, fun a ha => ?_⟩
    rw [List.append_nil]
    refine ⟨a, us, rfl, by rw [List.length_map]; exact hl1, upd_same, fun d H2 hd hne h1 h2 h3 => ?_⟩
    have hd1 : H1 d = none := by rw [upd_ne hne] at hd; exact hd
    refine ⟨rfl, d, _, h1, h2, hd1, ?_⟩
    have keep : ∀ b o, H1 b = some o → (upd (del H2 a) d (.xd (((ci.flds.map D.nm).zip us).reverse))) b = some o := by
      intro b o hb
      have b1 : b ≠ a := fun z => by rw [z, ha] at hb; cases hb
      have b2 : b ≠ d := fun z => by rw [z, hd1] at hb; cases hb
      rw [upd_ne b2, del_ne b1, h3 b b1 b2, upd_ne b1]
      exact hb
    obtain ⟨S2, e2⟩ := S1.more keep
    have hn1 := (e1.k hn).hi
    refine q ι1 _ τ _ _ (e2.k hn1) S2 ((R.keep e1).keep e2) ⟨ci, hc, hx, rfl, ?_, fun _ => ⟨d, _, rfl, upd_same, S1.fresh hd1, fun j f x hf hxj => ?_⟩⟩
    · have z2 : ys.length = ci.flds.length := by rw [vs_len hys, evEs_len eq, hlen]
      exact z2
    · have rr := RepSs.ofVs hys hus
      obtain ⟨u, g1, g2⟩ := rr.get hxj
      refine ⟨u, look_rev ef.nd (by rw [List.getElem?_map, hf]; rfl) g1, g2.keep e2.stay⟩
  · exact q.elim
end
end Vm
set_option Elab.async false
set_option linter.all false
set_option maxRecDepth 100000
set_option maxHeartbeats 2000000
/-! try .. except C as n: one statement. -/
namespace Vm
open PySem PySem.Spec PyProof.Rows L2
open PySem.W (Looks)
section
variable {X : Cx} {D : Dat} {C : Calls} {L : Nat} {W : WX} {n0 : Nat} {a : Addr} {cls : Value} {d : Option Addr} {nn : Nat}
/-- an expression of an except suite -/
def tH (X : Cx) (D : Dat) (nn : Nat) (a : Addr) (cls : Value) (d : Option Addr) (m : HE) : TE := fun τ H Q => ∃ ι st e x, Sim (D.G X.K) ι st H ∧ XRep (D.G X.K) ι H e cls d ∧ τ[nn]? = some (some (.ref a)) ∧ evH D.T e m = some x ∧
  ∀ ι' H' u, Ext ι H ι' H' → Sim (D.G X.K) ι' st H' → Rep (D.G X.K) ι' H' x u → Q u H'
def tHs (X : Cx) (D : Dat) (nn : Nat) (a : Addr) (cls : Value) (d : Option Addr) (ms : List HE) : TA := fun τ H Q => ∃ ι st e xs, Sim (D.G X.K) ι st H ∧ XRep (D.G X.K) ι H e cls d ∧ τ[nn]? = some (some (.ref a)) ∧ evHs D.T e ms = some xs ∧
  ∀ ι' H' us, Ext ι H ι' H' → Sim (D.G X.K) ι' st H' → Reps (D.G X.K) ι' H' xs us → Q us H'
def tHb (X : Cx) (D : Dat) (nn : Nat) (a : Addr) (cls : Value) (d : Option Addr) (m : HE) : TT := fun τ H Q => ∃ ι st e k, Sim (D.G X.K) ι st H ∧ XRep (D.G X.K) ι H e cls d ∧ τ[nn]? = some (some (.ref a)) ∧ evH D.T e m = some (.bl k) ∧
  ∀ ι' H', Ext ι H ι' H' → Sim (D.G X.K) ι' st H' → Q k H'
variable {oe : Obj} {pn : List (Addr × Obj)} {n f : Str} {pos p : Pos} {e e1 e2 e3 : Expr} {m m1 m2 m3 : HE} {es : List Expr} {ms : List HE}

theorem ph_name (hN : X.N[nn]? = some n) (hv : Vis X.env.scope n) (hd : okN n = true) : PE (X.suite a ((a, oe) :: pn)) (.Name n pos) (tVar nn) := pe_var (X := X.suite a ((a, oe) :: pn)) hN hv (okN_of hd).1 (okN_of hd).2
theorem ph_fld {fi : Nat} (er : ∀ c ci, D.T.cls[c]? = some ci → ci.isx = true → ErrF X.prog X.K X.mg D c ci) (hz : Zc cls d oe) (hf : ∃ vs, oe.data = .fields vs) (hN : X.N[nn]? = some n) (hv : Vis X.env.scope n) (hd : okN n = true) (hfn : f = D.nm fi) :
    PE (X.suite a ((a, oe) :: pn)) (.Attribute (.Name n p) f pos) (tH X D nn a cls d (.fld fi)) := by
  refine ⟨fun pins s τ H Q I h => ?_⟩
  obtain ⟨ι, st, e, x, S, xr, hτ, hx, hQ⟩ := h
  unfold evH xfld at hx
  obtain ⟨ci, hc, hxx, hcl, hlen, hfs⟩ := xr
  have hc' : D.T.cls[e.c]? = some ci := hc
  rw [hc'] at hx
  have ef := er e.c ci hc hxx
  simp only [Option.bind_some] at hx
  cases hj : idxN ci.flds fi with
  | none => rw [hj] at hx; cases hx
  | some j =>
    rw [hj] at hx
    simp only [Option.bind_some] at hx
    have hfj := idxN_get hj
    have hne : e.fs ≠ [] := by intro z; rw [z] at hx; simp at hx
    obtain ⟨da, hf', hd', hda, hnot, hall⟩ := hfs hne
    obtain ⟨u, hu, ru⟩ := hall j fi x hfj hx
    subst hfn
    refine (pe_xf (X := X) ef.xf (ef.no fi (List.mem_of_getElem? hfj)) hz hf (ph_name hN hv hd) (base_ok rfl)).run pins s τ H Q I ⟨.ref a, hτ, rfl, hcl, da, hf', u, hd', hda, hu, hQ ι H u .refl S ru⟩
theorem ph_non {j : Nat} : PE (X.suite a ((a, oe) :: pn)) (.Constant .none j pos) (tH X D nn a cls d .non) := by
  refine ⟨fun pins s τ H Q I h => ?_⟩
  obtain ⟨ι, st, e, x, S, xr, hτ, hx, hQ⟩ := h
  unfold evH at hx
  cases hx
  exact pe_non.run pins s τ H Q I (hQ ι H _ .refl S .non)
theorem ph_nil : PA (X.suite a ((a, oe) :: pn)) [] (tHs X D nn a cls d []) := by
  refine ⟨fun pos pins s τ H Q I h => ?_⟩
  obtain ⟨ι, st, e, x, S, xr, hτ, hx, hQ⟩ := h
  unfold evHs at hx
  cases hx
  exact pa_nil.run pos pins s τ H Q I (hQ ι H _ .refl S .nil)
theorem ph_cons (h1 : PE (X.suite a ((a, oe) :: pn)) e (tH X D nn a cls d m)) (h2 : PA (X.suite a ((a, oe) :: pn)) es (tHs X D nn a cls d ms)) (hp : plainE e = true) : PA (X.suite a ((a, oe) :: pn)) (e :: es) (tHs X D nn a cls d (m :: ms)) := by
  refine ⟨fun pos pins s τ H Q I h => ?_⟩
  obtain ⟨ι, st, e, x, S, xr, hτ, hx, hQ⟩ := h
  unfold evHs at hx
  split at hx
  · rename_i x1 xs hx1 hxs
    cases hx
    refine (pa_cons h1 h2 (star1 hp)).run pos pins s τ H Q I ⟨ι, st, e, x1, S, xr, hτ, hx1, fun ι1 H1 u e1 S1 r1 => ⟨ι1, st, e, xs, S1, xr.keep e1.stay, hτ, hxs, fun ι2 H2 us e2 S2 r2 => hQ ι2 H2 _ (e1.trans e2) S2 (.cons (r1.keep e2.stay) r2)⟩⟩
  · cases hx
theorem ph_tup {j : Nat} (h : PA (X.suite a ((a, oe) :: pn)) es (tHs X D nn a cls d ms)) (hl : ms.length ≤ 1000) : PE (X.suite a ((a, oe) :: pn)) (.Tuple es j pos) (tH X D nn a cls d (.tup ms)) := by
  refine ⟨fun pins s τ H Q I hq => ?_⟩
  obtain ⟨ι, st, e, x, S, xr, hτ, hx, hQ⟩ := hq
  unfold evH at hx
  cases hxs : evHs D.T e ms with
  | none => rw [hxs] at hx; cases hx
  | some xs =>
    rw [hxs] at hx
    cases hx
    have hlen : ∀ (ms : List HE) (xs : List PV), evHs D.T e ms = some xs → xs.length = ms.length := by
      intro ms
      induction ms with
      | nil => intro xs h; unfold evHs at h; cases h; rfl
      | cons m ms ih =>
        intro xs h
        unfold evHs at h
        split at h
        · rename_i y ys hy hys
          cases h
          exact congrArg (· + 1) (ih ys hys)
        · cases h
    refine (pe_tup h).run pins s τ H Q I ⟨ι, st, e, xs, S, xr, hτ, hxs, fun ι1 H1 us e1 S1 r1 => ⟨?_, fun q hq => ?_⟩⟩
    · rw [← r1.length, hlen ms xs hxs]
      exact Nat.le_trans hl (by decide)
    · exact hQ ι1 _ _ (e1.trans (Ext.new S1 hq)) (S1.new hq) (.tup (.inl ⟨.inl upd_same, S1.fresh hq⟩) (r1.keep (Ext.new S1 hq).stay))
theorem ph_ite (hc : PT (X.suite a ((a, oe) :: pn)) e1 (tHb X D nn a cls d m1)) (h2 : PE (X.suite a ((a, oe) :: pn)) e2 (tH X D nn a cls d m2)) (h3 : PE (X.suite a ((a, oe) :: pn)) e3 (tH X D nn a cls d m3)) :
    PE (X.suite a ((a, oe) :: pn)) (.IfExp e1 e2 e3 pos) (tH X D nn a cls d (.ite m1 m2 m3)) := by
  refine ⟨fun pins s τ H Q I hq => ?_⟩
  obtain ⟨ι, st, e, x, S, xr, hτ, hx, hQ⟩ := hq
  unfold evH at hx
  split at hx
  · rename_i hk
    exact (pe_ifExp hc h2 h3).run pins s τ H Q I ⟨ι, st, e, true, S, xr, hτ, hk, fun ι1 H1 ex1 S1 => ⟨ι1, st, e, x, S1, xr.keep ex1.stay, hτ, hx, fun ι2 H2 u ex2 S2 r => hQ ι2 H2 u (ex1.trans ex2) S2 r⟩⟩
  · rename_i hk
    exact (pe_ifExp hc h2 h3).run pins s τ H Q I ⟨ι, st, e, false, S, xr, hτ, hk, fun ι1 H1 ex1 S1 => ⟨ι1, st, e, x, S1, xr.keep ex1.stay, hτ, hx, fun ι2 H2 u ex2 S2 r => hQ ι2 H2 u (ex1.trans ex2) S2 r⟩⟩
  · cases hx
theorem pb_not (h1 : PT (X.suite a ((a, oe) :: pn)) e1 (tHb X D nn a cls d m1)) : PT (X.suite a ((a, oe) :: pn)) (.UnaryOp .Not e1 pos) (tHb X D nn a cls d (.not m1)) := by
  refine ⟨fun pins s τ H Q I hq => ?_⟩
  obtain ⟨ι, st, e, k, S, xr, hτ, hx, hQ⟩ := hq
  unfold evH at hx
  split at hx
  · rename_i k' hk
    cases hx
    exact (pt_not h1).run pins s τ H Q I ⟨ι, st, e, k', S, xr, hτ, hk, fun ι1 H1 ex1 S1 => hQ ι1 H1 ex1 S1⟩
  · cases hx
theorem pb_and (h1 : PT (X.suite a ((a, oe) :: pn)) e1 (tHb X D nn a cls d m1)) (h2 : PT (X.suite a ((a, oe) :: pn)) e2 (tHb X D nn a cls d m2)) : PT (X.suite a ((a, oe) :: pn)) (.BoolOp .And [e1, e2] pos) (tHb X D nn a cls d (.and m1 m2)) := by
  refine ⟨fun pins s τ H Q I hq => ?_⟩
  obtain ⟨ι, st, e, k, S, xr, hτ, hx, hQ⟩ := hq
  unfold evH at hx
  split at hx
  · rename_i hk
    exact (pw_and h1 (pw_and1 h2)).pt.run pins s τ H Q I ⟨ι, st, e, true, S, xr, hτ, hk, fun ι1 H1 ex1 S1 => ⟨ι1, st, e, k, S1, xr.keep ex1.stay, hτ, hx, fun ι2 H2 ex2 S2 => hQ ι2 H2 (ex1.trans ex2) S2⟩⟩
  · rename_i hk
    cases hx
    exact (pw_and h1 (pw_and1 h2)).pt.run pins s τ H Q I ⟨ι, st, e, false, S, xr, hτ, hk, fun ι1 H1 ex1 S1 => hQ ι1 H1 ex1 S1⟩
  · cases hx
end
end Vm
set_option Elab.async false
set_option linter.all false
set_option maxRecDepth 100000
set_option maxHeartbeats 4000000
/-! isinstance of a caught error; the clause. -/
namespace Vm
open PySem PySem.Spec PyProof.Rows L2 PySem.Calls
open PySem.W (Looks)
section
open PySem.W
variable {prog : Program} {w : World} {A : Around} {E : Value → Shared → Prop} {s : Shared} {K : PySem.W.Frag} {x D : Addr} {ox od : Obj}
/-- e.__class__ of an error with fields -/
theorem cls_of_err {Q : Option Value → Shared → Prop} (c : ExcC K D) (X : K.In s.heap) (I : InstAt s.heap x ox D (some od)) (h : Q (some (.ref D)) { s with toks := s.toks + 1 }) : wpAny (model prog w) A (getAttr? (.ref x) "__class__") Q E s := by
  have hcl : (clsIn K D).isSome = true := by
    obtain ⟨cd, hc, _⟩ := any_some c.hd
    rw [hc]; rfl
  have found := findObj_data (od := od) hcl c.ha c.hn c.ht
  obtain ⟨hp, g, d, t, os⟩ := s
  have Lt := I.type (M := model prog w)
  have Lga := looks_findIn (M := model prog w) X c.hg
  have Lgt := looks_findIn (M := model prog w) X c.hk
  have Lf := looks_find (M := model prog w) X I found
  have isB : Looks (model prog w) hp (isInstance (.ref x) (.type "BaseException")) true := Lt.andThen (looks_subIn X c.hs)
  have n2 : (Value.builtin "BaseException.__getattribute__" == Value.builtin "object.__getattribute__") = false := by decide +kernel
  have n1 : (onTheHeap (Value.ref D) && Value.builtin "BaseException.__getattribute__" == Value.builtin "object.__getattribute__") = false := by rw [n2]; rfl
  unfold getAttr? getAttrBy? getAttrBy
  refine wpAny_bind (wpAny_mkText (wpAny_bind (wpAny_attempt (wpAny_holding (wpAny_bind (Lt.at (wpAny_bind (Lga.at ?_))))))))
  show wpAny _ _ (if (onTheHeap (Value.ref D) && Value.builtin "BaseException.__getattribute__" == Value.builtin "object.__getattribute__") = true then _ else _) _ _ _
  rw [n1, if_neg Bool.false_ne_true]
  unfold getAttrByItsOwn hookBefore
  refine wpAny_bind ?_
  rw [if_pos (show onTheHeap (Value.ref D) = true from rfl)]
  refine Lgt.at (wpAny_bind (wpAny_attempt (wpAny_holding ?_)))
  unfold callGetattribute
  rw [if_neg (show ¬ (false && onTheHeap (Value.builtin "BaseException.__getattribute__")) = true from Bool.false_ne_true)]
  unfold boundAndCalled
  rw [PySem.F.excAttr_ValueError.ga.bind (.ref x)]
  refine wpAny_bind (wpAny_pure ?_)
  show wpAny _ _ (call (.builtin "BaseException.__getattribute__") [.ref x, .str "__class__" t]) _ _ _
  refine wpAny_call (codeAny_call_builtin PySem.F.excAttr_ValueError.ga.plain PySem.F.entry_bexc_ga ?_)
  refine @check_slot (model prog w) _ _ ⟨hp, g, d, t + 1, os⟩ "BaseException.__getattribute__" "BaseException" "__getattribute__" (.ref x) [.str "__class__" t] [] _ (by decide +kernel) (by decide +kernel) isB (PySem.F.args_bexc_ga (.ref x) (.str "__class__" t)) ?_
  unfold Builtin.«object.__getattribute__»
  refine wpAny_bind (wpAny_of_eq (a := ((Value.ref x : Value), [Value.str "__class__" t])) (by first | rfl | (simp only [slotArgs]; rfl)) ?_)
  refine wpAny_bind (wpAny_pure (wpAny_bind (Lt.at (wpAny_bind (Lf.at ?_)))))
  show wpAny _ _ (holding [Value.builtin "object.__class__"] (call (.builtin "getset_descriptor.__get__") [.builtin "object.__class__", .ref x, .ref D]) >>= ret) _ _ _
  refine wpAny_bind (wpAny_holding (wpAny_call (class_get (s := ⟨hp, g, d, t + 1, os⟩) (ox := ox) (od := some od) X I c.hm ?_)))
  refine wpAny_pure ?_
  show wpAny _ _ (handedOut (.ref D)) _ _ _
  rw [handedOut_of (v := .ref D) rfl]
  first
    | exact wpAny_pure (wpAny_pure h)
    | exact wpAny_pure h
    | exact wpAny_pure (wpAny_bind (wpAny_pure (wpAny_pure h)))
theorem kit_err (c : ExcC K D) : KitX K (.ref x) (.ref D) (fun h => InstAt h x ox D (some od)) where
  ty := fun _ _ _ I => I.type
  it := fun _ _ X _ => by
    obtain ⟨cdD, hcD, _⟩ := any_some c.hd
    unfold clsIn at hcD
    split at hcD
    · rename_i ho
      intro A' Q' E' s' k q
      unfold isType loadHead
      exact wpAny_bind (wpAny_loadPart (k _ _ (X _ _ ho)) (wpAny_pure q))
    · cases hcD
  ne := fun h tp dd its n sl X htp => by
    obtain ⟨cdD, hcD, _⟩ := any_some c.hd
    refine Bool.eq_false_iff.mpr fun q => ?_
    cases (Value.ref.inj (beq_iff_eq.mp q) : D = tp)
    unfold clsIn at hcD
    split at hcD
    · rename_i ho
      cases (X _ _ ho).symm.trans htp
    · cases hcD
  ca := fun X I k => cls_of_err c X I k
end
section
variable {X : Cx} {D : Dat} {C : Calls} {L : Nat} {W : WX} {n0 : Nat} {a : Addr} {cls : Value} {d : Option Addr} {nn : Nat} {oe : Obj} {pn : List (Addr × Obj)} {n nc : Str} {pos p p2 q1 q2 : Pos}
theorem pb_isx {k : Nat} (er : ∀ c ci, D.T.cls[c]? = some ci → ci.isx = true → ErrF X.prog X.K X.mg D c ci) (hz : Zc cls d oe) (hf : ∃ vs, oe.data = .fields vs) (hN : X.N[nn]? = some n) (hv : Vis X.env.scope n) (hd : okN n = true)
    (hgi : Gl X "isinstance") (hmi : X.mg "isinstance" = none) (hgc : Gl X nc) (hmc : X.mg nc = some (.ref (D.ca k))) (hdc : (nc == ("__debug__" : Str)) = false) (hk : ∃ ck, D.T.cls[k]? = some ck ∧ ck.isx = true) :
    PT (X.suite a ((a, oe) :: pn)) (.Call (.Name "isinstance" p) [.Name n q1, .Name nc q2] [] pos) (tHb X D nn a cls d (.isx k)) := by
  refine ⟨fun pins s τ H Q I hq => ?_⟩
  obtain ⟨ι, st, e, b, S, xr, hτ, hx, hQ⟩ := hq
  unfold evH xsub at hx
  obtain ⟨ci, hc, hxx, hcl, hlen, hfs⟩ := xr
  have hne : e.fs ≠ [] := by
    intro z
    rw [z] at hx
    cases hx
  rw [if_neg (by intro z; exact hne (List.isEmpty_iff.mp z))] at hx
  have hc' : D.T.cls[e.c]? = some ci := hc
  rw [hc'] at hx
  have hb : ci.supers.contains k = b := by
    have := Option.some.inj hx
    exact PV.bl.inj this
  have ef := er e.c ci hc hxx
  obtain ⟨ck, hk1, hk2⟩ := hk
  have hkit := (ef.sub k ck hk1 hk2).2
  rw [hb] at hkit
  refine isTrue_plain ?_ rfl
  have Xs : (X.suite a ((a, oe) :: pn)).mg = X.mg := rfl
  refine wpAny_Call_Name_kw (ld_blt (X := X.suite a ((a, oe) :: pn)) I hgi hmi (u := .builtin "isinstance") (by decide +kernel) ?_ (by decide +kernel) (by decide +kernel))
  refine PyProof.Rows.callWith_builtin1 ?_ rfl rfl
  show wpAny _ _ (spliced ((false, eval (.Name n q1) X.env) :: (false, eval (.Name nc q2) X.env) :: [])) _ _ s
  refine Calls.spliced_cons (thn ((ph_name (pos := q1) hN hv hd).run pins s τ H (fun u H1 => u = .ref a ∧ H1 = H) I ⟨.ref a, hτ, rfl, rfl⟩) fun v1 s1 hv1 => ?_)
  obtain ⟨u1, H1, I1, rv1, rfl, rfl⟩ := hv1
  cases rv1
  refine Calls.spliced_cons (ld_glob (X := X.suite a ((a, oe) :: pn)) I1 hgc hmc (Calls.spliced_nil ?_) hdc)
  -- the error as it stands
  obtain ⟨ha, _⟩ := I1.pin (a, oe) (List.mem_append_left _ List.mem_cons_self)
  obtain ⟨vs, hdat⟩ := hf
  have fin : ∀ tk, wpAny (model X.prog X.w) X.A (pure true : Sem Bool) (fun _ _ => True) (fun _ _ => False) { s1 with toks := tk } := fun tk => wpAny_pure trivial
  have done : ∀ tk, wpAny (model X.prog X.w) (X.A.mark (some (.ref a))) (truthy (.bool b)) (TP (X.suite a ((a, oe) :: pn)) pins τ Q) (fun _ _ => False) { s1 with toks := tk } := fun tk => wpAny_truthy_bool ⟨H1, I1.tok tk, hQ ι H1 .refl S⟩
  obtain ⟨z1, z2⟩ := hz
  obtain ⟨da, hf', hd', hda, _⟩ := hfs hne
  have hx : ObjOk X.prog X.w H1 s1.heap da (.xd hf') := I1.hok da _ hda
  obtain ⟨mA, hns, hr⟩ := hx
  obtain ⟨od, ho, hl⟩ := lookIn_ns hns
  have J : PySem.W.InstAt s1.heap a oe (D.ca e.c) (some od) := ⟨ha, by rw [z1, hcl], by unfold PySem.W.notCls; rw [hdat], by rw [z2, hd']; exact ho⟩
  exact PySem.W.kia_one (kit_err ef.is_) I1.kIn J hkit (fun z => nomatch z) done

/-- what a def's body has besides -/
structure WkD (X : Cx) (D : Dat) (C : Calls) (L : Nat) (W : WX) : Prop where
  x : WkX X D C L W
  stk : X.stack = X.env :: X.outer
  frm : X.env.frame = some X.env.locals
theorem WkD.tr (w : WkD X D C L W) {W' : WX} {pn : List (Addr × Obj)} {xe : Value → Shared → Prop} (tk : Takes (X.tr pn xe) W') (po : PassesOwn (model X.prog X.w) X.A X.env xe) : WkD (X.tr pn xe) D C L W' :=
  ⟨⟨⟨⟨w.x.s.w.fa, w.x.s.w.fns, w.x.s.w.ar, tk, ⟨w.x.s.w.at_.room, w.x.s.w.at_.gd, w.x.s.w.at_.fr⟩, w.x.s.w.calm⟩, w.x.s.nd, w.x.s.fn, po, w.x.s.bk⟩, w.x.er⟩, w.stk, w.frm⟩
theorem set3 {τ : L2.St} {i j : Nat} {x y : Option V} (h : i ≠ j) : ((τ.set j x).set i y).set j none = (τ.set i y).set j none := by
  rw [List.set_comm (l := τ) x y (Ne.symm h), List.set_set]
theorem sv_try (w : WkD X D C L W) {c i : Nat} {ci : ClsI} {body : List Stmt} {xb : List S} {he : Expr} {m : HE} {ny : Str} {py pos' ps0 : Pos} (hc : D.T.cls[c]? = some ci) (hx : ci.isx = true) (hgc : Gl X nc) (hmc : X.mg nc = some (.ref (D.ca c))) (hdc : (nc == ("__debug__" : Str)) = false)
    (hN : X.N[nn]? = some n) (hln : X.env.scope.names.lookup n = some .local) (hi : X.N[i]? = some ny) (hy : Sto X ny) (hne : i ≠ nn)
    (hb : ∀ (W' : WX) (pn : List (Addr × Obj)) (xe : Value → Shared → Prop), Takes (X.tr pn xe) W' → PassesOwn (model X.prog X.w) X.A X.env xe → PSs (X.tr pn xe) body (tSs X D C W' n0 xb))
    (hh : ∀ (a : Addr) (oe : Obj) (cls : Value) (d : Option Addr) (pn : List (Addr × Obj)), Zc cls d oe → (∃ vs, oe.data = .fields vs) → PE (X.suite a ((a, oe) :: pn)) he (tH X D nn a cls d m)) (hs : swapsWith he (some (.Name ny py)) ps0.line X.env = pure false) :
    PSv X D C W n0 (.Try body [.ExceptHandler (some (.Name nc p)) (some n) [.Assign [.Name ny py] he ps0] pos'] [] [] pos) (.tryx xb c nn i m) := by
  have ns : Names X nc (.ref (D.ca c)) := ⟨hgc, hdc, .inl hmc⟩
  have suite : ∀ (a : Addr) (oe : Obj) (cls : Value) (d : Option Addr) (pn : List (Addr × Obj)), Zc cls d oe → (∃ vs, oe.data = .fields vs) → PSs (X.suite a ((a, oe) :: pn)) [.Assign [.Name ny py] he ps0] (tAsg (tH X D nn a cls d m) (gName i)) :=
    fun a oe cls d pn hz hf => pss_one (ps_set (X := X.suite a ((a, oe) :: pn)) w.x.s.nd hi hy.1 (hh a oe cls d pn hz hf) hs hy.2)
  refine ps_imp (ps_try_as (tb := fun W' => tSs X D C W' n0 xb) (ts := fun a cls d => tAsg (tH X D nn a cls d m) (gName i)) (i := nn) w.stk w.frm w.x.s.nd hN hln ns w.x.s.w.tk hb suite) fun Dn τ H hq => ?_
  obtain ⟨ι, st, σ, hn, S, R, hq⟩ := hq
  rw [exS] at hq
  refine ⟨ι, st, σ, hn, S, R, ?_⟩
  revert hq
  cases exSs D.T C n0 xb σ st with
  | bad => exact fun z => z
  | go f σ' s' => exact fun hq => hq
  | ex e σ1 s1 =>
    intro hq ι' H' τ' cl d e' S' R' xr
    have xr0 := xr
    obtain ⟨cie, hce, hxe, hcl, _⟩ := xr0
    have hce' : D.T.cls[e.c]? = some cie := hce
    have ef := w.x.er e.c cie hce' hxe
    have efc := w.x.er c ci hc hx
    have hsub := (ef.sub c ci hc hx).1
    have hexm : PySem.W.exmOne X.K cl (.ref (D.ca c)) = some (cie.supers.contains c) := by
      subst hcl
      exact PySem.W.exm_ref efc.is_.hs efc.is_.hd efc.ty hsub
    have hxs : xsub D.T e.c c = cie.supers.contains c := by unfold xsub; rw [hce']
    dsimp only at hq
    rw [hxs] at hq
    refine ⟨_, hexm, fun hb a ha => ?_, fun hb => ?_⟩
    · rw [if_pos hb] at hq
      split at hq
      rotate_left
      · exact hq.elim
      rename_i hlt0
      split at hq
      · rename_i x hxv
        have hlt : nn < τ'.length := by rw [← R'.1]; exact hlt0
        refine ⟨ι', s1, e, x, S', xr, by rw [List.getElem?_set_self hlt], hxv, fun ι2 H2 u e2 S2 r => ?_⟩
        show Dn.nx (((τ'.set nn (some (.ref a))).set i (some u)).set nn none) H2
        rw [set3 hne]
        have R2 := ((R'.keep e2).set (x := .v x) r i).none nn
        exact (PostS.at hq (e'.trans (e2.k e'.hi))).now (W := W) (e2.k e'.hi).hi S2 R2
      · exact hq.elim
    · rw [if_neg (by rw [hb]; decide)] at hq
      exact hq ι' H' τ' cl d e' S' R' xr
end
end Vm
set_option Elab.async false
set_option linter.all false
set_option maxRecDepth 100000
set_option maxHeartbeats 2000000
/-! The defs keep the machine's promises, to any depth. -/
namespace Vm
open PySem PySem.Spec PyProof.Rows L2
open PySem.W (Looks)

/-- a def of the text: its object, its body's IR -/
def DefF (P : Program) (w : World) (K : PySem.W.Frag) (mg : Str → Option Value) (base : Heap) (D : Dat) (d : Nat) (di : DefI) : Prop :=
  ∃ (oc : Value) (od : Option Addr) (name qual : Str) (params : Arguments) (body : List Stmt) (scope : Scope) (dV kV doc pm cdv ct : Value) (an : Option Addr) (osl : Array (Option Value)) (N : List Str),
    K.lookup (D.fa d) = some ⟨oc, od, .func (PySem.W.fnOf name qual params body scope dV kV doc pm an cdv ct), osl⟩ ∧ D.fd d = PySem.W.fnOf name qual params body scope dV kV doc pm an cdv ct ∧ PySem.W.codeIn K cdv qual = true ∧ FnScope N (D.ps d) scope ∧ (D.ps d).length = di.npar ∧ N.length = di.nslot ∧
    ∀ (X : Cx) (C : Calls) (L : Nat) (W : WX) (n0 : Nat), X.K = K → WkD X D C L W → X.N = N → X.env.scope = scope → PSsv X D C W n0 body di.body

theorem ExtK.ext {ι ι' : List Addr} {H H' : Hp} (e : ExtK ι.length ι H ι' H') : Ext ι H ι' H' := by
  refine ⟨⟨ι'.drop ι.length, ?_⟩, e.stay⟩
  have h := e.eq
  rw [List.take_length] at h
  conv => lhs; rw [← List.take_append_drop ι.length ι', h]
theorem ExtK.cut {ι ι' : List Addr} {H H' : Hp} (e : ExtK ι.length ι H ι' H') : Ext ι H (ι'.take ι.length) H' := by
  have h := e.eq
  rw [List.take_length] at h
  exact ⟨⟨[], by rw [h, List.append_nil]⟩, e.stay.trans Stay.cut⟩
/-- the end of a def -/
theorem leave_ok {G : GD} {W : WX} {ι : List Addr} {st : PS} {H : Hp} {Q : VK} {E : XK} {esc : Bool} {r : RS} (S : Sim G ι st H)
    (h : Post G (match r with
    | .go (.rt x) _ s1 => leave esc st.length x s1
    | .go .nx _ s1 => leave esc st.length (.v .non) s1
    | .ex e _ s1 => if esc then .ex e s1 else .ex e (s1.take st.length)
    | _ => .bad) ι H (FV G Q) E) : PostS G (fun cl d _ H => E cl d H) ι.length r ι H { nx := fun _ H' => Q .non H', rt := Q } := by
  have key : ∀ (x : SV) (s1 : PS), Post G (leave esc st.length x s1) ι H (FV G Q) E → ∀ ι' H', ExtK ι.length ι H ι' H' → Sim G ι' s1 H' → ∀ u, RepS G ι' H' x u → Q u H' := by
    intro x s1 h ι' H' e S' u r
    unfold leave at h
    split at h
    · exact h ι' H' e.ext S' u r
    · have hl := S.len
      split at h
      · rename_i y
        have := h (ι'.take st.length) H' (by rw [← hl]; exact e.cut) (S'.cut _) u
        exact this (Rep.keep Stay.cut r)
      · rename_i m
        split at h
        · rename_i hm
          exact h (ι'.take st.length) H' (by rw [← hl]; exact e.cut) (S'.cut _) u (RepS.cut (x := .ref m) hm r)
        · rename_i hm
          split at h
          · rename_i xs hxs
            split at h
            · rename_i ys hys
              obtain ⟨a, h1, rfl⟩ := r
              obtain ⟨b, h2, us, h3, h4, _⟩ := S'.at_ m _ hxs
              rw [h1] at h2
              cases h2
              refine h (ι'.take st.length) H' (by rw [← hl]; exact e.cut) (S'.cut _) _ (.lst h3 (fun z => S'.last_out h1 ?_) ((RepSs.ofVs hys h4).keep Stay.cut))
              exact List.take_subset_take_left _ (by omega) z
            · exact h.elim
          · exact h.elim
  cases r with
  | bad => exact h.elim
  | ex e σ' s' =>
    intro ι' H' τ' cl d e' S' R' xr
    dsimp only at h
    split at h
    · exact h ι' H' cl d e'.ext S' xr
    · have hl := S.len
      exact h (ι'.take st.length) H' cl d (by rw [← hl]; exact e'.cut) (S'.cut _) (xr.keep Stay.cut)
  | go f σ' s' =>
    cases f with
    | nx => exact fun ι' H' τ' e' S' R' => key (.v .non) s' h ι' H' e' S' .non .non
    | rt x => exact fun ι' H' τ' e' S' R' u r => key x s' h ι' H' e' S' u r
    | brk => exact h.elim
    | ct => exact h.elim
theorem ar_callN (D : Dat) : ∀ n, Ar D (callN D.T n)
  | 0 => fun d args s h => absurd rfl h
  | n + 1 => fun d args s h => by
    unfold callN at h
    split at h
    · rename_i di hd
      unfold runD at h
      split at h
      · rename_i hl
        exact ⟨di, hd, hl⟩
      · exact absurd rfl h
    · exact absurd rfl h
theorem srel_start {G : GD} {ι : List Addr} {H : Hp} {args : List SV} {us : List V} {N : List Str} {k : Nat} (r : RepSs G ι H args us) (hk : N.length = k) (hl : us.length ≤ N.length) : SRel G ι H (args.map some ++ List.replicate (k - args.length) none) (L2.start N us) := by
  have hlen := r.length
  unfold L2.start
  refine ⟨by simp; omega, fun i x q => ?_⟩
  by_cases hi : i < args.length
  · rw [List.getElem?_append_left (by simpa using hi), List.getElem?_map] at q
    obtain ⟨y, hy⟩ : ∃ y, args[i]? = some y := ⟨_, List.getElem?_eq_getElem hi⟩
    rw [hy] at q
    cases q
    obtain ⟨u, h1, h2⟩ := r.get hy
    exact ⟨u, by rw [List.getElem?_append_left (by simp; omega), List.getElem?_map, h1]; rfl, h2, h2.blw⟩
  · rw [List.getElem?_append_right (by simpa using hi), List.getElem?_replicate] at q
    split at q <;> cases q

/-- the facts of the whole text -/
structure Txt (P : Program) (w : World) (K : PySem.W.Frag) (mg : Str → Option Value) (base : Heap) (D : Dat) : Prop where
  fa : Fa K mg D
  er : ∀ c ci, D.T.cls[c]? = some ci → ci.isx = true → ErrF P K mg D c ci
  df : ∀ d di, D.T.defs[d]? = some di → DefF P w K mg base D d di
theorem fns_ok {P : Program} {w : World} {K : PySem.W.Frag} {mg : Str → Option Value} {base : Heap} {D : Dat} (T : Txt P w K mg base D) : ∀ n, FnsOk P w K mg base D (callN D.T n) (4 * n)
  | 0 => fun d di hd => by
    refine ⟨?_, ?_⟩
    · rintro us H Q E ⟨ι, s, args, _, _, _, h⟩
      exact h.elim
    · rintro A outer s H args vals us Q E _ _ _ _ _ ⟨ι, st, as, _, _, _, h⟩
      exact h.elim
  | n + 1 => fun d di hd => by
    have ih := fns_ok T n
    obtain ⟨oc, od, name, qual, params, body, scope, dV, kV, doc, pm, cdv, ct, an, osl, N, lk, hfd, hcd, Sc, hnp, hns, hbody⟩ := T.df d di hd
    rw [hfd]
    have F := FnG.of (P := P) (w := w) (mg := mg) (base := base) (k := 4 * n + 3) (sp := spC (D.G K) (callN D.T (n + 1)) d di.npar) lk hcd Sc ?_ ?_
    · exact F
    · rintro us H Q E ⟨ι, s, args, _, r, hl, _⟩
      rw [← r.length, hl, hnp]
    · rintro A outer s H us Q E hr hg ⟨ι, st, args, S, r, hl, h⟩
      unfold callN at h
      rw [hd] at h
      dsimp only at h
      unfold runD at h
      rw [if_pos hl] at h
      have hpo : PassesOwn (model P w) (cxOf (L2.CX P w) P w K mg base N qual scope (D.fa d) cdv A outer s H E).A (cxOf (L2.CX P w) P w K mg base N qual scope (D.fa d) cdv A outer s H E).env (cxOf (L2.CX P w) P w K mg base N qual scope (D.fa d) cdv A outer s H E).xe :=
        passes_of (X := cxOf (L2.CX P w) P w K mg base N qual scope (D.fa d) cdv A outer s H E) rfl
      have htk : Takes (cxOf (L2.CX P w) P w K mg base N qual scope (D.fa d) cdv A outer s H E) (fun cl d _ H => E cl d H) := takes_of (X := cxOf (L2.CX P w) P w K mg base N qual scope (D.fa d) cdv A outer s H E) rfl rfl rfl rfl
      have wk : WkD (cxOf (L2.CX P w) P w K mg base N qual scope (D.fa d) cdv A outer s H E) D (callN D.T n) (4 * n) (fun cl d _ H => E cl d H) :=
        ⟨⟨⟨⟨T.fa, ih, ar_callN D n, htk, ⟨hr, hg, rfl⟩, rfl⟩, Sc.nd, fun _ => rfl, hpo, by show Env.blockKind _ = _; unfold Env.blockKind; rw [show (cxOf (L2.CX P w) P w K mg base N qual scope (D.fa d) cdv A outer s H E).env.scope.kind = _ from Sc.kind]; rfl⟩, T.er⟩, rfl, rfl⟩
      refine ⟨_, hbody _ (callN D.T n) (4 * n) _ ι.length rfl wk rfl rfl, ι, st, _, Nat.le_refl _, S, srel_start r hns (by rw [← r.length, hl, ← hnp, ← Sc.pre]; exact List.length_take_le' _ _), ?_⟩
      have hlS := S.len
      rw [← hlS] at h
      have := leave_ok (W := fun cl d _ H => E cl d H) (esc := di.esc) (r := exSs D.T (callN D.T n) ι.length di.body (args.map some ++ List.replicate (di.nslot - args.length) none) st) S (by rw [hlS] at h ⊢; exact h)
      exact this
end Vm
set_option Elab.async false
set_option linter.all false
set_option maxRecDepth 100000
set_option maxHeartbeats 4000000
/-! The checker of statements. -/
namespace Vm
open PySem PySem.Spec PyProof.Rows L2
open PySem.W (Looks)

def plainV : Expr → Bool
  | .ListComp _ _ _ _ => false
  | .SetComp _ _ _ _ => false
  | .DictComp _ _ _ _ _ => false
  | _ => true
def swNone (ts : List Expr) : Expr → Bool
  | .Tuple vs _ _ => decide (3 < ts.length) || vs.all (foldedForSure 8)
  | _ => true
theorem sw_plain {a : Expr} {t : Option Expr} {l : Nat} {env : Env} (h : plainV a = true) : swapsWith a t l env = pure false := by
  unfold swapsWith
  cases a <;> first | rfl | cases h
theorem sw_sub {a o i : Expr} {p : Pos} {l : Nat} {env : Env} : swapsWithSole [.Subscript o i p] a l env = pure false := by
  unfold swapsWithSole swapsWith
  cases a <;> rfl
theorem sw_att {a o : Expr} {n : Str} {p : Pos} {l : Nat} {env : Env} : swapsWith a (some (.Attribute o n p)) l env = pure false := by
  unfold swapsWith
  cases a <;> rfl
theorem sw_tup {a : Expr} {ts : List Expr} {j : Nat} {p : Pos} {l : Nat} {env : Env} : swapsWithSole [.Tuple ts j p] a l env = pure false := by
  unfold swapsWithSole swapsWith
  cases a <;> rfl
theorem st_sub {a o i : Expr} {p : Pos} {env : Env} : swappedStores [.Subscript o i p] a env = pure none := by
  unfold swappedStores
  cases a <;> rfl
theorem st_none {a : Expr} {ts : List Expr} {j : Nat} {p : Pos} {env : Env} (h : swNone ts a = true) : swappedStores [.Tuple ts j p] a env = pure none := by
  unfold swappedStores
  cases a <;> try rfl
  rename_i vs k q
  unfold swNone at h
  dsimp only at h
  rw [Bool.or_eq_true] at h
  split
  rotate_left
  · rename_i hno
    exact (hno ts vs rfl).elim
  rename_i ts' vs' heq
  obtain ⟨rfl, rfl⟩ : ts = ts' ∧ vs = vs' := by
    have := Option.some.inj heq
    exact ⟨congrArg Prod.fst this, congrArg Prod.snd this⟩
  split
  · rfl
  rename_i h1
  split
  · rfl
  dsimp only
  split
  · rfl
  rcases h with h | h
  · have := of_decide_eq_true h
    simp at h1
    omega
  · rw [if_pos h]
theorem st_two {a b : Expr} {n1 n2 : Str} {px py : Pos} {kt k2 : Nat} {pt pt2 : Pos} {env : Env} (hb : env.blockKind = .function) (h1 : env.scope.names.lookup n1 = some .local) (h2 : env.scope.names.lookup n2 = some .local) (hl : (px.line == py.line) = true) (hne : (n1 != n2) = true)
    (ha : plainE a = true) (hbb : plainE b = true) (hf : ([a, b].all (foldedForSure 8)) = false) (hc : ([a, b].all (constantsAlone 8)) = false) :
    swappedStores [.Tuple [.Name n1 px, .Name n2 py] kt pt] (.Tuple [a, b] k2 pt2) env = pure (some [n1, n2]) := by
  have e1 : (env.kindOf n1 == some NameKind.local) = true := by unfold Env.kindOf; rw [h1]; rfl
  have e2 : (env.kindOf n2 == some NameKind.local) = true := by unfold Env.kindOf; rw [h2]; rfl
  have e3 : (py.line == px.line) = true := by rw [beq_iff_eq] at hl ⊢; exact hl.symm
  have e4 : (n2 == n1) = false := by
    rw [bne_iff_ne] at hne
    exact beq_eq_false_iff_ne.mpr (Ne.symm hne)
  have er : ([n1, n2].eraseDups) = [n1, n2] := by
    simp [List.eraseDups, List.eraseDupsBy, List.eraseDupsBy.loop, e4]
  unfold swappedStores
  rw [hb]
  dsimp only
  split
  · rename_i h; exact absurd h (by simp)
  split
  · rename_i h
    obtain ⟨e, he, hx⟩ := List.any_eq_true.mp h
    have hp : plainE e = true := by
      rcases List.mem_cons.mp he with rfl | he
      · exact ha
      · rw [List.mem_singleton] at he; subst he; exact hbb
    split at hx
    · cases hp
    · cases hx
  have e5 : (px.line == (Option.map (fun (x : Expr) => x.pos.line) [Expr.Name n1 px, Expr.Name n2 py].head?).getD 0) = true := beq_self_eq_true px.line
  have e6 : (py.line == (Option.map (fun (x : Expr) => x.pos.line) [Expr.Name n1 px, Expr.Name n2 py].head?).getD 0) = true := e3
  simp only [List.filterMap_cons, List.filterMap_nil, e1, e2, e5, e6, Bool.and_self, if_true]
  rw [er]
  rw [if_neg (by simp), hf, hc]
  rfl
end Vm
set_option Elab.async false
set_option linter.all false
set_option maxRecDepth 100000
set_option maxHeartbeats 4000000
/-! The checker of statements. -/
namespace Vm
open PySem PySem.Spec PyProof.Rows L2
open PySem.W (Looks)

section
variable (D : Dat) (N : List Str) (sc : Scope)
def isXc (n : Str) (c : Nat) : Bool := (match D.gs.lookup n with
  | some (.cl k) => k == c
  | _ => false) && (match D.T.cls[c]? with
  | some ci => ci.isx
  | none => false)
/-- expressions, tests of an except suite; n: the error's name -/
def mHs (rE : Expr → HE → Bool) : List Expr → List HE → Bool
  | [], [] => true
  | e :: es, m :: ms => plainE e && rE e m && mHs rE es ms
  | _, _ => false
def stepH (n : Str) (rE : Expr → HE → Bool) (rB : Expr → HE → Bool) (e : Expr) (m : HE) : Bool := match m with
  | .fld f => (match e with
    | .Attribute (.Name x _) y _ => x == n && y == D.nm f
    | _ => false)
  | .non => (match e with
    | .Constant .none _ _ => true
    | _ => false)
  | .tup ms => (match e with
    | .Tuple es _ _ => mHs rE es ms && decide (ms.length ≤ 1000)
    | _ => false)
  | .ite c a b => (match e with
    | .IfExp e1 e2 e3 _ => rB e1 c && rE e2 a && rE e3 b
    | _ => false)
  | _ => false
def stepHB (n : Str) (rB : Expr → HE → Bool) (e : Expr) (m : HE) : Bool := match m with
  | .not a => (match e with
    | .UnaryOp .Not e1 _ => rB e1 a
    | _ => false)
  | .and a b => (match e with
    | .BoolOp .And [e1, e2] _ => rB e1 a && rB e2 b
    | _ => false)
  | .isx k => (match e with
    | .Call (.Name i _) [.Name x _, .Name nc _] [] _ => i == ("isinstance" : Str) && x == n && glB sc i && D.nb.contains i && glB sc nc && okN nc && isXc D nc k
    | _ => false)
  | _ => false
def mHR (n : Str) : Nat → (Expr → HE → Bool) × (Expr → HE → Bool)
  | 0 => (fun _ _ => false, fun _ _ => false)
  | k + 1 => (stepH D n (mHR n k).1 (mHR n k).2, stepHB D sc n (mHR n k).2)

def mLs (rS : Stmt → S → Bool) : List Stmt → List S → Bool
  | sts, .frz _ :: ss => mLs rS sts ss
  | [], [] => true
  | st :: sts, s :: ss => rS st s && mLs rS sts ss
  | _, _ => false
variable (rE : Scope → Expr → E → Bool) (rB : Scope → Expr → B → Bool)
def fnK (sc : Scope) : Bool := match sc.kind with
  | .function => true
  | _ => false
/-- name = [..] -/
def mLc (n : Str) (p : Pos) (a : Expr) (m : E) : Bool := match a, m with
  | .ListComp elt [⟨tg, iter, ifs, 0⟩] scope apos, .lc _ t mi cs me => (p.line == apos.line) && locB sc n && fnK sc && !(scope.names.any fun (z, k) => z == n && (k == .local || k == .cell)) &&
    (match ownOf tg t with
      | some own => blkC N sc scope own && decide (own.map (·.2) = tgs t) && notSet iter && mI D rE sc iter mi && mTg N (relS scope sc) false tg t && mIfs (rB (relS scope sc)) ifs cs && rE (relS scope sc) elt me
      | none => false)
  | _, _ => false
def stepS (rS : Stmt → S → Bool) (st : Stmt) (m : S) : Bool := match m with
  | .set i e => (match st with
    | .Assign [.Name n p] a _ => N[i]? == some n && stoB true sc n && ((plainV a && rE sc a e) || mLc D N sc rE rB n p a e)
    | _ => false)
  | .tset is e => (match st with
    | .Assign [.Tuple ts _ _] a _ => mTgs N sc true ts is && swNone ts a && rE sc a e
    | _ => false)
  | .par i j ma mb => (match st with
    | .Assign [.Tuple [.Name n1 px, .Name n2 py] _ _] (.Tuple [a, b] _ _) _ => N[i]? == some n1 && N[j]? == some n2 && i != j && n1 != n2 && locB sc n1 && locB sc n2 && (px.line == py.line) && plainE a && plainE b &&
      !([a, b].all (foldedForSure 8)) && !([a, b].all (constantsAlone 8)) && rE sc a ma && rE sc b mb
    | _ => false)
  | .aug i o e => (match st with
    | .AugAssign (.Name n _) op a _ => N[i]? == some n && stoB true sc n && decide (op = opr o) && (o == .add || o == .sub) && rE sc a e
    | _ => false)
  | .setix mo mi ma => (match st with
    | .Assign [.Subscript o i _] a _ => plainE i && rE sc o mo && rE sc i mi && rE sc a ma
    | _ => false)
  | .setfld mo f ma => (match st with
    | .Assign [.Attribute o n _] a _ => n == D.nm f && rE sc o mo && rE sc a ma
    | _ => false)
  | .ex e => (match st with
    | .Expr a _ => plainV a && rE sc a e
    | _ => false)
  | .pass => (match st with
    | .Pass _ => true
    | .Expr (.Constant (.str _) _ _) _ => true
    | _ => false)
  | .ite c xa xb => (match st with
    | .If e sa sb _ => rB sc e c && mLs rS sa xa && mLs rS sb xb
    | _ => false)
  | .loop t mi xb => (match st with
    | .For tg iter body [] _ => notSet iter && mTg N sc true tg t && mI D rE sc iter mi && mLs rS body xb
    | _ => false)
  | .wh _ c xb => (match st with
    | .While e body [] _ => rB sc e c && mLs rS body xb
    | _ => false)
  | .brk => (match st with
    | .Break _ => true
    | _ => false)
  | .cont => (match st with
    | .Continue _ => true
    | _ => false)
  | .retN => (match st with
    | .Return none _ => true
    | _ => false)
  | .ret e => (match st with
    | .Return (some a) _ => rE sc a e
    | _ => false)
  | .raise c ms => (match st with
    | .Raise (some (.Call (.Name n _) (e :: es) [] _)) none _ => glB sc n && okN n && isXc D n c && (e :: es).all plainE && mL rE sc (e :: es) ms && (match D.T.cls[c]? with
      | some ci => ci.init.isSome && ms.length == ci.flds.length
      | none => false)
    | _ => false)
  | .tryx xb c nn i h => (match st with
    | .Try body [.ExceptHandler (some (.Name nc _)) (some n) [.Assign [.Name ny _] he _] _] [] [] _ => glB sc nc && okN nc && isXc D nc c && N[nn]? == some n && locB sc n && okN n && N[i]? == some ny && stoB true sc ny && i != nn && plainV he &&
      (mHR D sc n 12).1 he h && mLs rS body xb
    | _ => false)
  | .frz _ => false
def mSt : Nat → Stmt → S → Bool
  | 0 => fun _ _ => false
  | k + 1 => stepS D N sc rE rB (mSt k)
end

section
variable {D : Dat} {C : Calls} {L : Nat} {N : List Str} {X : Cx} {W : WX} {sc : Scope} {n0 : Nat}
theorem isXc_of {X : Cx} (fa : Fa X.K X.mg D) {n : Str} {c : Nat} (h : isXc D n c = true) : X.mg n = some (.ref (D.ca c)) ∧ ∃ ci, D.T.cls[c]? = some ci ∧ ci.isx = true := by
  unfold isXc at h
  rw [Bool.and_eq_true] at h
  obtain ⟨h1, h2⟩ := h
  refine ⟨?_, ?_⟩
  · split at h1
    · rename_i k hk
      have := beq_iff_eq.mp h1
      subst this
      exact fa.gs _ _ hk
    · cases h1
  · split at h2
    · rename_i ci hci
      exact ⟨ci, hci, h2⟩
    · cases h2

def HdE (X : Cx) (D : Dat) (nn : Nat) (e : Expr) (m : HE) : Prop := ∀ (a : Addr) (oe : Obj) (cls : Value) (d : Option Addr) (pn : List (Addr × Obj)), Zc cls d oe → (∃ vs, oe.data = .fields vs) → PE (X.suite a ((a, oe) :: pn)) e (tH X D nn a cls d m)
def HdB (X : Cx) (D : Dat) (nn : Nat) (e : Expr) (m : HE) : Prop := ∀ (a : Addr) (oe : Obj) (cls : Value) (d : Option Addr) (pn : List (Addr × Obj)), Zc cls d oe → (∃ vs, oe.data = .fields vs) → PT (X.suite a ((a, oe) :: pn)) e (tHb X D nn a cls d m)
theorem mHs_ok {nn : Nat} {rE : Expr → HE → Bool} (h : ∀ e m, rE e m = true → HdE X D nn e m) {a : Addr} {oe : Obj} {cls : Value} {d : Option Addr} {pn : List (Addr × Obj)} (hz : Zc cls d oe) (hf : ∃ vs, oe.data = .fields vs) :
    ∀ {es : List Expr} {ms : List HE}, mHs rE es ms = true → PA (X.suite a ((a, oe) :: pn)) es (tHs X D nn a cls d ms)
  | [], [], _ => ph_nil
  | e :: es, m :: ms, q => by
    unfold mHs at q
    simp only [Bool.and_eq_true] at q
    exact ph_cons (h _ _ q.1.2 a oe cls d pn hz hf) (mHs_ok h hz hf q.2) q.1.1
  | [], _ :: _, q => by cases q
  | _ :: _, [], q => by cases q
theorem mHR_ok (fa : Fa X.K X.mg D) (er : ∀ c ci, D.T.cls[c]? = some ci → ci.isx = true → ErrF X.prog X.K X.mg D c ci) (hs : X.env.scope = sc) {n : Str} {nn : Nat} (hN : X.N[nn]? = some n) (hv : Vis X.env.scope n) (hd : okN n = true) :
    ∀ k, (∀ e m, (mHR D sc n k).1 e m = true → HdE X D nn e m) ∧ (∀ e m, (mHR D sc n k).2 e m = true → HdB X D nn e m)
  | 0 => ⟨fun _ _ h => (Bool.noConfusion (show false = true from h)), fun _ _ h => (Bool.noConfusion (show false = true from h))⟩
  | k + 1 => by
    obtain ⟨ih1, ih2⟩ := mHR_ok fa er hs hN hv hd k
    refine ⟨fun e m h => ?_, fun e m h => ?_⟩
    · replace h : stepH D n (mHR D sc n k).1 (mHR D sc n k).2 e m = true := h
      intro a oe cls d pn hz hf
      unfold stepH at h
      split at h
      · split at h
        · simp only [Bool.and_eq_true, beq_iff_eq] at h
          obtain ⟨rfl, h2⟩ := h
          exact ph_fld er hz hf hN hv hd h2
        · cases h
      · split at h
        · exact ph_non
        · cases h
      · split at h
        · simp only [Bool.and_eq_true, decide_eq_true_eq] at h
          exact ph_tup (mHs_ok ih1 hz hf h.1) h.2
        · cases h
      · split at h
        · simp only [Bool.and_eq_true] at h
          exact ph_ite (ih2 _ _ h.1.1 a oe cls d pn hz hf) (ih1 _ _ h.1.2 a oe cls d pn hz hf) (ih1 _ _ h.2 a oe cls d pn hz hf)
        · cases h
      · cases h
    · replace h : stepHB D sc n (mHR D sc n k).2 e m = true := h
      intro a oe cls d pn hz hf
      unfold stepHB at h
      split at h
      · split at h
        · exact pb_not (ih2 _ _ h a oe cls d pn hz hf)
        · cases h
      · split at h
        · simp only [Bool.and_eq_true] at h
          exact pb_and (ih2 _ _ h.1 a oe cls d pn hz hf) (ih2 _ _ h.2 a oe cls d pn hz hf)
        · cases h
      · split at h
        · simp only [Bool.and_eq_true, beq_iff_eq] at h
          obtain ⟨⟨⟨⟨⟨⟨rfl, rfl⟩, h1⟩, h2⟩, h3⟩, h4⟩, h5⟩ := h
          obtain ⟨q1, q2⟩ := isXc_of fa h5
          exact pb_isx er hz hf hN hv hd (gl_of hs h1) (fa.nb _ (by simpa using h2)) (gl_of hs h3) q1 (okN_of h4).1 q2
        · cases h
      · cases h
end
end Vm
set_option Elab.async false
set_option linter.all false
set_option maxRecDepth 100000
set_option maxHeartbeats 4000000
/-! The checker of statements is right. -/
namespace Vm
open PySem PySem.Spec PyProof.Rows L2
open PySem.W (Looks)
/-- what a body leans on, whatever takes its errors -/
def SndS (D : Dat) (C : Calls) (L : Nat) (N : List Str) (sc : Scope) (rS : Stmt → S → Bool) : Prop := ∀ (X : Cx) (W : WX) (n0 : Nat) (st : Stmt) (m : S), WkD X D C L W → X.N = N → X.env.scope = sc → rS st m = true → PSv X D C W n0 st m
section
variable {D : Dat} {C : Calls} {L : Nat} {N : List Str} {X : Cx} {W : WX} {sc : Scope} {n0 : Nat} {rS : Stmt → S → Bool} {rE : Scope → Expr → E → Bool} {rB : Scope → Expr → B → Bool}
theorem mLs_ok (sS : SndS D C L N sc rS) (w : WkD X D C L W) (hN : X.N = N) (hs : X.env.scope = sc) : ∀ {ss : List S} {sts : List Stmt}, mLs rS sts ss = true → PSsv X D C W n0 sts ss
  | [], [], _ => ss_nil
  | [], _ :: _, h => by simp [mLs] at h
  | a :: ss, sts, h => by
    unfold mLs at h
    split at h
    · rename_i i ss' heq
      cases heq
      exact ss_frz (mLs_ok sS w hN hs h)
    · cases ‹_ :: _ = []›
    · rename_i heq
      cases heq
      rw [Bool.and_eq_true] at h
      exact ss_cons (sS X W n0 _ _ w hN hs h.1) (mLs_ok sS w hN hs h.2)
    · cases h
theorem stepS_ok (Nd : N.Nodup) (sE : SndE D C L N rE) (sB : SndB D C L N rB) (sS : SndS D C L N sc rS) : SndS D C L N sc (stepS D N sc rE rB rS) := by
  intro X W n0 st m w hN hs h
  have w1 := w.x.s.w
  unfold stepS at h
  split at h
  · -- set
    split at h
    · rename_i i e n p a pos
      simp only [Bool.and_eq_true, Bool.or_eq_true, beq_iff_eq] at h
      obtain ⟨⟨h1, h2⟩, h3⟩ := h
      rcases h3 with h3 | h3
      · exact sv_set w.x.s (by rw [hN]; exact h1) (sto_of hs (fun _ => w.x.s.fn) h2) (sE X W sc _ _ w1 hN hs h3.2) (sw_plain h3.1)
      · unfold mLc at h3
        split at h3
        · simp only [Bool.and_eq_true, Bool.not_eq_true'] at h3
          obtain ⟨⟨⟨⟨k1, k2⟩, k4⟩, k3⟩, h⟩ := h3
          split at h
          · rename_i own ho
            simp only [Bool.and_eq_true, decide_eq_true_eq] at h
            obtain ⟨⟨⟨⟨⟨⟨h1', h2'⟩, h3⟩, h4⟩, h5⟩, h6⟩, h7⟩ := h
            have hk : X.env.scope.kind = .function := by
              rw [hs]
              unfold fnK at k4
              split at k4
              · assumption
              · cases k4
            subst hN; subst hs
            refine sv_setLc w.x.s h1 (loc_of rfl k2) k1 k3 hk (mI_ok sE w1 rfl rfl h4) (blkOk_by h1') (fun i => by rw [h2']) (fun s H C0 cl fp => ?_) (notSet_ok h3)
            rename_i scope _ _ _ _ _ _ _
            have wb := w1.blk s H scope (compEnvC scope cl C0 X.env) fp
            exact ⟨mTg_ok (X := X.blk s H scope (compEnvC scope cl C0 X.env) fp) rfl rfl (fun z => by cases z) h5, mIfs_ok sB wb rfl rfl h6, sE _ _ _ _ _ wb rfl rfl h7⟩
          · cases h
        · cases h3
    · cases h
  · -- tset
    split at h
    · simp only [Bool.and_eq_true] at h
      obtain ⟨⟨h1, h2⟩, h3⟩ := h
      exact sv_tset w.x.s (.many (mTgs_ok hN hs (fun _ => w.x.s.fn) h1)) (sE X W sc _ _ w1 hN hs h3) sw_tup (st_none h2)
    · cases h
  · -- par
    split at h
    · simp only [Bool.and_eq_true, Bool.not_eq_true', beq_iff_eq] at h
      obtain ⟨⟨⟨⟨⟨⟨⟨⟨⟨⟨⟨⟨h1, h2⟩, h3⟩, h4⟩, h5⟩, h6⟩, h7⟩, h8⟩, h9⟩, h10⟩, h11⟩, h12⟩, h13⟩ := h
      subst hN
      exact sv_par w.x.s h1 h2 (by simpa using h3) (loc_of hs h5) (loc_of hs h6) (pl_cons (sE X W sc _ _ w1 rfl hs h12) (pl_cons (sE X W sc _ _ w1 rfl hs h13) pl_nil (star1 h9)) (star1 h8))
        (st_two w.x.s.bk (loc_of hs h5) (loc_of hs h6) (by rw [beq_iff_eq]; exact h7) h4 h8 h9 h10 h11)
    · cases h
  · -- aug
    split at h
    · simp only [Bool.and_eq_true, Bool.or_eq_true, beq_iff_eq, decide_eq_true_eq] at h
      obtain ⟨⟨⟨⟨h1, h2⟩, rfl⟩, h4⟩, h5⟩ := h
      exact sv_aug w.x.s (by rw [hN]; exact h1) (sto_of hs (fun _ => w.x.s.fn) h2) (sE X W sc _ _ w1 hN hs h5) h4
    · cases h
  · -- setix
    split at h
    · simp only [Bool.and_eq_true] at h
      obtain ⟨⟨⟨h1, h2⟩, h3⟩, h4⟩ := h
      exact sv_setix w.x.s (sE X W sc _ _ w1 hN hs h4) (sE X W sc _ _ w1 hN hs h2) (sE X W sc _ _ w1 hN hs h3) h1 sw_sub st_sub
    · cases h
  · -- setfld
    split at h
    · simp only [Bool.and_eq_true, beq_iff_eq] at h
      obtain ⟨⟨h1, h2⟩, h3⟩ := h
      exact sv_setfld w.x.s h1 (sE X W sc _ _ w1 hN hs h3) (sE X W sc _ _ w1 hN hs h2) sw_att
    · cases h
  · -- ex
    split at h
    · simp only [Bool.and_eq_true] at h
      exact sv_ex (sE X W sc _ _ w1 hN hs h.2) (sw_plain h.1)
    · cases h
  · -- pass
    split at h
    · exact sv_pass
    · exact sv_doc
    · cases h
  · -- ite
    split at h
    · simp only [Bool.and_eq_true] at h
      exact sv_ite (sB X W sc _ _ w1 hN hs h.1.1) (mLs_ok sS w hN hs h.1.2) (mLs_ok sS w hN hs h.2)
    · cases h
  · -- loop
    split at h
    · simp only [Bool.and_eq_true] at h
      obtain ⟨⟨⟨h1, h2⟩, h3⟩, h4⟩ := h
      exact sv_loop w.x.s (mTg_ok hN hs (fun _ => w.x.s.fn) h2) (mI_ok sE w1 hN hs h3) (mLs_ok sS w hN hs h4) (notSet_ok h1)
    · cases h
  · -- wh
    split at h
    · simp only [Bool.and_eq_true] at h
      exact sv_wh w.x.s (sB X W sc _ _ w1 hN hs h.1) (mLs_ok sS w hN hs h.2)
    · cases h
  · split at h
    · exact sv_brk
    · cases h
  · split at h
    · exact sv_ct
    · cases h
  · split at h
    · exact sv_retN
    · cases h
  · split at h
    · exact sv_ret (sE X W sc _ _ w1 hN hs h)
    · cases h
  · -- raise
    split at h
    · simp only [Bool.and_eq_true] at h
      obtain ⟨⟨⟨⟨⟨h1, h2⟩, h3⟩, h4⟩, h5⟩, h6⟩ := h
      split at h6
      · rename_i ci hci
        obtain ⟨q1, ci', q2, q3⟩ := isXc_of w1.fa h3
        rw [hci] at q2
        cases q2
        simp only [Bool.and_eq_true, beq_iff_eq] at h6
        exact sv_raise w.x hci q3 h6.1 (gl_of hs h1) q1 (okN_of h2).1 (mL_ok sE w1 hN hs h4 h5) h4 h6.2
      · cases h6
    · cases h
  · -- tryx
    split at h
    · simp only [Bool.and_eq_true, beq_iff_eq] at h
      obtain ⟨⟨⟨⟨⟨⟨⟨⟨⟨⟨⟨h1, h2⟩, h3⟩, h4⟩, h5⟩, h6⟩, h7⟩, h8⟩, h9⟩, h10⟩, h11⟩, h12⟩ := h
      obtain ⟨q1, ci, q2, q3⟩ := isXc_of w1.fa h3
      have hl := loc_of hs h5
      exact sv_try w q2 q3 (gl_of hs h1) q1 (okN_of h2).1 (by rw [hN]; exact h4) hl (by rw [hN]; exact h7) (sto_of hs (fun _ => w.x.s.fn) h8) (by simpa using h9)
        (fun W' pn xe tk po => mLs_ok (X := X.tr pn xe) sS (w.tr tk po) hN hs h12) (fun a oe cls d pn hz hf => (mHR_ok w1.fa w.x.er hs (by rw [hN]; exact h4) (.inl hl) h6 12).1 _ _ h11 a oe cls d pn hz hf) (sw_plain h10)
    · cases h
  · cases h
end
theorem mSt_ok {D : Dat} {C : Calls} {L : Nat} {N : List Str} {sc : Scope} (Nd : N.Nodup) (q : Nat) : ∀ k, SndS D C L N sc (mSt D N sc (mR D N q).1 (mR D N q).2 k)
  | 0 => fun _ _ _ _ _ _ _ _ h => (Bool.noConfusion (show false = true from h))
  | k + 1 => stepS_ok Nd (mR_ok Nd q).1 (mR_ok Nd q).2 (mSt_ok Nd q k)
end Vm
set_option Elab.async false
set_option linter.all false
set_option maxRecDepth 100000
set_option maxHeartbeats 2000000
/-! The law's end. -/
namespace Vm
open PySem PySem.Spec PyProof.Rows L2 Att

/-- the script alone is known: one list that nothing may change, or nothing at all -/
structure Scr (K : PySem.W.Frag) (H : Hp) (a : Addr) (o : Obj) (us : List V) : Prop where
  at_ : H a = none ∨ H a = some (.frz o (.lst us))
  no : ∀ b, b ≠ a → H b = none
  rd : LstN K [] H a us
  out : H a ≠ none → K.lookup a = none

theorem scr_make {K : PySem.W.Frag} {h : Heap} {a : Addr} {vs : List Value} {us : List V} (KX : K.In h) (ha : h.get? a = some { cls := .type "list", data := .seq vs.toArray }) (r : Vals us vs) (hl : us.length ≤ sizeLine) :
    ∃ H : Hp, Scr K H a { cls := .type "list", data := .seq vs.toArray } us := by
  have hl2 : vs.length ≤ sizeLine := by rw [← r.length]; exact hl
  rcases hk : K.lookup a with _ | o
  · refine ⟨fun b => if b = a then some (.frz { cls := .type "list", data := .seq vs.toArray } (.lst us)) else none, .inr (if_pos rfl), fun b hb => if_neg hb, .inl ⟨.inr ⟨_, if_pos rfl⟩, List.not_mem_nil⟩, fun _ => hk⟩
  · have e := KX a o hk
    rw [ha] at e
    cases e
    refine ⟨fun _ => none, .inl rfl, fun _ _ => rfl, .inr ⟨_, _, _, hk, rfl, rfl, rfl, ?_, ?_⟩, fun z => absurd rfl z⟩
    · rw [List.size_toArray]; exact hl2
    · rw [List.toList_toArray]; exact r

section
variable {P : Program} {w : World} {K : PySem.W.Frag} {mg mb : Str → Option Value} {k : Nat} {fa a : Addr} {fd : FuncData} {x : Str} {sp : Sp} {s : Shared} {vs : List Value} {us : List V} {H : Hp}
theorem scr_hok (S : Scr K H a { cls := .type "list", data := .seq vs.toArray } us) (ha : s.heap.get? a = some { cls := .type "list", data := .seq vs.toArray }) (r : Vals us vs) (hl : us.length ≤ sizeLine) : HOk P w H s.heap := by
  intro b o hb
  by_cases e : b = a
  · subst e
    rcases S.at_ with z | z
    · rw [z] at hb; cases hb
    · rw [z] at hb
      cases hb
      exact ⟨ha, hl, vs, _, r, ha⟩
  · rw [S.no b e] at hb; cases hb
theorem scr_env (S : Scr K H a { cls := .type "list", data := .seq vs.toArray } us) (KX : K.In s.heap) (hns : s.heap.Ns mainGlobals mg) (hb : s.heap.Ns builtinsNs mb) (hbb : ∀ x : Str, x ≠ "__name__" → mb x = bootBuiltins x) (hlim : s.heap.NoLimit) (hg : s.gens = #[])
    (ha : s.heap.get? a = some { cls := .type "list", data := .seq vs.toArray }) (hok : HOk P w H s.heap) : Env0 P w K mg (hidT s.heap H) callerA [] s H := by
  have dict : ∀ {b : Addr} {m : Str → Option Value}, s.heap.Ns b m → (hidT s.heap H).Ns b m := by
    rintro b m ⟨o, es, ep, e, d, q⟩
    refine ⟨o, es, ep, hidT_get e (S.no b fun z => ?_), d, q⟩
    rw [z, ha] at e
    cases e
    cases d
  have kin : K.In (hidT s.heap H) := fun b o e => hidT_get (KX b o e) <| by
    by_cases z : b = a
    · subst z
      rcases S.at_ with q | q
      · exact q
      · have := S.out (by rw [q]; exact fun z => nomatch z)
        rw [e] at this
        cases this
    · exact S.no b z
  obtain ⟨mc, h1, h2⟩ := hlim
  exact { frames := rfl, mod := ⟨kin, dict hns, ⟨mb, dict hb, hbb⟩, ⟨mc, dict h1, h2⟩⟩, bs := fun b o e => of_hidT e, bsz := Nat.le_of_eq (hidT_size _ _), funs := trivial, frf := fun b hb => (List.not_mem_nil hb).elim, hok := hok, bare := .of_eq hg }
/-- the law is called: it hands back True -/
theorem law_run (S : Scr K H a { cls := .type "list", data := .seq vs.toArray } us) (KX : K.In s.heap) (hns : s.heap.Ns mainGlobals mg) (hb : s.heap.Ns builtinsNs mb) (hbb : ∀ x : Str, x ≠ "__name__" → mb x = bootBuiltins x) (hlim : s.heap.NoLimit) (hg : s.gens = #[])
    (ha : s.heap.get? a = some { cls := .type "list", data := .seq vs.toArray }) (r : Vals us vs) (hl : us.length ≤ sizeLine) (hr : Room k callerA)
    (F : FnG P w K mg (hidT s.heap H) k fa fd [x] sp) (bd : BindsTo s fd ⟨[.ref a], []⟩ [(x, .ref a)]) (hsp : sp [.ref a] H (fun v _ => v = .bl true) fun _ _ _ => False) :
    codeAny (model P w) callerA (.call (.ref fa) ⟨[.ref a], []⟩) (fun r s' => r = .ok (.ret (.bool true)) ∧ OldK s.heap s'.heap ∧ s'.os = s.os ∧ AllBare s'.gens) s := by
  have hok : HOk P w H s.heap := scr_hok S ha r hl
  have e0 := scr_env S KX hns hb hbb hlim hg ha hok
  refine codeAny_mono (F.run callerA [] s H ⟨[.ref a], []⟩ [.ref a] [.ref a] _ _ hr rfl e0 bd (.cons rfl .nil) hsp) fun res s' h => ?_
  rcases res with e | f
  · obtain ⟨_, _, _, _, _, _, _, _, _, _, _, _, z⟩ := h
    exact z.elim
  · cases f with
    | next => exact h.elim
    | brk => exact h.elim
    | cont => exact h.elim
    | ret u =>
      obtain ⟨v, H', os, bare, un, hok', rv, q⟩ := h
      have q : v = .bl true := q
      subst q
      have rv : u = Value.bool true := rv
      subst rv
      refine ⟨rfl, OldK.of_keep fun b o e => ?_, os, bare⟩
      have none_ : H b = none → s'.heap.get? b = some o := fun z => un.keep b o e z (fun q => (List.not_mem_nil q).elim) List.not_mem_nil
      by_cases z : b = a
      · subst z
        rcases S.at_ with q | q
        · exact none_ q
        · have := hok' b _ (un.frzs b _ _ q)
          rw [ha] at e
          cases e
          exact this.1
      · exact none_ (S.no b z)
end

theorem reps_script {G : GD} {ι : List Addr} {H : Hp} : ∀ ns : List Int, Reps G ι H (ns.map PV.int) (ns.map V.int)
  | [] => .nil
  | n :: r => .cons (.int n) (reps_script r)

/-- a law's row: its IR hands back True for every script -/
theorem walk_vm {l : PySem.W.OpenLaw} {n : Nat} {q : Program} {loose : List Str} {XP : (Str → Option Value) → Heap → Prop} {YP : World → Heap → Prop} {d : DefRec} {K : Params → PySem.W.Frag} {x : Str}
    (hn : l.most = some n) (hn2 : n ≤ sizeLine) (hdf : d.params.defaults = []) {m : Nat} (hr : Room (4 * m) callerA)
    (hY : ∀ (w : World) (h : Heap), YP w h → (K w.params).In h) (D : PySem.W.Frag → Dat) (dd : Nat)
    (F : ∀ (w : World) (mg : Str → Option Value) (fa : Addr) (h : Heap), (K w.params).In h → h.Ns mainGlobals mg → mg d.name = some (.ref fa) →
      (∀ base : Heap, (K w.params).In base → base.Ns mainGlobals mg → Txt l.prog w (K w.params) mg base (D (K w.params))) ∧
      (D (K w.params)).fa dd = fa ∧ (D (K w.params)).ps dd = [x] ∧ (∃ di, (D (K w.params)).T.defs[dd]? = some di ∧ di.npar = 1) ∧
      ∀ ns : List Int, ns.length ≤ n → (∀ z ∈ ns, Builtin.Int.intBits z ≤ 1048576) → ∃ s', callN (D (K w.params)).T m dd [.v (.clst (ns.map PV.int))] [] = .ok (.v (.bl true)) s') :
    PySem.W.WalkO q loose XP YP l.row.toRowW d [] (fun f vs => PySem.call f vs) := by
  refine attach_callB hn hdf fun w s₀ s₁ mg mb fa o pm cd doc a vs ns G Y ho hd hcd hmg hobj hints hlen hbits hg => ?_
  have KX := hY w _ Y
  obtain ⟨hT, rfl, hps, ⟨di, hdi, hnp⟩, run⟩ := F w mg fa _ KX G.T.g hmg
  have rv : Vals (ns.map V.int) vs := vals_ints hints
  have hl : (ns.map V.int).length ≤ sizeLine := by rw [List.length_map]; exact Nat.le_trans hlen hn2
  obtain ⟨H, S⟩ := scr_make KX hobj rv hl
  have hok : HOk l.prog w H s₁.heap := scr_hok S hobj rv hl
  have e0 := scr_env S KX G.T.g G.T.b G.T.builtins G.T.nolimit hg hobj hok
  have T := hT _ e0.mod.kin e0.mod.glob
  have FG := fns_ok T m dd di hdi
  rw [hps] at FG
  obtain ⟨ds, hv, hb⟩ := T.fa.binds dd di hdi di.npar (Nat.le_refl _) (Nat.le_add_right _ _)
  rw [Nat.add_sub_cancel_left, List.drop_length] at hv
  cases hv
  have bd := hb s₁ [.ref a] KX (by rw [hps]; rfl)
  rw [hps] at bd
  refine law_run S KX G.T.g G.T.b G.T.builtins G.T.nolimit hg hobj rv hl hr FG bd ?_
  obtain ⟨s', hs⟩ := run ns hlen hbits
  refine ⟨[], [], [.v (.clst (ns.map PV.int))], ⟨rfl, List.nodup_nil, fun _ _ z => by simp at z⟩, .cons (.clst S.rd (reps_script ns)) .nil, hnp.symm, ?_⟩
  rw [hs]
  intro ι' H' e' S' u ru
  have ru' : Rep _ ι' H' (.bl true) u := ru
  cases ru'
  rfl
end Vm
set_option Elab.async false
set_option linter.all false
set_option maxRecDepth 100000
set_option maxHeartbeats 2000000
/-! Arguments are bound. -/
namespace Vm
open PySem PySem.Spec PyProof.Rows L2 Att

/-- the shape of a def's parameters -/
structure ParF (fd : FuncData) (ps : List Str) : Prop where
  po : fd.params.posonlyargs = []
  ar : fd.params.args.map (·.arg) = ps
  va : fd.params.vararg = none
  ko : fd.params.kwonlyargs = []
  ka : fd.params.kwarg = none

theorem look_app {α : Type} (l r : List (Str × α)) (n : Str) : (l ++ r).lookup n = (l.lookup n).or (r.lookup n) := by
  induction l with
  | nil => rfl
  | cons p l ih =>
    obtain ⟨a, b⟩ := p
    rw [List.cons_append, List.lookup_cons, List.lookup_cons]
    cases n == a with
    | true => rfl
    | false => exact ih
theorem look_none {α : Type} {l : List (Str × α)} {n : Str} (h : n ∉ l.map (·.1)) : l.lookup n = none := by
  induction l with
  | nil => rfl
  | cons p l ih =>
    obtain ⟨a, b⟩ := p
    rw [List.map_cons, List.mem_cons, not_or] at h
    rw [List.lookup_cons, beq_eq_false_iff_ne.mpr h.1]
    exact ih h.2
theorem look_zip {α : Type} : ∀ {ps : List Str} {us : List α} {i : Nat} {n : Str} {u : α}, ps.Nodup → ps[i]? = some n → us[i]? = some u → (ps.zip us).lookup n = some u
  | [], _, _, _, _, _, h, _ => by simp at h
  | _ :: _, [], _, _, _, _, _, h => by simp at h
  | p :: ps, a :: us, 0, n, u, _, h, k => by
    simp at h k
    subst h; subst k
    rw [List.zip_cons_cons, List.lookup_cons, beq_self_eq_true]
  | p :: ps, a :: us, i + 1, n, u, nd, h, k => by
    have nd' := List.nodup_cons.mp nd
    have hn : n ∈ ps := List.mem_of_getElem? (by simpa using h)
    have hne : n ≠ p := fun e => nd'.1 (e ▸ hn)
    rw [List.zip_cons_cons, List.lookup_cons, beq_eq_false_iff_ne.mpr hne]
    exact look_zip nd'.2 (by simpa using h) (by simpa using k)
/-- the defaults for what is missing -/
def addD (sl : List (Str × Value)) : List (Str × Value) → List (Str × Value)
  | [] => sl
  | (n, d) :: r => addD (if (sl.lookup n).isNone then sl ++ [(n, d)] else sl) r
theorem look_addD {n : Str} : ∀ {l sl : List (Str × Value)}, (addD sl l).lookup n = (sl.lookup n).or (l.lookup n)
  | [], sl => by rw [addD]; exact Option.or_none.symm
  | (m, d) :: r, sl => by
    rw [addD, look_addD, List.lookup_cons]
    by_cases h : (sl.lookup m).isNone = true
    · rw [if_pos h, look_app]
      by_cases e : n = m
      · subst e
        rw [beq_self_eq_true, Option.isNone_iff_eq_none.mp h]
        simp [List.lookup]
      · rw [beq_eq_false_iff_ne.mpr e, List.lookup_cons, beq_eq_false_iff_ne.mpr e, List.lookup_nil, Option.or_none]
    · rw [if_neg h]
      by_cases e : n = m
      · subst e
        rw [beq_self_eq_true]
        cases q : sl.lookup n with
        | none => rw [q] at h; exact absurd rfl h
        | some x => rfl
      · rw [beq_eq_false_iff_ne.mpr e]
theorem zip_of : ∀ {ps : List Str} {zs : List Value} {f : Str → Option Value}, ps.length = zs.length → (∀ (i : Nat) (n : Str) (z : Value), ps[i]? = some n → zs[i]? = some z → f n = some z) → (ps.filterMap fun n => (f n).map (n, ·)) = ps.zip zs
  | [], [], _, _, _ => rfl
  | p :: ps, z :: zs, f, hl, h => by
    rw [List.filterMap_cons, h 0 p z rfl rfl, Option.map_some, List.zip_cons_cons]
    dsimp only
    rw [zip_of (by simpa using hl) fun i n z a b => h (i + 1) n z (by simpa using a) (by simpa using b)]
  | [], _ :: _, _, h, _ => by simp at h
  | _ :: _, [], _, h, _ => by simp at h

section
variable {fd : FuncData} {ps : List Str} {M : Model} {A : Around} {E : Value → Shared → Prop} {s : Shared} {Q : List (Str × Value) → Shared → Prop}
/-- what a def binds: positional values, keywords, defaults -/
theorem bind_args (h : ParF fd ps) {us zs ds : List Value} {kw : List (Str × Value)} (hd : ∀ Q' : Option (Array Value) → Shared → Prop, (∀ o : Option (Array Value), (o.getD #[]).toList = ds → Q' o s) → wpAny M A (seqItems? fd.defaults) Q' E s) (hdl : ds.length ≤ ps.length)
    (hul : us.length ≤ ps.length) (hk : ∀ k ∈ kw.map (·.1), k ∈ ps) (hkn : (kw.map (·.1)).Nodup) (hku : ∀ k ∈ kw.map (·.1), (ps.zip us).lookup k = none)
    (hm : ∀ n ∈ ps.take (ps.length - ds.length), ((ps.zip us ++ kw).lookup n).isSome = true) (hz : ps.length = zs.length)
    (hr : ∀ (i : Nat) (n : Str) (z : Value), ps[i]? = some n → zs[i]? = some z → ((ps.zip us ++ kw).lookup n).or (((ps.drop (ps.length - ds.length)).zip ds).lookup n) = some z)
    (hq : Q (ps.zip zs) s) : wpAny M A (bindArgs fd ⟨us, kw⟩) Q E s := by
  unfold bindArgs
  simp only [h.po, h.ar, h.va, h.ko, h.ka, List.map_nil, List.nil_append, List.append_nil]
  refine wpAny_bind (wpAny_forIn_list _ (fun (rest : List (Str × Value)) (st : List (Str × Value) × List (Str × Value)) s' => s' = s ∧ st.2 = [] ∧ ∃ done, kw = done ++ rest ∧ st.1 = ps.zip us ++ done) _ ?_ ?_ _ _ ⟨rfl, rfl, [], rfl, (List.append_nil _).symm⟩)
  · rintro ⟨k, v⟩ rest ⟨sl, ex⟩ s' ⟨rfl, he, done, hkw, hsl⟩
    dsimp only at he hsl ⊢
    subst he; subst hsl
    have hmem : k ∈ kw.map (·.1) := by rw [hkw]; simp
    have hps : ps.contains k = true := by simpa using hk k hmem
    have hdone : k ∉ done.map (·.1) := by
      rw [hkw, List.map_append, List.map_cons] at hkn
      exact fun z => (List.nodup_append.mp hkn).2.2 k z k List.mem_cons_self rfl
    have hno : (List.lookup k (ps.zip us ++ done)).isSome = false := by
      rw [look_app, hku k hmem, look_none hdone]
      rfl
    rw [hps, Bool.true_or, if_pos rfl, hno, if_neg (by decide)]
    refine wpAny_pure ⟨rfl, rfl, done ++ [(k, v)], ?_, ?_⟩
    · rw [hkw]; simp
    · rw [List.append_assoc]
  · rintro ⟨sl, ex⟩ s' ⟨rfl, he, done, hkw, hsl⟩
    dsimp only at he hsl ⊢
    rw [List.append_nil] at hkw
    subst hkw; subst he; subst hsl
    refine wpAny_bind (hd _ fun o ho => ?_)
    rw [ho]
    have hdd : ds.drop (ds.length - ps.length) = ds := by rw [Nat.sub_eq_zero_of_le hdl, List.drop_zero]
    have hmiss : (ps.take (ps.length - ds.length)).filter (fun n => (List.lookup n (ps.zip us ++ kw)).isNone) = [] := by
      rw [List.filter_eq_nil_iff]
      intro n hn
      have := hm n hn
      cases q : List.lookup n (ps.zip us ++ kw) with
      | none => rw [q] at this; cases this
      | some x => exact fun z => nomatch z
    rw [hdd, hmiss]
    rw [if_neg (by simp; omega), if_neg (by decide)]
    refine wpAny_bind (wpAny_forIn_list _ (fun (rest : List (Str × Value)) (st : List (Str × Value)) s2 => s2 = s' ∧ addD st rest = addD (ps.zip us ++ kw) ((ps.drop (ps.length - ds.length)).zip ds)) _ ?_ ?_ _ _ ⟨rfl, rfl⟩)
    · rintro ⟨k, v⟩ rest st s2 ⟨rfl, he⟩
      rw [addD] at he
      dsimp only
      split
      · rename_i hn
        rw [if_pos hn] at he
        exact wpAny_pure ⟨rfl, he⟩
      · rename_i hn
        rw [if_neg hn] at he
        exact wpAny_pure ⟨rfl, he⟩
    · rintro st s2 ⟨rfl, he⟩
      rw [addD] at he
      rw [List.forIn_nil, pure_bind]
      rw [if_neg (fun z => nomatch z)]
      refine wpAny_pure ?_
      rw [zip_of hz fun i n z a b => ?_]
      · exact hq
      · dsimp only
        rw [he, look_addD]
        exact hr i n z a b
end
end Vm
set_option Elab.async false
set_option linter.all false
set_option maxRecDepth 100000
set_option maxHeartbeats 2000000
/-! Arguments are bound: what a def's facts want. -/
namespace Vm
open PySem PySem.Spec PyProof.Rows L2 Att

/-- a def's defaults -/
def DflF (K : PySem.W.Frag) (fd : FuncData) (dv : List Value) : Prop :=
  (fd.defaults = .none ∧ dv = []) ∨ ∃ T o items n, fd.defaults = .ref T ∧ K.lookup T = some o ∧ o.data = .seq items n ∧ items.toList = dv
theorem dfl_items {K : PySem.W.Frag} {fd : FuncData} {dv : List Value} {M : Model} {A : Around} {E : Value → Shared → Prop} {s : Shared} (h : DflF K fd dv) (X : K.In s.heap) (Q' : Option (Array Value) → Shared → Prop)
    (k : ∀ o : Option (Array Value), (o.getD #[]).toList = dv → Q' o s) : wpAny M A (seqItems? fd.defaults) Q' E s := by
  rcases h with ⟨h1, rfl⟩ | ⟨T, o, items, n, h1, h2, h3, rfl⟩
  · rw [h1]
    exact wpAny_pure (k none rfl)
  · rw [h1]
    exact wpAny_seqItems (X _ _ h2) h3 (k (some items) rfl)
section
variable {K : PySem.W.Frag} {fd : FuncData} {ps : List Str} {dv : List Value}
theorem getz {α β : Type} {ps : List α} {us : List β} (h : us.length ≤ ps.length) : ∀ {i : Nat}, i < us.length → ∃ n u, ps[i]? = some n ∧ us[i]? = some u := fun {i} hi => ⟨_, _, List.getElem?_eq_getElem (Nat.lt_of_lt_of_le hi h), List.getElem?_eq_getElem hi⟩
theorem zip_no {n : Str} : ∀ {ps : List Str} {us : List Value} {i : Nat}, ps.Nodup → ps[i]? = some n → us.length ≤ i → (ps.zip us).lookup n = none
  | [], _, _, _, h, _ => by simp at h
  | _ :: _, [], _, _, _, _ => rfl
  | p :: ps, u :: us, 0, _, _, hi => by simp at hi
  | p :: ps, u :: us, i + 1, nd, h, hi => by
    have nd' := List.nodup_cons.mp nd
    have h' : ps[i]? = some n := by simpa using h
    have hne : n ≠ p := fun e => nd'.1 (e ▸ List.mem_of_getElem? h')
    rw [List.zip_cons_cons, List.lookup_cons, beq_eq_false_iff_ne.mpr hne]
    exact zip_no nd'.2 h' (by simpa using hi)
theorem binds_of (h : ParF fd ps) (nd : ps.Nodup) (hd : DflF K fd dv) (hl : dv.length ≤ ps.length) (n : Nat) (h1 : n ≤ ps.length) (h2 : ps.length ≤ n + dv.length) : Binds K fd ps (dv.drop (n + dv.length - ps.length)) := by
  intro s us X hlen
  rw [List.length_append, List.length_drop] at hlen
  have hun : us.length = n := by omega
  intro M A E Q hq
  refine bind_args (s := s) (zs := us ++ dv.drop (n + dv.length - ps.length)) h (fun Q' k => dfl_items hd X Q' k) hl (by omega) (fun k z => by cases z) .nil (fun k z => by cases z) (fun m hm => ?_) (by rw [List.length_append, List.length_drop]; omega) (fun i m z a b => ?_) hq
  · rw [List.append_nil]
    obtain ⟨i, hi, rfl⟩ := List.getElem_of_mem hm
    rw [List.length_take] at hi
    obtain ⟨u, hu⟩ : ∃ u, us[i]? = some u := ⟨_, List.getElem?_eq_getElem (by omega)⟩
    rw [look_zip (i := i) (u := u) nd (by rw [List.getElem_take, List.getElem?_eq_getElem]) hu]
    rfl
  · rw [List.append_nil]
    by_cases hi : i < us.length
    · rw [List.getElem?_append_left hi] at b
      rw [look_zip nd a b]
      rfl
    · rw [List.getElem?_append_right (by omega), List.getElem?_drop] at b
      rw [zip_no nd a (by omega), Option.none_or]
      refine look_zip (i := i - (ps.length - dv.length)) (nd.sublist (List.drop_sublist _ _)) ?_ ?_
      · rw [List.getElem?_drop, ← a]
        congr 1
        omega
      · rw [← b]
        congr 1
        omega
end
end Vm
set_option Elab.async false
set_option linter.all false
set_option maxRecDepth 100000
set_option maxHeartbeats 2000000
/-! Keywords are bound. -/
namespace Vm
open PySem PySem.Spec PyProof.Rows L2 Att

theorem putAt_ok {α : Type} {l : List α} : ∀ {perm : List Nat}, (∀ j ∈ perm, j < l.length) → ∃ zs, putAt l perm = some zs ∧ zs.length = perm.length ∧ ∀ (i : Nat) (z : α), zs[i]? = some z → ∃ j, perm[i]? = some j ∧ l[j]? = some z
  | [], _ => ⟨[], rfl, rfl, fun i z h => by simp at h⟩
  | j :: perm, h => by
    obtain ⟨zs, h1, h2, h3⟩ := putAt_ok (perm := perm) fun k hk => h k (List.mem_cons_of_mem _ hk)
    have hj := h j List.mem_cons_self
    refine ⟨l[j] :: zs, ?_, by rw [List.length_cons, List.length_cons, h2], fun i z hz => ?_⟩
    · unfold putAt
      rw [List.getElem?_eq_getElem hj, h1]
    · cases i with
      | zero =>
        rw [List.getElem?_cons_zero] at hz
        cases hz
        exact ⟨j, rfl, List.getElem?_eq_getElem hj⟩
      | succ i =>
        rw [List.getElem?_cons_succ] at hz
        exact h3 i z hz
def kwAt (names ps : List Str) (npos : Nat) : Nat → List Nat → Bool
  | _, [] => true
  | i, j :: r => (if j < npos then j == i else decide (j - npos < names.length) && names[j - npos]? == ps[i]?) && kwAt names ps npos (i + 1) r
theorem kwAt_ok {names ps : List Str} {npos : Nat} : ∀ {perm : List Nat} {k i j : Nat}, kwAt names ps npos k perm = true → perm[i]? = some j → (j < npos → j = k + i) ∧ (¬ j < npos → j - npos < names.length ∧ names[j - npos]? = ps[k + i]?)
  | [], _, _, _, _, h => by simp at h
  | a :: r, k, 0, j, q, h => by
    simp at h
    subst h
    unfold kwAt at q
    rw [Bool.and_eq_true] at q
    refine ⟨fun z => ?_, fun z => ?_⟩
    · rw [if_pos z] at q
      exact beq_iff_eq.mp q.1
    · rw [if_neg z, Bool.and_eq_true] at q
      exact ⟨of_decide_eq_true q.1.1, beq_iff_eq.mp q.1.2⟩
  | a :: r, k, i + 1, j, q, h => by
    unfold kwAt at q
    rw [Bool.and_eq_true] at q
    have := kwAt_ok (k := k + 1) (i := i) (j := j) q.2 (by simpa using h)
    rw [show k + 1 + i = k + (i + 1) by omega] at this
    exact this
def kwB (names ps : List Str) (npos : Nat) (perm : List Nat) : Bool :=
  perm.length == ps.length && decide (npos ≤ ps.length) && kwAt names ps npos 0 perm && decide names.Nodup && names.all fun n => ps.contains n && !(ps.take npos).contains n
section
variable {K : PySem.W.Frag} {fd : FuncData} {ps names : List Str} {dv : List Value} {npos : Nat} {perm : List Nat}
theorem zip_take {n : Str} : ∀ {ps : List Str} {us : List Value}, n ∈ (ps.zip us).map (·.1) → n ∈ ps.take us.length
  | [], _, h => by simp at h
  | _ :: _, [], h => by simp at h
  | p :: ps, u :: us, h => by
    rw [List.zip_cons_cons, List.map_cons, List.mem_cons] at h
    rw [List.length_cons, List.take_succ_cons, List.mem_cons]
    rcases h with h | h
    · exact .inl h
    · exact .inr (zip_take h)
theorem kw_of (h : ParF fd ps) (nd : ps.Nodup) (hd : DflF K fd dv) (hl : dv.length ≤ ps.length) (hk : kwB names ps npos perm = true) (s : Shared) (us ws : List Value) (X : K.In s.heap) (hu : us.length = npos) (hw : ws.length = names.length) :
    ∃ zs, putAt (us ++ ws) perm = some zs ∧ BindsTo s fd ⟨us, names.zip ws⟩ (ps.zip zs) := by
  unfold kwB at hk
  simp only [Bool.and_eq_true, beq_iff_eq, decide_eq_true_eq, List.all_eq_true, Bool.not_eq_true', List.contains_eq_mem, decide_eq_false_iff_not] at hk
  obtain ⟨⟨⟨⟨k1, k2⟩, k3⟩, k4⟩, k5⟩ := hk
  have hlt : ∀ j ∈ perm, j < (us ++ ws).length := by
    intro j hj
    obtain ⟨i, hi⟩ := List.mem_iff_getElem?.mp hj
    have := kwAt_ok k3 hi
    rw [List.length_append]
    by_cases z : j < npos
    · omega
    · have := (this.2 z).1; omega
  obtain ⟨zs, h1, h2, h3⟩ := putAt_ok hlt
  have hzl : ps.length = zs.length := by rw [h2, k1]
  refine ⟨zs, h1, ?_⟩
  have mapN : (names.zip ws).map (·.1) = names := List.map_fst_zip (by omega)
  have out : ∀ n ∈ names, (ps.zip us).lookup n = none := fun n hn => look_none fun z => (k5 n hn).2 (hu ▸ zip_take z)
  have key : ∀ (i : Nat) (n : Str) (z : Value), ps[i]? = some n → zs[i]? = some z → (ps.zip us ++ names.zip ws).lookup n = some z := by
    intro i n z a b
    obtain ⟨j, hj, hz⟩ := h3 i z b
    have q := kwAt_ok k3 hj
    rw [Nat.zero_add] at q
    rw [look_app]
    by_cases hn : j < npos
    · have := q.1 hn
      subst this
      rw [List.getElem?_append_left (by omega)] at hz
      rw [look_zip nd a hz]
      rfl
    · have q2 := (q.2 hn).2
      rw [a] at q2
      rw [List.getElem?_append_right (by omega), hu] at hz
      rw [out n (List.mem_of_getElem? q2), Option.none_or]
      exact look_zip k4 q2 hz
  intro M A E Q hq
  refine bind_args (s := s) (zs := zs) h (fun Q' k => dfl_items hd X Q' k) hl (by omega) (fun k hk => ?_) (by rw [mapN]; exact k4) (fun k hk => ?_) (fun m hm => ?_) hzl (fun i m z a b => ?_) hq
  · rw [mapN] at hk; exact (k5 k hk).1
  · rw [mapN] at hk; exact out k hk
  · obtain ⟨i, hi, rfl⟩ := List.getElem_of_mem hm
    rw [List.length_take] at hi
    have e : zs[i]? = some zs[i] := List.getElem?_eq_getElem (by omega)
    rw [key i _ _ (by rw [List.getElem_take, List.getElem?_eq_getElem]) e]
    rfl
  · rw [key i m z a b]
    rfl
end
end Vm
set_option Elab.async false
set_option linter.all false
set_option maxRecDepth 100000
set_option maxHeartbeats 2000000
/-! The facts of a text's top, by one Bool: parts. -/
namespace Vm
open PySem PySem.Spec PyProof.Rows L2 Att

def fdAt (K : PySem.W.Frag) (a : Addr) : FuncData := match K.lookup a with
  | some ⟨_, _, .func fd, _⟩ => fd
  | _ => default
/-- what is told of a text's top -/
structure Lay where
  T : Tab
  gs : List (Str × GV)
  nb : List Str
  kw : List KwI
  nms : List Str
  cas : List Addr
  fas : List Addr
  pss : List (List Str)
  Ns : List (List Str)
def Lay.D (Y : Lay) (K : PySem.W.Frag) : Dat where
  gs := Y.gs
  nb := Y.nb
  kw := Y.kw
  T := Y.T
  nm := fun n => Y.nms[n]?.getD Str.empty
  ca := fun c => Y.cas[c]?.getD 0
  fa := fun d => Y.fas[d]?.getD 0
  fd := fun d => fdAt K (Y.fas[d]?.getD 0)
  ps := fun d => Y.pss[d]?.getD []

theorem all_of {α : Type} {l : List α} {p : α → Bool} (h : l.all p = true) : ∀ x ∈ l, p x = true := by
  rw [List.all_eq_true] at h; exact h
/-- every item with its place -/
def allI {α : Type} (p : Nat → α → Bool) : Nat → List α → Bool
  | _, [] => true
  | i, x :: r => p i x && allI p (i + 1) r
theorem allI_at {α : Type} {p : Nat → α → Bool} : ∀ {l : List α} {k i : Nat} {x : α}, allI p k l = true → l[i]? = some x → p (k + i) x = true
  | [], _, _, _, _, h => by simp at h
  | y :: l, k, 0, x, h, e => by
    unfold allI at h
    rw [Bool.and_eq_true] at h
    simp at e
    subst e
    exact h.1
  | y :: l, k, i + 1, x, h, e => by
    unfold allI at h
    rw [Bool.and_eq_true] at h
    have := allI_at (k := k + 1) (i := i) h.2 (by simpa using e)
    rw [show k + 1 + i = k + (i + 1) by omega] at this
    exact this
theorem allI_of {α : Type} {p : Nat → α → Bool} {l : List α} {i : Nat} {x : α} (h : allI p 0 l = true) (e : l[i]? = some x) : p i x = true := by
  have := allI_at h e
  rwa [Nat.zero_add] at this

/-! ### parameters, defaults -/
def parB (fd : FuncData) (ps : List Str) : Bool := fd.params.posonlyargs.isEmpty && decide (fd.params.args.map (·.arg) = ps) && fd.params.vararg.isNone && fd.params.kwonlyargs.isEmpty && fd.params.kwarg.isNone
theorem parB_ok {fd : FuncData} {ps : List Str} (h : parB fd ps = true) : ParF fd ps := by
  unfold parB at h
  simp only [Bool.and_eq_true, decide_eq_true_eq, List.isEmpty_iff, Option.isNone_iff_eq_none] at h
  obtain ⟨⟨⟨⟨h1, h2⟩, h3⟩, h4⟩, h5⟩ := h
  exact ⟨h1, h2, h3, h4, h5⟩
/-- a scalar and its value -/
def scB : PV → Value → Bool
  | .non, .none => true
  | .bl a, .bool b => a == b
  | .int a, .int b _ => a == b
  | .str a, .str b _ => decide (b = txt a)
  | _, _ => false
theorem scB_ok : ∀ {x : PV} {v : Value}, scB x v = true → RelV (dV x) v
  | .non, v, h => by
    unfold scB at h
    split at h <;> first | rfl | contradiction | cases h
    all_goals rename_i a; first | cases a | skip
  | .bl b, v, h => by
    cases v <;> first | (simp only [scB, Bool.false_eq_true] at h; done) | (simp only [scB, beq_iff_eq] at h; subst h; rfl)
  | .int b, v, h => by
    cases v <;> first | (simp only [scB, Bool.false_eq_true] at h; done) | (simp only [scB, beq_iff_eq] at h; subst h; exact ⟨_, rfl⟩)
  | .str b, v, h => by
    cases v <;> first | (simp only [scB, Bool.false_eq_true] at h; done) | (simp only [scB, decide_eq_true_eq] at h; subst h; exact ⟨_, rfl⟩)
  | .tup _, v, h => by cases v <;> simp [scB] at h
  | .lst _, v, h => by cases v <;> simp [scB] at h
  | .clst _, v, h => by cases v <;> simp [scB] at h
  | .dct _ _, v, h => by cases v <;> simp [scB] at h
  | .ins _ _, v, h => by cases v <;> simp [scB] at h
  | .cls _, v, h => by cases v <;> simp [scB] at h
def scsB : List PV → List Value → Bool
  | [], [] => true
  | x :: xs, v :: vs => scB x v && scsB xs vs
  | _, _ => false
theorem scsB_ok : ∀ {xs : List PV} {vs : List Value}, scsB xs vs = true → Vals (xs.map dV) vs
  | [], [], _ => .nil
  | x :: xs, v :: vs, h => by
    unfold scsB at h
    rw [Bool.and_eq_true] at h
    exact .cons (scB_ok h.1) (scsB_ok h.2)
  | [], _ :: _, h => by cases h
  | _ :: _, [], h => by cases h
theorem vals_drop : ∀ {n : Nat} {xs : List V} {vs : List Value}, Vals xs vs → Vals (xs.drop n) (vs.drop n)
  | 0, _, _, h => h
  | _ + 1, _, _, .nil => .nil
  | n + 1, _, _, .cons _ r => vals_drop (n := n) r
/-- a def's defaults -/
def dflV (K : PySem.W.Frag) (fd : FuncData) : Option (List Value) := match fd.defaults with
  | .none => some []
  | .ref a => (match K.lookup a with
    | some ⟨_, _, .seq items _, _⟩ => some items.toList
    | _ => none)
  | _ => none
theorem dflV_ok {K : PySem.W.Frag} {fd : FuncData} {dv : List Value} (h : dflV K fd = some dv) : DflF K fd dv := by
  unfold dflV at h
  split at h
  · rename_i e
    cases h
    exact .inl ⟨e, rfl⟩
  · rename_i a e
    split at h
    · rename_i c d items n sl ho
      cases h
      exact .inr ⟨a, _, items, n, e, ho, rfl, rfl⟩
    · cases h
  · cases h
/-- a def and its defaults -/
def dflB (K : PySem.W.Frag) (fd : FuncData) (ps : List Str) (dfl : List PV) : Bool := parB fd ps && decide ps.Nodup && decide (dfl.length ≤ ps.length) && dfl.all isSc && (match dflV K fd with
  | some dv => scsB dfl dv
  | none => false)
structure DflK (K : PySem.W.Frag) (fd : FuncData) (ps : List Str) (dfl : List PV) (dv : List Value) : Prop where
  par : ParF fd ps
  nd : ps.Nodup
  le : dfl.length ≤ ps.length
  sc : ∀ x ∈ dfl, isSc x = true
  f : DflF K fd dv
  r : Vals (dfl.map dV) dv
theorem DflK.len {K : PySem.W.Frag} {fd : FuncData} {ps : List Str} {dfl : List PV} {dv : List Value} (h : DflK K fd ps dfl dv) : dv.length = dfl.length := by
  have := h.r.length
  rw [List.length_map] at this
  exact this.symm
theorem dflB_ok {K : PySem.W.Frag} {fd : FuncData} {ps : List Str} {dfl : List PV} (h : dflB K fd ps dfl = true) : ∃ dv, DflK K fd ps dfl dv := by
  unfold dflB at h
  simp only [Bool.and_eq_true, decide_eq_true_eq] at h
  obtain ⟨⟨⟨⟨h1, h2⟩, h3⟩, h4⟩, h5⟩ := h
  split at h5
  · rename_i dv e
    exact ⟨dv, parB_ok h1, h2, h3, all_of h4, dflV_ok e, scsB_ok h5⟩
  · cases h5
theorem DflK.binds {K : PySem.W.Frag} {fd : FuncData} {ps : List Str} {dfl : List PV} {dv : List Value} (h : DflK K fd ps dfl dv) (n : Nat) (h1 : n ≤ ps.length) (h2 : ps.length ≤ n + dfl.length) :
    ∃ ds, Vals ((dfl.drop (n + dfl.length - ps.length)).map dV) ds ∧ Binds K fd ps ds := by
  have hl := h.len
  refine ⟨dv.drop (n + dv.length - ps.length), ?_, binds_of h.par h.nd h.f (by rw [hl]; exact h.le) n h1 (by omega)⟩
  rw [List.map_drop, hl]
  exact vals_drop h.r

/-! ### the text's names -/
def gvB (K : PySem.W.Frag) (D : Dat) (n : Str) (g : GV) : Bool := match PySem.W.nsIn K mainGlobals n with
  | some (some v) => (match g with
    | .fn d => decide (v = .ref (D.fa d))
    | .cl c => decide (v = .ref (D.ca c))
    | .con x => isSc x && scB x v
    | .gcd => decide (v = .builtin "math.gcd"))
  | _ => false
section
variable {K : PySem.W.Frag} {h : Heap} {mg : Str → Option Value} {D : Dat}
theorem gvB_ok (X : K.In h) (G : h.Ns mainGlobals mg) {n : Str} (g : GV) : gvB K D n g = true → match g with
    | .fn d => mg n = some (.ref (D.fa d))
    | .cl c => mg n = some (.ref (D.ca c))
    | .con x => ∃ u v, mg n = some v ∧ RelV u v ∧ ∀ ι H, Rep (D.G K) ι H x u
    | .gcd => mg n = some (.builtin "math.gcd") := by
  intro q
  unfold gvB at q
  split at q
  · rename_i v e
    have m := PySem.W.mg_of X G e
    cases g with
    | fn d => rw [m, of_decide_eq_true q]
    | cl c => rw [m, of_decide_eq_true q]
    | con x =>
      rw [Bool.and_eq_true] at q
      exact ⟨dV x, v, m, scB_ok q.2, fun ι H => rep_dV q.1⟩
    | gcd => rw [m, of_decide_eq_true q]
  · cases q
theorem look_all {α : Type} {l : List (Str × α)} {p : Str → α → Bool} (h : (l.all fun q => p q.1 q.2) = true) {n : Str} {g : α} (e : l.lookup n = some g) : p n g = true :=
  all_of h (n, g) (PySem.mem_of_lookup e)
end
def nbB (K : PySem.W.Frag) (n : Str) : Bool := decide (PySem.W.nsIn K mainGlobals n = some none)

/-! ### keywords -/
def kwKB (D : Dat) (k : KwI) : Bool := kwB (k.ks.map D.nm) (D.ps k.d) k.npos k.perm && (D.T.defs[k.d]?).isSome
end Vm
set_option Elab.async false
set_option linter.all false
set_option maxRecDepth 100000
set_option maxHeartbeats 2000000
/-! The facts of a text's top: classes. -/
namespace Vm
open PySem PySem.Spec PyProof.Rows L2 Att

section
variable (K : PySem.W.Frag) (D : Dat) (c : Nat) (ci : ClsI)
def methB (m : Str) (f : Addr) : Bool := decide (PySem.W.findIn K (.ref (D.ca c)) m = some (some (.ref f))) && PySem.W.isFn K (.ref f) && PySem.W.keepIn K (.ref f)
def propB (m : Str) (f : Addr) : Bool := match PySem.W.findIn K (.ref (D.ca c)) m with
  | some (some (.ref p)) => decide (PySem.W.specialIn K (.ref p) "__get__" = some (some (.builtin "property.__get__"))) && decide (PySem.W.takesIn K (.ref p) = some true) && (match PySem.W.recIn K p "property" with
    | some (.ref g :: _) => decide (g = f)
    | _ => false)
  | _ => false
def opB (o : Operator) : Bool := decide (PySem.W.findIn K (.ref (D.ca c)) (dunderR o.info.2) = some none) && bTys.all fun T => (PySem.W.findIn K (.type T) (PySem.dunder o.info.2)).isSome && (PySem.W.findIn K (.type T) (dunderR o.info.2)).isSome
def mkB (f : Addr) : Bool := PySem.W.makesIn K (D.ca c) && decide (PySem.W.findIn K (.ref (D.ca c)) "__init__" = some (some (.ref f))) && PySem.W.isFn K (.ref f) && PySem.W.keepIn K (.ref (D.ca c))
def clB : Bool := PySem.W.plainGet K (D.ca c) Str.empty && PySem.W.hasDictIn K (D.ca c) && PySem.W.plainOver K (D.ca c) && decide (PySem.W.findIn K (.ref (D.ca c)) "__setattr__" = some (some (.builtin "object.__setattr__")))
def statB (mc : Value) (m : Str) (f : Addr) : Bool := match PySem.W.findCls K (.ref (D.ca c)) mc m with
  | some (.get g (.ref q) .none (.ref C)) => decide (g = .builtin "staticmethod.__get__") && decide (C = D.ca c) && (match PySem.W.recIn K q "staticmethod" with
    | some (.ref f' :: _) => decide (f' = f)
    | _ => false)
  | _ => false
def cconB (mc : Value) (m : Str) (x : PV) : Bool := match PySem.W.findCls K (.ref (D.ca c)) mc m with
  | some (.val u) => isSc x && scB x u
  | _ => false
def readB : Bool := (ci.stats.isEmpty && ci.cons.isEmpty) || (match PySem.W.typeIn K (.ref (D.ca c)) with
  | some mc => PySem.W.readsIn K (D.ca c) mc && decide (PySem.W.specialIn K (.ref (D.ca c)) "__getattribute__" = some (some (.builtin "type.__getattribute__"))) &&
    (ci.stats.all fun p => statB K D c mc (D.nm p.1) (D.fa p.2)) && (ci.cons.all fun p => cconB K D c mc (D.nm p.1) p.2)
  | none => false)
def clsB1 : Bool := clB K D c && (ci.flds.all fun f => decide (PySem.W.findIn K (.ref (D.ca c)) (D.nm f) = some none)) && decide (ci.flds.map D.nm).Nodup && decide (ci.flds.length ≤ 900) &&
  (ci.meths.all fun p => methB K D c (D.nm p.1) (D.fa p.2) && ci.flds.all fun f => decide (D.nm f ≠ D.nm p.1)) && (ci.props.all fun p => propB K D c (D.nm p.1) (D.fa p.2)) && PySem.W.selfFirst K (D.ca c) && (match ci.init with
    | some d => mkB K D c (D.fa d)
    | none => true)
def clsB2 : Bool := decide (PySem.W.findIn K (.ref (D.ca c)) "__class__" = some (some (.builtin "object.__class__"))) && decide (PySem.W.mroIn K (D.ca c) (.type "object") = some true) &&
  (bTys.all fun T => decide (PySem.W.subIn K (.type T) (.ref (D.ca c)) = some false) && decide (PySem.W.kitOne K (.type T) (.ref (D.ca c)) = some false) && decide (PySem.W.kitOne K (.ref (D.ca c)) (.type T) = some false)) &&
  (ci.meths.all fun p => (p.1 != aAdd || opB K D c .Add) && (p.1 != aSub || opB K D c .Sub) && (p.1 != aMul || opB K D c .Mult)) && readB K D c ci &&
  ((lookN ci.meths aBool).isSome || (decide (PySem.W.findIn K (.ref (D.ca c)) "__bool__" = some none) && decide (PySem.W.findIn K (.ref (D.ca c)) "__len__" = some none)))
end
section
variable {K : PySem.W.Frag} {D : Dat} {c : Nat} {ci : ClsI}
theorem methB_ok {m : Str} {f : Addr} (h : methB K D c m f = true) : Meth K (D.ca c) m f := by
  unfold methB at h
  simp only [Bool.and_eq_true, decide_eq_true_eq] at h
  exact ⟨h.1.1, h.1.2, h.2⟩
theorem propB_ok {m : Str} {f : Addr} (h : propB K D c m f = true) : ∃ pa, PropOf K (D.ca c) m pa f := by
  unfold propB at h
  split at h
  · rename_i p e
    simp only [Bool.and_eq_true, decide_eq_true_eq] at h
    obtain ⟨⟨h1, h2⟩, h3⟩ := h
    split at h3
    · rename_i g r e2
      have := of_decide_eq_true h3
      subst this
      exact ⟨p, e, h1, h2, ⟨r, e2⟩⟩
    · cases h3
  · cases h
theorem opB_ok {o : Operator} (h : opB K D c o = true) : OpF K D c o := by
  unfold opB at h
  simp only [Bool.and_eq_true, decide_eq_true_eq] at h
  refine ⟨h.1, fun T hT => ?_⟩
  have := all_of h.2 T hT
  rw [Bool.and_eq_true] at this
  obtain ⟨a, ha⟩ := Option.isSome_iff_exists.mp this.1
  obtain ⟨b, hb⟩ := Option.isSome_iff_exists.mp this.2
  exact ⟨a, b, ha, hb⟩
theorem mkB_ok {f : Addr} (h : mkB K D c f = true) : Mk K (D.ca c) f := by
  unfold mkB at h
  simp only [Bool.and_eq_true, decide_eq_true_eq] at h
  exact ⟨h.1.1.1, h.1.1.2, h.1.2, h.2⟩
theorem clB_ok (h : clB K D c = true) : Cls K (D.ca c) := by
  unfold clB at h
  simp only [Bool.and_eq_true, decide_eq_true_eq] at h
  exact ⟨h.1.1.1, h.1.1.2, h.1.2, h.2⟩
theorem statB_ok {mc : Value} {m : Str} {f : Addr} (h : statB K D c mc m f = true) : ∃ q rest, PySem.W.findCls K (.ref (D.ca c)) mc m = some (.get (.builtin "staticmethod.__get__") (.ref q) .none (.ref (D.ca c))) ∧ PySem.W.recIn K q "staticmethod" = some (.ref f :: rest) := by
  unfold statB at h
  split at h
  · rename_i g q C e
    simp only [Bool.and_eq_true, decide_eq_true_eq] at h
    obtain ⟨⟨rfl, rfl⟩, h3⟩ := h
    split at h3
    · rename_i f' r e2
      have := of_decide_eq_true h3
      subst this
      exact ⟨q, r, e, e2⟩
    · cases h3
  · cases h
theorem cconB_ok {mc : Value} {m : Str} {x : PV} (h : cconB K D c mc m x = true) : ∃ v u, ClX.CVal K (D.ca c) mc m v u ∧ ∀ ι H, Rep (D.G K) ι H x v := by
  unfold cconB at h
  split at h
  · rename_i u e
    rw [Bool.and_eq_true] at h
    exact ⟨dV x, u, ⟨e, scB_ok h.2⟩, fun ι H => rep_dV h.1⟩
  · cases h
theorem readB_ok (h : readB K D c ci = true) : (ci.stats = [] ∧ ci.cons = []) ∨ ∃ mc, ClX.CRead K (D.ca c) mc ∧
    (∀ p ∈ ci.stats, ∃ q rest, PySem.W.findCls K (.ref (D.ca c)) mc (D.nm p.1) = some (.get (.builtin "staticmethod.__get__") (.ref q) .none (.ref (D.ca c))) ∧ PySem.W.recIn K q "staticmethod" = some (.ref (D.fa p.2) :: rest)) ∧
    (∀ p ∈ ci.cons, ∃ v u, ClX.CVal K (D.ca c) mc (D.nm p.1) v u ∧ ∀ ι H, Rep (D.G K) ι H p.2 v) := by
  unfold readB at h
  rw [Bool.or_eq_true] at h
  rcases h with h | h
  · simp only [Bool.and_eq_true, List.isEmpty_iff] at h
    exact .inl h
  · right
    split at h
    · rename_i mc e
      simp only [Bool.and_eq_true, decide_eq_true_eq] at h
      obtain ⟨⟨⟨h1, h2⟩, h3⟩, h4⟩ := h
      exact ⟨mc, ⟨h1, h2⟩, fun p hp => statB_ok (all_of h3 p hp), fun p hp => cconB_ok (all_of h4 p hp)⟩
    · cases h
theorem clsB_ok {mg : Str → Option Value} (h1 : clsB1 K D c ci = true) (h2 : clsB2 K D c ci = true) : ClsF K mg D c ci := by
  unfold clsB1 at h1
  unfold clsB2 at h2
  simp only [Bool.and_eq_true, decide_eq_true_eq] at h1 h2
  obtain ⟨⟨⟨⟨⟨⟨⟨a1, a2⟩, a3⟩, a4⟩, a5⟩, a6⟩, a7⟩, a8⟩ := h1
  obtain ⟨⟨⟨⟨⟨b1, b2⟩, b3⟩, b4⟩, b5⟩, b6⟩ := h2
  have b3' := fun T hT => all_of b3 T hT
  simp only [Bool.and_eq_true, decide_eq_true_eq] at b3'
  have m' := fun p hp => all_of a5 p hp
  simp only [Bool.and_eq_true] at m'
  exact { cls := clB_ok a1
          no := fun f hf => by
            have := all_of a2 f hf
            rw [decide_eq_true_eq] at this
            exact this
          nd := a3
          few := a4
          meth := fun p hp => ⟨methB_ok (m' p hp).1, fun f hf => of_decide_eq_true (all_of (m' p hp).2 f hf)⟩
          prop := fun p hp => propB_ok (all_of a6 p hp)
          first := a7
          make := fun d hd => by rw [hd] at a8; exact mkB_ok a8
          ha := b1
          hm := b2
          sub := fun T hT => (b3' T hT).1.1
          kitB := fun T hT => (b3' T hT).1.2
          kitT := fun T hT => (b3' T hT).2
          op := fun p hp => by
            have := all_of b4 p hp
            simp only [Bool.and_eq_true, Bool.or_eq_true, bne_iff_ne] at this
            exact ⟨fun e => opB_ok (this.1.1.resolve_left fun z => z e), fun e => opB_ok (this.1.2.resolve_left fun z => z e), fun e => opB_ok (this.2.resolve_left fun z => z e)⟩
          read := readB_ok b5
          nobool := fun e => by
            rw [e] at b6
            simp only [Option.isSome_none, Bool.false_or, Bool.and_eq_true, decide_eq_true_eq] at b6
            exact b6 }
end
end Vm
set_option Elab.async false
set_option linter.all false
set_option maxRecDepth 100000
set_option maxHeartbeats 2000000
/-! The facts of a text's top: errors, defs; all of it. -/
namespace Vm
open PySem PySem.Spec PyProof.Rows L2 Att NdefX

def NFof (fd : FuncData) : NF where
  name := fd.name
  qual := fd.qualname
  params := fd.params
  body := match fd.body with
    | .stmts b => b
    | _ => []
  scope := fd.scope
  cl := fd.closure
  c := match fd.code with
    | .ref c => c
    | _ => 0
def nfB (fd : FuncData) : Bool := (match fd.body with
    | .stmts _ => true
    | _ => false) && (match fd.code with
    | .ref _ => true
    | _ => false) && fd.globals == mainGlobals && decide (fd.defaults = .none) && decide (fd.kwdefaults = .none) && fd.annotations.isNone && fd.builtins == builtinsNs
theorem nfB_ok {fd : FuncData} (h : nfB fd = true) : fd = (NFof fd).fd fd.doc fd.pyModule fd.closureTuple := by
  obtain ⟨name, qual, params, body, scope, gl, cl, dV, kV, doc, pm, an, code, ct, bl⟩ := fd
  unfold nfB at h
  simp only [Bool.and_eq_true, decide_eq_true_eq, beq_iff_eq, Option.isNone_iff_eq_none] at h
  obtain ⟨⟨⟨⟨⟨⟨h1, h2⟩, rfl⟩, rfl⟩, rfl⟩, rfl⟩, rfl⟩ := h
  cases body with
  | stmts b =>
    cases code <;> first | rfl | cases h2
  | expr b => cases h1

section
variable (P : Program) (K : PySem.W.Frag) (D : Dat) (c : Nat) (ci : ClsI)
def oexB (C : Addr) : Bool := (match K.lookup C with
  | some ⟨cl, dd, .cls cd, sl⟩ => decide (cl = .type "type") && cd.hasDict && !cd.hasDel && (match cd.mro with
    | .ref C' :: bm => decide (C' = C) && PySem.HandSPX.refsVE bm
    | _ => false) && (match sl with
    | ⟨[_, _, _, _, some k, _]⟩ => decide (k = .builtin "ValueError.__new__")
    | _ => false)
  | _ => false) && decide (PySem.W.findIn K (.ref C) "__setattr__" = some (some (.builtin "object.__setattr__"))) && decide (PySem.W.subIn K (.ref C) (.type "BaseException") = some true) && decide (PySem.W.typeIn K (.ref C) = some (.type "type")) && PySem.W.keepIn K (.ref C)
def cellB (C : Addr) (cl : List (Str × Addr)) : Bool := match cl with
  | [(n, cc)] => decide (n = "__class__") && (match K.lookup cc with
    | some ⟨_, _, .cell (some (.ref C')), _⟩ => decide (C' = C)
    | _ => false)
  | _ => false
def codeFB (cd : Addr) : Bool := match K.lookup cd with
  | some ⟨_, _, .fields vs, _⟩ => (match vs[2]? with
    | some (Value.str file _) => decide ((P.main.file : Str) = file)
    | _ => false)
  | _ => false
def supB (C fi : Addr) (F : NF) (slf : Str) : Bool := oexB K C && cellB K C F.cl && (PySem.W.clsIn K C).isSome && decide (PySem.W.mroIn K C (.ref C) = some true) && nbB K "super" && codeFB P K F.c && !(P.main.scope.names.lookup ("super" : Str)).isSome &&
  decide (PySem.W.nsIn K cStatics "thirdparty.any" = some none) && decide (PySem.W.ks_superIn K C C "__init__" = some (some (.builtin "ValueError.__init__"))) && decide (PySem.W.subIn K (.ref C) (.type "ValueError") = some true) &&
  decide (F.scope.names.lookup ("super" : Str) = some .globalImplicit) && decide (F.scope.names.lookup ("__class__" : Str) = some .free) && decide (F.scope.names.lookup slf = some .local) && (match (F.params.posonlyargs ++ F.params.args).head? with
    | some ar => decide (ar.arg = slf)
    | none => false)
def xbodyB (N : List Str) (slf : Str) (sc : Scope) (fn : List Str) : List Stmt → Bool
  | .Expr (.Call (.Attribute (.Call (.Name s p0) [] [] p1) i ap) [.Constant (.str z) j pc] [] pos) pos' :: rest => decide (s = "super") && decide (i = "__init__") && (ap.endLine == pos.line) && mFl N slf sc rest (fn.zip ((List.range fn.length).map (· + 1)))
  | _ => false
def xinB (C fi : Addr) (fn : List Str) : Bool := match K.lookup fi with
  | some ⟨_, _, .func fd, _⟩ => nfB fd && dflB K fd (fd.params.args.map (·.arg)) [] && PySem.W.codeIn K (.ref (NFof fd).c) fd.qualname && (match fd.params.args.map (·.arg) with
    | slf :: r => decide (r.length = fn.length) && okN slf && supB P K C fi (NFof fd) slf && nscB (slf :: r ++ [("__class__" : Str)]) (slf :: r) [("__class__" : Str)] fd.scope && xbodyB (slf :: r ++ [("__class__" : Str)]) slf fd.scope fn (NFof fd).body
    | [] => false) && fn.all (fun f => decide (PySem.W.findIn K (.ref C) f = some none)) && decide (fn.length ≤ 900) && !fn.isEmpty
  | _ => false
def excB (C : Addr) : Bool := decide (PySem.W.findIn K (.ref C) "__getattribute__" = some (some (.builtin "BaseException.__getattribute__"))) && decide (PySem.W.findIn K (.ref C) "__getattr__" = some none) && decide (PySem.W.subIn K (.ref C) (.type "BaseException") = some true) && PySem.W.hasDictIn K C &&
  decide (PySem.W.findIn K (.ref C) "__class__" = some (some (.builtin "object.__class__"))) && decide (PySem.W.specialIn K (.builtin "object.__class__") "__get__" = some (some (.builtin "getset_descriptor.__get__"))) && decide (PySem.W.takesIn K (.builtin "object.__class__") = some true) && decide (PySem.W.mroIn K C (.type "object") = some true)
/-- .. the errors that it may be asked for: by their places -/
def subsB : Bool := allI (fun k (ck : ClsI) => !ck.isx || (decide (PySem.W.subIn K (.ref (D.ca c)) (.ref (D.ca k)) = some (ci.supers.contains k)) && decide (PySem.W.kitOne K (.ref (D.ca c)) (.ref (D.ca k)) = some (ci.supers.contains k)))) 0 D.T.cls
def errB : Bool := decide (ci.flds.map D.nm).Nodup && (ci.init.isNone || (match PySem.W.findIn K (.ref (D.ca c)) "__init__" with
    | some (some (.ref fi)) => xinB P K (D.ca c) fi (ci.flds.map D.nm) && decide (PySem.W.typeIn K (.ref fi) = some (.type "function"))
    | _ => false)) && (ci.flds.all fun f => decide (PySem.W.findIn K (.ref (D.ca c)) (D.nm f) = some none)) && excB K (D.ca c) && decide (PySem.W.typeIn K (.ref (D.ca c)) = some (.type "type")) && subsB K D c ci
end
section
variable {P : Program} {K : PySem.W.Frag} {D : Dat} {c : Nat} {ci : ClsI} {h : Heap} {mg : Str → Option Value}
theorem oexB_ok {C : Addr} (h : oexB K C = true) : OexC K C := by
  unfold oexB at h
  simp only [Bool.and_eq_true, decide_eq_true_eq] at h
  obtain ⟨⟨⟨⟨h1, h2⟩, h3⟩, h4⟩, h5⟩ := h
  refine ⟨?_, h2, h3, h4, h5⟩
  split at h1
  · rename_i cl dd cd sl e
    simp only [Bool.and_eq_true, decide_eq_true_eq, Bool.not_eq_true'] at h1
    obtain ⟨⟨⟨⟨rfl, q1⟩, q2⟩, q3⟩, q4⟩ := h1
    obtain ⟨nm, bs, mro, N, q, hd, sn, sub, ab, col, hdel⟩ := cd
    dsimp only at q1 q2 q3
    subst q1; subst q2
    split at q3
    · rename_i C' bm
      rw [Bool.and_eq_true, decide_eq_true_eq] at q3
      obtain ⟨rfl, q3⟩ := q3
      split at q4
      · rename_i k0 k1 k2 k3 k k5
        have := of_decide_eq_true q4
        subst this
        exact ⟨nm, q, N, bs, bm, sn, sub, ab, col, dd, k0, k1, k2, k3, k5, e, q3⟩
      · cases q4
    · cases q3
  · cases h1
theorem supB_ok (X : K.In h) (G : h.Ns mainGlobals mg) {C fi : Addr} {F : NF} {slf : Str} (q : supB P K C fi F slf = true) (hfn : ∃ oc od doc pm ctv osl, K.lookup fi = some ⟨oc, od, .func (F.fd doc pm ctv), osl⟩) : SupF P K mg C fi F slf := by
  unfold supB at q
  simp only [Bool.and_eq_true, decide_eq_true_eq, Bool.not_eq_true'] at q
  obtain ⟨⟨⟨⟨⟨⟨⟨⟨⟨⟨⟨⟨⟨a1, a2⟩, a3⟩, a4⟩, a5⟩, a6⟩, a7⟩, a8⟩, a9⟩, a10⟩, a11⟩, a12⟩, a13⟩, a14⟩ := q
  refine ⟨oexB_ok a1, ?_, Option.isSome_iff_exists.mp a3, a4, PySem.W.mg_none_of X G (of_decide_eq_true a5), ?_, a7, a8, a9, a10, a11, a12, a13, ?_, hfn⟩
  · unfold cellB at a2
    split at a2
    · rename_i n cc e
      rw [Bool.and_eq_true, decide_eq_true_eq] at a2
      obtain ⟨rfl, a2⟩ := a2
      split at a2
      · rename_i cl d C' sl e2
        have := of_decide_eq_true a2
        subst this
        exact ⟨cc, _, _, _, e, e2⟩
      · cases a2
    · cases a2
  · unfold codeFB at a6
    split at a6
    · rename_i c d vs sl e
      split at a6
      · rename_i file tf e2
        exact ⟨_, _, vs, _, file, tf, e, e2, beq_iff_eq.mpr (of_decide_eq_true a6)⟩
      · cases a6
    · cases a6
  · split at a14
    · rename_i ar e
      exact ⟨ar, e, of_decide_eq_true a14⟩
    · cases a14
theorem xinB_ok (X : K.In h) (G : h.Ns mainGlobals mg) {C fi : Addr} {fn : List Str} (q : xinB P K C fi fn = true) : ∃ F fd ps slf, XinF P K mg C fi F fd ps fn slf ∧ Binds K fd ps [] := by
  unfold xinB at q
  split at q
  · rename_i oc od fd osl lk
    simp only [Bool.and_eq_true, decide_eq_true_eq, Bool.not_eq_true'] at q
    obtain ⟨⟨⟨⟨⟨⟨q1, q2⟩, q3⟩, q4⟩, q5⟩, q6⟩, q7⟩ := q
    have e := nfB_ok q1
    split at q4
    · rename_i slf r hps
      simp only [Bool.and_eq_true, decide_eq_true_eq] at q4
      obtain ⟨⟨⟨⟨r1, r2⟩, r3⟩, r4⟩, r5⟩ := q4
      have lk2 : K.lookup fi = some ⟨oc, od, .func ((NFof fd).fd fd.doc fd.pyModule fd.closureTuple), osl⟩ := by rw [← e]; exact lk
      obtain ⟨dv, hd⟩ := dflB_ok q2
      obtain ⟨ds, hv, hb⟩ := hd.binds _ (Nat.le_refl _) (Nat.le_add_right _ _)
      have hv0 : Vals [] ds := by simpa using hv
      cases hv0
      rw [hps] at hb
      refine ⟨NFof fd, fd, slf :: r, slf, ?_, hb⟩
      refine { sf := supB_ok X G r3 ⟨_, _, _, _, _, _, lk2⟩, fdE := ⟨_, _, _, _, _, _, lk2, e⟩, code := q3, sc := nscope_by r4, par := ⟨r, rfl, r1⟩, okS := r2, body := ?_, no := fun f hf => of_decide_eq_true (all_of q5 f hf), few := q6, some_ := fun z => by rw [z] at q7; cases q7 }
      unfold xbodyB at r5
      split at r5
      · rename_i s p0 p1 i ap z j pc pos pos' rest hb2
        simp only [Bool.and_eq_true, decide_eq_true_eq] at r5
        obtain ⟨⟨⟨rfl, rfl⟩, t3⟩, t4⟩ := r5
        exact ⟨z, j, p0, p1, ap, pc, pos, pos', rest, _, hb2, t3, t4, rfl⟩
      · cases r5
    · cases q4
  · cases q
theorem errB_ok (X : K.In h) (G : h.Ns mainGlobals mg) (q : errB P K D c ci = true) : ErrF P K mg D c ci := by
  unfold errB at q
  simp only [Bool.and_eq_true, decide_eq_true_eq] at q
  obtain ⟨⟨⟨⟨⟨q1, q2⟩, q3⟩, q4⟩, q5⟩, q6⟩ := q
  unfold excB at q4
  simp only [Bool.and_eq_true, decide_eq_true_eq] at q4
  obtain ⟨⟨⟨⟨⟨⟨⟨e1, e2⟩, e3⟩, e4⟩, e5⟩, e6⟩, e7⟩, e8⟩ := q4
  refine { nd := q1, mks := fun hi => ?_, xf := ⟨e1, e2, e3, e4⟩, no := fun f hf => of_decide_eq_true (all_of q3 f hf), is_ := ⟨e1, e2, e3, e4, e5, e6, e7, e8⟩, ty := q5, sub := fun k ck hk hx => ?_ }
  · rw [Bool.or_eq_true] at q2
    rcases q2 with q2 | q2
    · rw [Option.isNone_iff_eq_none] at q2
      rw [q2] at hi; cases hi
    · split at q2
      · rename_i fi hfi
        rw [Bool.and_eq_true, decide_eq_true_eq] at q2
        obtain ⟨F, fd, ps, slf, x, b⟩ := xinB_ok X G q2.1
        exact ⟨fi, F, fd, ps, slf, x, hfi, q2.2, b⟩
      · cases q2
  · have := allI_of q6 hk
    rw [hx] at this
    simp only [Bool.not_true, Bool.false_or, Bool.and_eq_true, decide_eq_true_eq] at this
    exact this
end
end Vm
set_option Elab.async false
set_option linter.all false
set_option maxRecDepth 100000
set_option maxHeartbeats 2000000
/-! The facts of a text's top: all of it. -/
namespace Vm
open PySem PySem.Spec PyProof.Rows L2 Att

/-- how deep the checkers look -/
abbrev fuelE : Nat := 40
abbrev fuelS : Nat := 16
section
variable (P : Program) (K : PySem.W.Frag) (D : Dat)
/-- a def: its object, its scope, its defaults -/
def defB1 (N : List Str) (d : Nat) (di : DefI) : Bool := (match K.lookup (D.fa d) with
  | some ⟨_, _, .func fd, _⟩ => (match fd.body with
    | .stmts _ => true
    | _ => false) && fd.globals == mainGlobals && fd.closure.isEmpty && fd.builtins == builtinsNs && PySem.W.codeIn K fd.code fd.qualname && C8.scC N (D.ps d) fd.scope && dflB K fd (D.ps d) di.dfl
  | _ => false) && decide ((D.ps d).length = di.npar) && decide (N.length = di.nslot) && PySem.W.keepIn K (.ref (D.fa d))
def defB2 (N : List Str) (d : Nat) (di : DefI) : Bool := match K.lookup (D.fa d) with
  | some ⟨_, _, .func fd, _⟩ => (match fd.body with
    | .stmts body => mLs (mSt D N fd.scope (mR D N fuelE).1 (mR D N fuelE).2 fuelS) body di.body
    | _ => false)
  | _ => false
def kitB (c : Nat) (ci : ClsI) : Bool := ci.isx || allI (fun k (ck : ClsI) => ck.isx || decide (PySem.W.kitOne K (.ref (D.ca c)) (.ref (D.ca k)) = some (ci.supers.contains k))) 0 D.T.cls
def nmB : Bool := decide (D.nm aEq = "__eq__" ∧ D.nm aAdd = "__add__" ∧ D.nm aSub = "__sub__" ∧ D.nm aMul = "__mul__" ∧ D.nm aNeg = "__neg__" ∧ D.nm aAbs = "__abs__" ∧ D.nm aBool = "__bool__" ∧ D.nm aStr = "__str__" ∧ D.nm aRepr = "__repr__")
/-- the names, the keywords -/
def topB1 : Bool := nmB D && decide (PySem.W.specialIn K (.builtin "object.__class__") "__get__" = some (some (.builtin "getset_descriptor.__get__"))) && decide (PySem.W.takesIn K (.builtin "object.__class__") = some true) &&
  (D.gs.all fun q => gvB K D q.1 q.2) && D.nb.all (nbB K) && D.kw.all (kwKB D)
def topB2 : Bool := allI (fun c (ci : ClsI) => ci.isx || (clsB1 K D c ci && clsB2 K D c ci)) 0 D.T.cls && allI (kitB K D) 0 D.T.cls
def topB3 : Bool := allI (fun c (ci : ClsI) => !ci.isx || errB P K D c ci) 0 D.T.cls
end
def topB4 (K : PySem.W.Frag) (Y : Lay) : Bool := allI (fun d (di : DefI) => defB1 K (Y.D K) (Y.Ns[d]?.getD []) d di) 0 Y.T.defs
def topB5 (K : PySem.W.Frag) (Y : Lay) : Bool := allI (fun d (di : DefI) => defB2 K (Y.D K) (Y.Ns[d]?.getD []) d di) 0 Y.T.defs
section
variable {P : Program} {w : World} {K : PySem.W.Frag} {mg : Str → Option Value} {base h : Heap} {Y : Lay}
theorem defB_ok {d : Nat} {di : DefI} {N : List Str} (h1 : defB1 K (Y.D K) N d di = true) (h2 : defB2 K (Y.D K) N d di = true) :
    DefF P w K mg base (Y.D K) d di ∧ PySem.W.keepIn K (.ref ((Y.D K).fa d)) = true ∧ ((Y.D K).ps d).length = di.npar ∧ ∃ dv, DflK K ((Y.D K).fd d) ((Y.D K).ps d) di.dfl dv := by
  unfold defB1 at h1
  unfold defB2 at h2
  simp only [Bool.and_eq_true, decide_eq_true_eq] at h1
  obtain ⟨⟨⟨h1, hp⟩, hn⟩, hk⟩ := h1
  split at h1
  · rename_i oc od fd osl lk
    rw [lk] at h2
    dsimp only at h2
    have hfd : (Y.D K).fd d = fd := by
      show fdAt K _ = _
      unfold fdAt
      rw [show K.lookup (Y.fas[d]?.getD 0) = _ from lk]
    obtain ⟨name, qual, params, body, scope, gl, cl, dV, kV, doc, pm, an, code, ct, bl⟩ := fd
    simp only [Bool.and_eq_true, beq_iff_eq, List.isEmpty_iff] at h1
    obtain ⟨⟨⟨⟨⟨⟨b1, rfl⟩, rfl⟩, rfl⟩, b5⟩, b6⟩, b7⟩ := h1
    cases body with
    | expr b => cases b1
    | stmts b =>
      have S := C8.fnScope_by b6
      refine ⟨⟨oc, od, name, qual, params, b, scope, dV, kV, doc, pm, code, ct, an, osl, N, lk, hfd, b5, S, hp, hn, ?_⟩, hk, hp, ?_⟩
      · rintro X C L W n0 rfl wk hN hs
        exact mLs_ok (mSt_ok S.nd fuelE fuelS) wk hN hs h2
      · rw [hfd]
        exact dflB_ok b7
  · cases h1
theorem nmB_ok {D : Dat} (h : nmB D = true) : D.nm aEq = "__eq__" ∧ D.nm aAdd = "__add__" ∧ D.nm aSub = "__sub__" ∧ D.nm aMul = "__mul__" ∧ D.nm aNeg = "__neg__" ∧ D.nm aAbs = "__abs__" ∧ D.nm aBool = "__bool__" ∧ D.nm aStr = "__str__" ∧ D.nm aRepr = "__repr__" := by
  unfold nmB at h
  exact of_decide_eq_true h
theorem nbB_ok {n : Str} (h : nbB K n = true) : PySem.W.nsIn K mainGlobals n = some none := by
  unfold nbB at h
  exact of_decide_eq_true h
theorem txt_of_bool (X : K.In h) (G : h.Ns mainGlobals mg) (h1 : topB1 K (Y.D K) = true) (h2 : topB2 K (Y.D K) = true) (h3 : topB3 P K (Y.D K) = true) (h4 : topB4 K Y = true) (h5 : topB5 K Y = true) : Txt P w K mg base (Y.D K) := by
  unfold topB4 at h4
  unfold topB5 at h5
  have df := fun {d : Nat} {di : DefI} (hd : Y.T.defs[d]? = some di) =>
    have e1 : defB1 K (Y.D K) (Y.Ns[d]?.getD []) d di = true := allI_of (p := fun d (di : DefI) => defB1 K (Y.D K) (Y.Ns[d]?.getD []) d di) h4 hd
    have e2 : defB2 K (Y.D K) (Y.Ns[d]?.getD []) d di = true := allI_of (p := fun d (di : DefI) => defB2 K (Y.D K) (Y.Ns[d]?.getD []) d di) h5 hd
    defB_ok (P := P) (w := w) (mg := mg) (base := base) (K := K) (Y := Y) (d := d) (di := di) (N := Y.Ns[d]?.getD []) e1 e2
  unfold topB1 at h1
  unfold topB2 at h2
  unfold topB3 at h3
  rw [Bool.and_eq_true, Bool.and_eq_true, Bool.and_eq_true, Bool.and_eq_true, Bool.and_eq_true] at h1
  rw [Bool.and_eq_true] at h2
  obtain ⟨⟨⟨⟨⟨a1, a2⟩, a3⟩, a4⟩, a5⟩, a6⟩ := h1
  have F : Fa K mg (Y.D K) := by
    refine ⟨nmB_ok a1, fun c ci hc hx => ?_, of_decide_eq_true a2, of_decide_eq_true a3, fun c ci k ck hc hx hk hy => ?_, fun n g e => gvB_ok X G g (look_all a4 e), fun n hn => PySem.W.mg_none_of X G (nbB_ok (all_of a5 n hn)), fun k hk s us ws KX hu hw => ?_, fun d di hd => (df hd).2.1, fun d di hd => (df hd).2.2.1, fun d di hd n q1 q2 => ?_, fun d di hd => ?_⟩
    · have := allI_of h2.1 hc
      rw [hx, Bool.false_or, Bool.and_eq_true] at this
      exact clsB_ok this.1 this.2
    · have := allI_of h2.2 hc
      unfold kitB at this
      rw [hx, Bool.false_or] at this
      have := allI_of this hk
      rw [hy, Bool.false_or, decide_eq_true_eq] at this
      exact this
    · have := all_of a6 k hk
      unfold kwKB at this
      rw [Bool.and_eq_true] at this
      obtain ⟨di, hd⟩ := Option.isSome_iff_exists.mp this.2
      obtain ⟨dv, z⟩ := (df hd).2.2.2
      exact kw_of z.par z.nd z.f (by rw [z.len]; exact z.le) this.1 s us ws KX hu (by rw [hw, List.length_map])
    · obtain ⟨dv, z⟩ := (df hd).2.2.2
      have hp := (df hd).2.2.1
      have := z.binds n (by omega) (by omega)
      rw [hp] at this
      exact this
    · obtain ⟨dv, z⟩ := (df hd).2.2.2
      exact z.sc
  refine ⟨F, fun c ci hc hx => ?_, fun d di hd => (df hd).1⟩
  have := allI_of h3 hc
  rw [hx] at this
  exact errB_ok X G (by simpa using this)
end
theorem dflt_nil {T : Tab} {d : Nat} {di : DefI} {xs : List SV} (h : T.defs[d]? = some di) (h2 : di.dfl = []) : dflt T d xs = xs := by
  unfold dflt
  rw [h]
  dsimp only
  rw [h2]
  simp
end Vm
set_option Elab.async false
set_option linter.all false
set_option maxRecDepth 100000
set_option maxHeartbeats 2000000
/-! The machine, run by equations: every continuation is a constant, so that simp looks at no body ahead of time. -/
namespace Vm
namespace Q
open PySem

theorem call_at {T : Tab} {n d : Nat} {di : DefI} {args : List SV} {s : PS} (h : T.defs[d]? = some di) : callN T (n + 1) d args s = runD T (callN T n) di args s := by
  show (match T.defs[d]? with
    | some di => runD T (callN T n) di args s
    | none => .bad) = _
  rw [h]

@[simp] theorem lim_ : lim = 100000 := (rfl)
/-! ### results -/
section
variable {α β : Type}
@[simp] theorem rb_ok {a : α} {s : PS} {k : α → PS → Res β} : (Res.ok a s).bind k = k a s := (rfl)
@[simp] theorem rb_ex {e : PX} {s : PS} {k : α → PS → Res β} : (Res.ex e s).bind k = .ex e s := (rfl)
@[simp] theorem rb_bad {k : α → PS → Res β} : (Res.bad).bind k = .bad := (rfl)
@[simp] theorem rb_ite {c : Prop} [Decidable c] {x y : Res α} {k : α → PS → Res β} : (if c then x else y).bind k = if c then x.bind k else y.bind k := by split <;> rfl
@[simp] theorem oe_ok {a : α} {s : PS} {σ : Sl} {k : α → PS → RS} : ofE (Res.ok a s) σ k = k a s := (rfl)
@[simp] theorem oe_ex {e : PX} {s : PS} {σ : Sl} {k : α → PS → RS} : ofE (Res.ex e s : Res α) σ k = .ex e σ s := (rfl)
@[simp] theorem oe_bad {σ : Sl} {k : α → PS → RS} : ofE (Res.bad : Res α) σ k = .bad := (rfl)
@[simp] theorem oe_ite {c : Prop} [Decidable c] {x y : Res α} {σ : Sl} {k : α → PS → RS} : ofE (if c then x else y) σ k = if c then ofE x σ k else ofE y σ k := by split <;> rfl
@[simp] theorem calm_ok' {a : α} {s : PS} : (Res.ok a s).calm = .ok a s := (rfl)
end
section
variable {σ : Sl} {s : PS} {k : Sl → PS → RS} {x : SV} {e : PX}
@[simp] theorem sq_nx : (RS.go .nx σ s).seq k = k σ s := (rfl)
@[simp] theorem sq_rt : (RS.go (.rt x) σ s).seq k = .go (.rt x) σ s := (rfl)
@[simp] theorem sq_brk : (RS.go .brk σ s).seq k = .go .brk σ s := (rfl)
@[simp] theorem sq_ct : (RS.go .ct σ s).seq k = .go .ct σ s := (rfl)
@[simp] theorem sq_ex : (RS.ex e σ s).seq k = .ex e σ s := (rfl)
@[simp] theorem sq_bad : (RS.bad).seq k = .bad := (rfl)
@[simp] theorem sq_ite {c : Prop} [Decidable c] {x y : RS} : (if c then x else y).seq k = if c then x.seq k else y.seq k := by split <;> rfl
/-- a def's end -/
def fin (esc : Bool) (n0 : Nat) : RS → Res SV
  | .go (.rt x) _ s1 => leave esc n0 x s1
  | .go .nx _ s1 => leave esc n0 (.v .non) s1
  | .ex e _ s1 => if esc then .ex e s1 else .ex e (s1.take n0)
  | _ => .bad
@[simp] theorem fin_ite {c : Prop} [Decidable c] {esc : Bool} {n0 : Nat} {x y : RS} : fin esc n0 (if c then x else y) = if c then fin esc n0 x else fin esc n0 y := by split <;> rfl
@[simp] theorem fin_rt {n0 : Nat} {y : PV} : fin false n0 (.go (.rt (.v y)) σ s) = .ok (.v y) (s.take n0) := (rfl)
@[simp] theorem fin_nx {n0 : Nat} : fin false n0 (.go .nx σ s) = .ok (.v .non) (s.take n0) := (rfl)
@[simp] theorem fin_ex {n0 : Nat} : fin false n0 (.ex e σ s) = .ex e (s.take n0) := (rfl)
@[simp] theorem fin_esc {n0 : Nat} : fin true n0 (.go (.rt x) σ s) = .ok x s := (rfl)
@[simp] theorem fin_bad {esc : Bool} {n0 : Nat} : fin esc n0 .bad = .bad := (rfl)
theorem fin_ref {n0 m : Nat} {xs : List SV} {ys : List PV} (h : n0 ≤ m) (h1 : s[m]? = some (.lst xs)) (h2 : vs xs = some ys) : fin false n0 (.go (.rt (.ref m)) σ s) = .ok (.v (.lst ys)) (s.take n0) := by
  show leave false n0 (.ref m) s = _
  unfold leave
  simp [Nat.not_lt.mpr h, h1, h2]
end
theorem run_at {T : Tab} {C : Calls} {di : DefI} {args : List SV} {s : PS} (h : args.length = di.npar) :
    runD T C di args s = fin di.esc s.length (exSs T C s.length di.body (args.map some ++ List.replicate (di.nslot - args.length) none) s) := by
  unfold runD
  rw [if_pos h]
  generalize exSs T C s.length di.body (args.map some ++ List.replicate (di.nslot - args.length) none) s = r
  cases r with
  | go f _ _ => cases f <;> rfl
  | ex => rfl
  | bad => rfl
theorem call_run {T : Tab} {n d : Nat} {di : DefI} {args : List SV} {s : PS} (h : T.defs[d]? = some di) (hl : args.length = di.npar) :
    callN T (n + 1) d args s = fin di.esc s.length (exSs T (callN T n) s.length di.body (args.map some ++ List.replicate (di.nslot - args.length) none) s) := by
  rw [call_at h, run_at hl]

/-! ### the continuations -/
def gv : Option (Option SV) → PS → Res SV
  | some (some x), s => .ok x s
  | _, _ => .bad
@[simp] theorem gv_some {x : SV} {s : PS} : gv (some (some x)) s = .ok x s := (rfl)
def gf : Option PV → PS → Res SV
  | some x, s => .ok (.v x) s
  | _, _ => .bad
@[simp] theorem gf_some {x : PV} {s : PS} : gf (some x) s = .ok (.v x) s := (rfl)
def noEx : Res SV → Res SV
  | .ok r s => .ok r s
  | _ => .bad
@[simp] theorem noEx_ok {x : SV} {s : PS} : noEx (.ok x s) = .ok x s := (rfl)
def tupO : Option (List PV) → PS → Res SV
  | some ys, s => if ys.length ≤ lim then .ok (.v (.tup ys)) s else .bad
  | none, _ => .bad
@[simp] theorem tupO_some {ys : List PV} {s : PS} : tupO (some ys) s = if ys.length ≤ lim then .ok (.v (.tup ys)) s else .bad := (rfl)
def lstO : Option (List PV) → PS → Res SV
  | some ys, s => .ok (.v (.lst ys)) s
  | none, _ => .bad
@[simp] theorem lstO_some {ys : List PV} {s : PS} : lstO (some ys) s = .ok (.v (.lst ys)) s := (rfl)
@[simp] theorem vs_nil : vs [] = some [] := (rfl)
@[simp] theorem vs_v {x : PV} {r : List SV} : vs (.v x :: r) = (vs r).map (x :: ·) := (rfl)
@[simp] theorem vs_map : ∀ {xs : List PV}, vs (xs.map .v) = some xs
  | [] => rfl
  | x :: r => by rw [List.map_cons, vs_v, vs_map]; rfl
@[simp] theorem newL_t {xs : List SV} {s : PS} : newL true xs s = if xs.length ≤ lim then lstO (vs xs) s else .bad := by
  unfold newL lstO
  split
  · rw [if_pos rfl]
    split <;> rename_i h <;> rw [h]
  · rfl
@[simp] theorem newL_f {xs : List SV} {s : PS} : newL false xs s = if xs.length ≤ lim then .ok (.ref s.length) (s ++ [.lst xs]) else .bad := (rfl)
def callO (C : Calls) : Option Nat → List SV → PS → Res SV
  | some d, args, s => C d args s
  | none, _, _ => .bad
@[simp] theorem callO_some {C : Calls} {d : Nat} {args : List SV} {s : PS} : callO C (some d) args s = C d args s := (rfl)
def kBl : Bool → PS → Res SV := fun k s => .ok (.v (.bl k)) s
@[simp] theorem kBl_ {k : Bool} {s : PS} : kBl k s = .ok (.v (.bl k)) s := (rfl)
def kStr : List Nat → PS → Res SV := fun t s => .ok (.v (.str t)) s
@[simp] theorem kStr_ {t : List Nat} {s : PS} : kStr t s = .ok (.v (.str t)) s := (rfl)
def toB : SV → PS → Res Bool := fun r s => match r with
  | .v (.bl k) => .ok k s
  | _ => .bad
@[simp] theorem toB_ {k : Bool} {s : PS} : toB (.v (.bl k)) s = .ok k s := (rfl)
def toBl : SV → PS → Res SV := fun r s => match r with
  | .v (.bl k) => .ok (.v (.bl k)) s
  | _ => .bad
@[simp] theorem toBl_ {k : Bool} {s : PS} : toBl (.v (.bl k)) s = .ok (.v (.bl k)) s := (rfl)
def toSt : SV → PS → Res SV := fun r s => match r with
  | .v (.str x) => .ok (.v (.str x)) s
  | _ => .bad
@[simp] theorem toSt_ {x : List Nat} {s : PS} : toSt (.v (.str x)) s = .ok (.v (.str x)) s := (rfl)

section
variable (T : Tab) (C : Calls)
def kNeg : SV → PS → Res SV := fun x s1 => match x with
    | .v (.int i) => .ok (.v (.int (-i))) s1
    | .v (.ins c _) => match methOf T c aNeg with
      | some d => C d [x] s1
      | none => .bad
    | _ => .bad
def kOp2 (o : Op2) (x : SV) : SV → PS → Res SV := fun y s => bin2 T C o x y s
def kOp1 (o : Op2) (b : E) (σ : Sl) : SV → PS → Res SV := fun x s => (evE T C b σ s).bind (kOp2 T C o x)
def kCmp2 (o : Cm) (x : SV) : SV → PS → Res SV := fun y s => (cmp2 T C o x y s).bind kBl
def kCmp1 (o : Cm) (b : E) (σ : Sl) : SV → PS → Res SV := fun x s => (evE T C b σ s).bind (kCmp2 T C o x)
def kAnd2 (b : E) (σ : Sl) (x : SV) : Bool → PS → Res SV := fun k s => if k = true then evE T C b σ s else .ok x s
def kAnd1 (b : E) (σ : Sl) : SV → PS → Res SV := fun x s => (truthS T C x s).bind (kAnd2 T C b σ x)
def kOr2 (b : E) (σ : Sl) (x : SV) : Bool → PS → Res SV := fun k s => if k = true then .ok x s else evE T C b σ s
def kOr1 (b : E) (σ : Sl) : SV → PS → Res SV := fun x s => (truthS T C x s).bind (kOr2 T C b σ x)
def kNot2 : Bool → PS → Res SV := fun k s => .ok (.v (.bl (!k))) s
def kNot1 : SV → PS → Res SV := fun x s => (truthS T C x s).bind kNot2
def kIte (a b : E) (σ : Sl) : Bool → PS → Res SV := fun k s => if k = true then evE T C a σ s else evE T C b σ s
def kTup : List SV → PS → Res SV := fun xs s => tupO (vs xs) s
def kLst (fr : Bool) : List SV → PS → Res SV := fun xs s => newL fr xs s
def kIdx2 (x : SV) : SV → PS → Res SV := fun y s => idx2 x y s
def kIdx1 (i : E) (σ : Sl) : SV → PS → Res SV := fun x s => (evE T C i σ s).bind (kIdx2 x)
def kOI : SV → PS → Res (Option Int) := fun y s => match y with
        | .v (.int i) => .ok (some i) s
        | _ => .bad
def kSl3 (fr : Bool) (x : SV) (l : Option Int) : Option Int → PS → Res SV := fun h s => sl2 fr x l h s
def kSl2 (fr hh : Bool) (hi : E) (σ : Sl) (x : SV) : Option Int → PS → Res SV := fun l s => (if hh then (evE T C hi σ s).bind kOI else .ok none s).bind (kSl3 fr x l)
def kSl1 (fr hl hh : Bool) (lo hi : E) (σ : Sl) : SV → PS → Res SV := fun x s => (if hl then (evE T C lo σ s).bind kOI else .ok none s).bind (kSl2 T C fr hh hi σ x)
def kFld (f : Nat) : SV → PS → Res SV := fun x s => fld2 T C x f s
def kCall (d : Nat) : List SV → PS → Res SV := fun xs s => C d (dflt T d xs) s
def kMeth2 (d : Nat) (x : SV) : List SV → PS → Res SV := fun xs s => C d (dflt T d (x :: xs)) s
def methO (es : List E) (σ : Sl) (x : SV) : Option Nat → PS → Res SV
  | some d, s => (evEs T C es σ s).bind (kMeth2 T C d x)
  | none, _ => .bad
def kMeth1 (m : Nat) (es : List E) (σ : Sl) : SV → PS → Res SV := fun x s => methO T C es σ x ((clsOfV x s).bind fun c => methOf T c m) s
def kSm (c m : Nat) : List SV → PS → Res SV := fun xs s => match (T.cls[c]?).bind fun i => lookN i.stats m with
    | some d => C d (dflt T d xs) s
    | none => .bad
def kNew (c : Nat) : List SV → PS → Res SV := fun xs s => make T C c xs s
def newKO (c : Nat) : Option (List SV) → PS → Res SV
  | some ys, s => makeF T C c ys s
  | none, _ => .bad
def kNewK (c : Nat) (p : List Nat) : List SV → PS → Res SV := fun xs s => newKO T C c (Vm.putAt xs p) s
def callKO (d : Nat) : Option (List SV) → PS → Res SV
  | some ys, s => C d ys s
  | none, _ => .bad
def kCallK (d : Nat) (p : List Nat) : List SV → PS → Res SV := fun xs s => callKO C d (Vm.putAt xs p) s
def kBi (b : Bi) (fr : Bool) : List SV → PS → Res SV := fun xs s => bi2 T C b fr xs s
def kBm2 (b : Bm) (fr : Bool) (x : SV) : List SV → PS → Res SV := fun xs s => bm2 b fr x xs s
def kBm1 (b : Bm) (fr : Bool) (es : List E) (σ : Sl) : SV → PS → Res SV := fun x s => if bmOk b x s = true then (evEs T C es σ s).bind (kBm2 b fr x) else .bad
def kF2 (r : List E) (acc : List Nat) (σ : Sl) : Option (List Nat) → PS → Res (List Nat)
  | some t, s => if (acc ++ t).length ≤ lim then evF T C r (acc ++ t) σ s else .bad
  | none, _ => .bad
def kF1 (r : List E) (acc : List Nat) (σ : Sl) : SV → PS → Res (List Nat) := fun x s => kF2 T C r acc σ (fmt1 x) s
def kRng : List SV → PS → Res SV := fun xs s => match xs with
    | [.v (.int n)] => if -(2 ^ 62) ≤ n ∧ n < 2 ^ 62 then .ok (.v (.lst (rngL 0 n.toNat))) s else .bad
    | [.v (.int m), .v (.int n)] => if -(2 ^ 62) ≤ m ∧ m < 2 ^ 62 ∧ -(2 ^ 62) ≤ n ∧ n < 2 ^ 62 then .ok (.v (.lst (rngL m (n - m).toNat))) s else .bad
    | _ => .bad
def kEs2 (x : SV) : List SV → PS → Res (List SV) := fun xs s => .ok (x :: xs) s
def kEs1 (r : List E) (σ : Sl) : SV → PS → Res (List SV) := fun x s => (evEs T C r σ s).bind (kEs2 x)
def kTr : SV → PS → Res Bool := fun x s => truthS T C x s
def kBa (b : B) (σ : Sl) : Bool → PS → Res Bool := fun k s => if k = true then evB T C b σ s else .ok false s
def kBo (b : B) (σ : Sl) : Bool → PS → Res Bool := fun k s => if k = true then .ok true s else evB T C b σ s
def kBn : Bool → PS → Res Bool := fun k s => .ok (!k) s
def kBc2 (o : Cm) (x : SV) : SV → PS → Res Bool := fun y s => cmp2 T C o x y s
def kBc1 (o : Cm) (b : E) (σ : Sl) : SV → PS → Res Bool := fun x s => (evE T C b σ s).bind (kBc2 T C o x)
-- statements
variable (n0 : Nat)
def kSet (i : Nat) (σ : Sl) : SV → PS → RS := fun x s => .go .nx (σ.set i (some x)) s
def setO : Option Sl → PS → RS
  | some σ, s => .go .nx σ s
  | none, _ => .bad
def kTset (is : List Nat) (σ : Sl) : SV → PS → RS := fun x s => match x with
    | .v (.tup xs) => setO (setMany is xs σ) s
    | _ => .bad
def kPar2 (i j : Nat) (σ : Sl) (x : SV) : SV → PS → RS := fun y s => .go .nx ((σ.set i (some x)).set j (some y)) s
def kPar1 (i j : Nat) (b : E) (σ : Sl) : SV → PS → RS := fun x s => ofE (evE T C b σ s) σ (kPar2 i j σ x)
def stO (σ : Sl) : Option PS → RS
  | some s => .go .nx σ s
  | none => .bad
def kSx3 (σ : Sl) (x y : SV) : SV → PS → RS := fun z s => stO σ (setIx y z x s)
def kSx2 (i : E) (σ : Sl) (x : SV) : SV → PS → RS := fun y s => ofE (evE T C i σ s) σ (kSx3 σ x y)
def kSx1 (o i : E) (σ : Sl) : SV → PS → RS := fun x s => ofE (evE T C o σ s) σ (kSx2 T C i σ x)
def kSf2 (f : Nat) (σ : Sl) (x : SV) : SV → PS → RS := fun y s => stO σ (setFld T y f x s)
def kSf1 (o : E) (f : Nat) (σ : Sl) : SV → PS → RS := fun x s => ofE (evE T C o σ s) σ (kSf2 T f σ x)
def kEx (σ : Sl) : SV → PS → RS := fun _ s => .go .nx σ s
def kIf (a b : List S) (σ : Sl) : Bool → PS → RS := fun k s => if k = true then exSs T C n0 a σ s else exSs T C n0 b σ s
def kBody (body : List S) : Sl → PS → RS := fun σ s => exSs T C n0 body σ s
def loopO (t : Tg) (body : List S) (σ : Sl) : Option (List PV) → PS → RS
  | some xs, s => forL t (kBody T C n0 body) xs σ s
  | none, _ => .bad
def kLoop (t : Tg) (body : List S) (σ : Sl) : SV → PS → RS := fun x s => loopO T C n0 t body σ (itemsOf x) s
def kAug2 (i : Nat) (σ : Sl) : SV → PS → RS := fun z s => .go .nx (σ.set i (some z)) s
def kAug1 (i : Nat) (o : Op2) (σ : Sl) (x : SV) : SV → PS → RS := fun y s => ofE (aug2 o x y s) σ (kAug2 i σ)
def augO (i : Nat) (o : Op2) (e : E) (σ : Sl) : Option (Option SV) → PS → RS
  | some (some x), s => ofE (evE T C e σ s) σ (kAug1 i o σ x)
  | _, _ => .bad
def kCond (c : B) : Sl → PS → Res Bool := fun σ s => evB T C c σ s
def kRet (σ : Sl) : SV → PS → RS := fun x s => .go (.rt x) σ s
def raiseO (c : Nat) (σ : Sl) : Option (List PV) → PS → RS
  | some ys, s => .ex ⟨c, ys⟩ σ s
  | none, _ => .bad
def kRaise (c : Nat) (σ : Sl) : List SV → PS → RS := fun xs s => raiseO c σ (vs xs) s
def excO (n i : Nat) (σ : Sl) (s : PS) : Option PV → RS
  | some x => .go .nx ((σ.set i (some (.v x))).set n none) s
  | none => .bad
def tryO (c n i : Nat) (h : HE) : RS → RS
  | .ex e σ1 s1 => if xsub T e.c c = true then (if n < σ1.length then excO n i σ1 s1 (evH T e h) else .bad) else .ex e σ1 s1
  | r => r
def kSeq (r : List S) : Sl → PS → RS := fun σ s => exSs T C n0 r σ s
end

/-! ### what they do -/
section
variable {T : Tab} {C : Calls} {n0 : Nat} {σ : Sl} {s : PS} {x y z : SV} {xs : List SV} {k : Bool}
@[simp] theorem kNeg_int {i : Int} : kNeg T C (.v (.int i)) s = .ok (.v (.int (-i))) s := (rfl)
@[simp] theorem kNeg_ins {c : Nat} {fs : List PV} : kNeg T C (.v (.ins c fs)) s = callO C (methOf T c aNeg) [.v (.ins c fs)] s := by
  show (match methOf T c aNeg with
      | some d => C d [.v (.ins c fs)] s
      | none => .bad) = _
  cases methOf T c aNeg <;> rfl
@[simp] theorem kOp2_ {o : Op2} : kOp2 T C o x y s = bin2 T C o x y s := (rfl)
@[simp] theorem kOp1_ {o : Op2} {b : E} : kOp1 T C o b σ x s = (evE T C b σ s).bind (kOp2 T C o x) := (rfl)
@[simp] theorem kCmp2_ {o : Cm} : kCmp2 T C o x y s = (cmp2 T C o x y s).bind kBl := (rfl)
@[simp] theorem kCmp1_ {o : Cm} {b : E} : kCmp1 T C o b σ x s = (evE T C b σ s).bind (kCmp2 T C o x) := (rfl)
@[simp] theorem kAnd2_ {b : E} : kAnd2 T C b σ x k s = if k = true then evE T C b σ s else .ok x s := (rfl)
@[simp] theorem kAnd1_ {b : E} : kAnd1 T C b σ x s = (truthS T C x s).bind (kAnd2 T C b σ x) := (rfl)
@[simp] theorem kOr2_ {b : E} : kOr2 T C b σ x k s = if k = true then .ok x s else evE T C b σ s := (rfl)
@[simp] theorem kOr1_ {b : E} : kOr1 T C b σ x s = (truthS T C x s).bind (kOr2 T C b σ x) := (rfl)
@[simp] theorem kNot2_ : kNot2 k s = .ok (.v (.bl (!k))) s := (rfl)
@[simp] theorem kNot1_ : kNot1 T C x s = (truthS T C x s).bind kNot2 := (rfl)
@[simp] theorem kIte_ {a b : E} : kIte T C a b σ k s = if k = true then evE T C a σ s else evE T C b σ s := (rfl)
@[simp] theorem kTup_ : kTup xs s = tupO (vs xs) s := (rfl)
@[simp] theorem kLst_ {fr : Bool} : kLst fr xs s = newL fr xs s := (rfl)
@[simp] theorem kIdx2_ : kIdx2 x y s = idx2 x y s := (rfl)
@[simp] theorem kIdx1_ {i : E} : kIdx1 T C i σ x s = (evE T C i σ s).bind (kIdx2 x) := (rfl)
@[simp] theorem kOI_ {i : Int} : kOI (.v (.int i)) s = .ok (some i) s := (rfl)
@[simp] theorem kSl3_ {fr : Bool} {l h : Option Int} : kSl3 fr x l h s = sl2 fr x l h s := (rfl)
@[simp] theorem kSl2_t {fr : Bool} {hi : E} {l : Option Int} : kSl2 T C fr true hi σ x l s = ((evE T C hi σ s).bind kOI).bind (kSl3 fr x l) := (rfl)
@[simp] theorem kSl2_f {fr : Bool} {hi : E} {l : Option Int} : kSl2 T C fr false hi σ x l s = sl2 fr x l none s := (rfl)
@[simp] theorem kSl1_t {fr hh : Bool} {lo hi : E} : kSl1 T C fr true hh lo hi σ x s = ((evE T C lo σ s).bind kOI).bind (kSl2 T C fr hh hi σ x) := (rfl)
@[simp] theorem kSl1_f {fr hh : Bool} {lo hi : E} : kSl1 T C fr false hh lo hi σ x s = kSl2 T C fr hh hi σ x none s := (rfl)
@[simp] theorem kFld_ {f : Nat} : kFld T C f x s = fld2 T C x f s := (rfl)
@[simp] theorem kCall_ {d : Nat} : kCall T C d xs s = C d (dflt T d xs) s := (rfl)
@[simp] theorem kMeth2_ {d : Nat} : kMeth2 T C d x xs s = C d (dflt T d (x :: xs)) s := (rfl)
@[simp] theorem methO_ {d : Nat} {es : List E} : methO T C es σ x (some d) s = (evEs T C es σ s).bind (kMeth2 T C d x) := (rfl)
@[simp] theorem kMeth1_ {m c : Nat} {es : List E} {fs : List PV} : kMeth1 T C m es σ (.v (.ins c fs)) s = methO T C es σ (.v (.ins c fs)) (methOf T c m) s := (rfl)
theorem kMeth1_ref {m c n : Nat} {es : List E} {fs : List SV} (h : s[n]? = some (.ins c fs)) : kMeth1 T C m es σ (.ref n) s = methO T C es σ (.ref n) (methOf T c m) s := by
  show methO T C es σ (.ref n) ((clsOfV (.ref n) s).bind fun c => methOf T c m) s = _
  unfold clsOfV insOf
  dsimp only
  rw [h]
  rfl
@[simp] theorem kNew_ {c : Nat} : kNew T C c xs s = make T C c xs s := (rfl)
@[simp] theorem kNewK_ {c : Nat} {p : List Nat} : kNewK T C c p xs s = newKO T C c (Vm.putAt xs p) s := (rfl)
@[simp] theorem newKO_ {c : Nat} {ys : List SV} : newKO T C c (some ys) s = makeF T C c ys s := (rfl)
@[simp] theorem kCallK_ {c : Nat} {p : List Nat} : kCallK C c p xs s = callKO C c (Vm.putAt xs p) s := (rfl)
@[simp] theorem callKO_ {c : Nat} {ys : List SV} : callKO C c (some ys) s = C c ys s := (rfl)
@[simp] theorem kBi_ {b : Bi} {fr : Bool} : kBi T C b fr xs s = bi2 T C b fr xs s := (rfl)
@[simp] theorem kBm2_ {b : Bm} {fr : Bool} : kBm2 b fr x xs s = bm2 b fr x xs s := (rfl)
@[simp] theorem kBm1_ {b : Bm} {fr : Bool} {es : List E} : kBm1 T C b fr es σ x s = if bmOk b x s = true then (evEs T C es σ s).bind (kBm2 b fr x) else .bad := (rfl)
@[simp] theorem kF2_ {r : List E} {acc t : List Nat} : kF2 T C r acc σ (some t) s = if (acc ++ t).length ≤ lim then evF T C r (acc ++ t) σ s else .bad := (rfl)
@[simp] theorem kF1_ {r : List E} {acc : List Nat} : kF1 T C r acc σ x s = kF2 T C r acc σ (fmt1 x) s := (rfl)
theorem kRng_1 {n : Int} : kRng [.v (.int n)] s = if -(2 ^ 62) ≤ n ∧ n < 2 ^ 62 then .ok (.v (.lst (rngL 0 n.toNat))) s else .bad := (rfl)
theorem kRng_n {m : Nat} (h : m ≤ 1000000) : kRng [.v (.int (m : Int))] s = .ok (.v (.lst (rngL 0 m))) s := by
  rw [kRng_1, if_pos ⟨by omega, by omega⟩, Int.toNat_natCast]
@[simp] theorem kEs2_ : kEs2 x xs s = .ok (x :: xs) s := (rfl)
@[simp] theorem kEs1_ {r : List E} : kEs1 T C r σ x s = (evEs T C r σ s).bind (kEs2 x) := (rfl)
@[simp] theorem kTr_ : kTr T C x s = truthS T C x s := (rfl)
@[simp] theorem kBa_ {b : B} : kBa T C b σ k s = if k = true then evB T C b σ s else .ok false s := (rfl)
@[simp] theorem kBo_ {b : B} : kBo T C b σ k s = if k = true then .ok true s else evB T C b σ s := (rfl)
@[simp] theorem kBn_ : kBn k s = .ok (!k) s := (rfl)
@[simp] theorem kBc2_ {o : Cm} : kBc2 T C o x y s = cmp2 T C o x y s := (rfl)
@[simp] theorem kBc1_ {o : Cm} {b : E} : kBc1 T C o b σ x s = (evE T C b σ s).bind (kBc2 T C o x) := (rfl)
@[simp] theorem kSet_ {i : Nat} : kSet i σ x s = .go .nx (σ.set i (some x)) s := (rfl)
@[simp] theorem setO_ : setO (some σ) s = .go .nx σ s := (rfl)
@[simp] theorem kTset_ {is : List Nat} {ys : List PV} : kTset is σ (.v (.tup ys)) s = setO (setMany is ys σ) s := (rfl)
@[simp] theorem sm_nil : setMany [] [] σ = some σ := (rfl)
@[simp] theorem sm_cons {i : Nat} {is : List Nat} {y : PV} {ys : List PV} : setMany (i :: is) (y :: ys) σ = setMany is ys (σ.set i (some (.v y))) := (rfl)
@[simp] theorem kPar2_ {i j : Nat} : kPar2 i j σ x y s = .go .nx ((σ.set i (some x)).set j (some y)) s := (rfl)
@[simp] theorem kPar1_ {i j : Nat} {b : E} : kPar1 T C i j b σ x s = ofE (evE T C b σ s) σ (kPar2 i j σ x) := (rfl)
@[simp] theorem stO_ {s : PS} : stO σ (some s) = .go .nx σ s := (rfl)
@[simp] theorem kSx3_ : kSx3 σ x y z s = stO σ (setIx y z x s) := (rfl)
@[simp] theorem kSx2_ {i : E} : kSx2 T C i σ x y s = ofE (evE T C i σ s) σ (kSx3 σ x y) := (rfl)
@[simp] theorem kSx1_ {o i : E} : kSx1 T C o i σ x s = ofE (evE T C o σ s) σ (kSx2 T C i σ x) := (rfl)
@[simp] theorem kSf2_ {f : Nat} : kSf2 T f σ x y s = stO σ (setFld T y f x s) := (rfl)
@[simp] theorem kSf1_ {f : Nat} {o : E} : kSf1 T C o f σ x s = ofE (evE T C o σ s) σ (kSf2 T f σ x) := (rfl)
@[simp] theorem kEx_ : kEx σ x s = .go .nx σ s := (rfl)
@[simp] theorem kIf_ {a b : List S} : kIf T C n0 a b σ k s = if k = true then exSs T C n0 a σ s else exSs T C n0 b σ s := (rfl)
@[simp] theorem kBody_ {b : List S} : kBody T C n0 b σ s = exSs T C n0 b σ s := (rfl)
@[simp] theorem kLoop_ {t : Tg} {b : List S} : kLoop T C n0 t b σ x s = loopO T C n0 t b σ (itemsOf x) s := (rfl)
@[simp] theorem loopO_ {t : Tg} {b : List S} {ys : List PV} : loopO T C n0 t b σ (some ys) s = forL t (kBody T C n0 b) ys σ s := (rfl)
@[simp] theorem it_tup {ys : List PV} : itemsOf (.v (.tup ys)) = some ys := (rfl)
@[simp] theorem it_lst {ys : List PV} : itemsOf (.v (.lst ys)) = some ys := (rfl)
@[simp] theorem it_clst {ys : List PV} : itemsOf (.v (.clst ys)) = some ys := (rfl)
@[simp] theorem it_str {w : List Nat} : itemsOf (.v (.str w)) = some (w.map fun c => .str [c]) := (rfl)
@[simp] theorem kAug2_ {i : Nat} : kAug2 i σ z s = .go .nx (σ.set i (some z)) s := (rfl)
@[simp] theorem kAug1_ {i : Nat} {o : Op2} : kAug1 i o σ x y s = ofE (aug2 o x y s) σ (kAug2 i σ) := (rfl)
@[simp] theorem augO_ {i : Nat} {o : Op2} {e : E} : augO T C i o e σ (some (some x)) s = ofE (evE T C e σ s) σ (kAug1 i o σ x) := (rfl)
@[simp] theorem kCond_ {c : B} : kCond T C c σ s = evB T C c σ s := (rfl)
@[simp] theorem kRet_ : kRet σ x s = .go (.rt x) σ s := (rfl)
@[simp] theorem kRaise_ {c : Nat} : kRaise c σ xs s = raiseO c σ (vs xs) s := (rfl)
@[simp] theorem raiseO_ {c : Nat} {ys : List PV} : raiseO c σ (some ys) s = .ex ⟨c, ys⟩ σ s := (rfl)
@[simp] theorem excO_ {n i : Nat} {v : PV} : excO n i σ s (some v) = .go .nx ((σ.set i (some (.v v))).set n none) s := (rfl)
@[simp] theorem tryO_ex {c n i : Nat} {h : HE} {e : PX} : tryO T c n i h (.ex e σ s) = if xsub T e.c c = true then (if n < σ.length then excO n i σ s (evH T e h) else .bad) else .ex e σ s := (rfl)
@[simp] theorem tryO_go {c n i : Nat} {h : HE} {f : Fl} : tryO T c n i h (.go f σ s) = .go f σ s := (rfl)
@[simp] theorem tryO_ite {c n i : Nat} {h : HE} {p : Prop} [Decidable p] {a b : RS} : tryO T c n i h (if p then a else b) = if p then tryO T c n i h a else tryO T c n i h b := by split <;> rfl
@[simp] theorem kSeq_ {r : List S} : kSeq T C n0 r σ s = exSs T C n0 r σ s := (rfl)

/-! ### expressions -/
@[simp] theorem e_var {i : Nat} : evE T C (.var i) σ s = gv σ[i]? s := by
  rw [evE]
  rcases σ[i]? with _ | _ | x <;> rfl
@[simp] theorem e_cst {v : PV} : evE T C (.cst v) σ s = .ok (.v v) s := by rw [evE]
@[simp] theorem e_neg {a : E} : evE T C (.neg a) σ s = (evE T C a σ s).bind (kNeg T C) := by rw [evE]; rfl
@[simp] theorem e_op {o : Op2} {a b : E} : evE T C (.op o a b) σ s = (evE T C a σ s).bind (kOp1 T C o b σ) := by rw [evE]; rfl
@[simp] theorem e_cmp {o : Cm} {a b : E} : evE T C (.cmp o a b) σ s = (evE T C a σ s).bind (kCmp1 T C o b σ) := by rw [evE]; rfl
@[simp] theorem e_and {a b : E} : evE T C (.and a b) σ s = (evE T C a σ s).bind (kAnd1 T C b σ) := by rw [evE]; rfl
@[simp] theorem e_or {a b : E} : evE T C (.or a b) σ s = (evE T C a σ s).bind (kOr1 T C b σ) := by rw [evE]; rfl
@[simp] theorem e_not {a : E} : evE T C (.not a) σ s = (evE T C a σ s).bind (kNot1 T C) := by rw [evE]; rfl
@[simp] theorem e_ite {c : B} {a b : E} : evE T C (.ite c a b) σ s = (evB T C c σ s).bind (kIte T C a b σ) := by rw [evE]; rfl
@[simp] theorem e_tup {es : List E} : evE T C (.tup es) σ s = (evEs T C es σ s).bind kTup := by
  rw [evE]
  congr 1
  funext xs s1
  rw [kTup_]
  cases vs xs <;> rfl
@[simp] theorem e_lst {fr : Bool} {es : List E} : evE T C (.lst fr es) σ s = (evEs T C es σ s).bind (kLst fr) := by rw [evE]; rfl
@[simp] theorem e_edct : evE T C .edct σ s = .ok (.v (.dct [] [])) s := by rw [evE]
@[simp] theorem e_idx {a i : E} : evE T C (.idx a i) σ s = (evE T C a σ s).bind (kIdx1 T C i σ) := by rw [evE]; rfl
@[simp] theorem e_sl {fr hl hh : Bool} {a lo hi : E} : evE T C (.sl fr a hl hh lo hi) σ s = (evE T C a σ s).bind (kSl1 T C fr hl hh lo hi σ) := by rw [evE]; rfl
@[simp] theorem e_fld {a : E} {f : Nat} : evE T C (.fld a f) σ s = (evE T C a σ s).bind (kFld T C f) := by rw [evE]; rfl
@[simp] theorem e_call {d : Nat} {es : List E} : evE T C (.call d es) σ s = (evEs T C es σ s).bind (kCall T C d) := by rw [evE]; rfl
@[simp] theorem e_meth {a : E} {m : Nat} {es : List E} : evE T C (.meth a m es) σ s = (evE T C a σ s).bind (kMeth1 T C m es σ) := by
  rw [evE]
  congr 1
  funext x s1
  unfold kMeth1
  cases ((clsOfV x s1).bind fun c => methOf T c m) <;> rfl
@[simp] theorem e_smeth {c m : Nat} {es : List E} : evE T C (.smeth c m es) σ s = (evEs T C es σ s).bind (kSm T C c m) := by rw [evE]; rfl
@[simp] theorem e_new {c : Nat} {es : List E} : evE T C (.new c es) σ s = (evEs T C es σ s).bind (kNew T C c) := by rw [evE]; rfl
@[simp] theorem e_newK {c : Nat} {es : List E} {p : List Nat} : evE T C (.newK c es p) σ s = (evEs T C es σ s).bind (kNewK T C c p) := by
  rw [evE]
  congr 1
  funext x s1
  rw [kNewK_]
  cases Vm.putAt x p <;> rfl
@[simp] theorem e_callK {d : Nat} {es : List E} {p : List Nat} : evE T C (.callK d es p) σ s = (evEs T C es σ s).bind (kCallK C d p) := by
  rw [evE]
  congr 1
  funext x s1
  rw [kCallK_]
  cases Vm.putAt x p <;> rfl
@[simp] theorem e_bi {b : Bi} {fr : Bool} {es : List E} : evE T C (.bi b fr es) σ s = (evEs T C es σ s).bind (kBi T C b fr) := by rw [evE]; rfl
@[simp] theorem e_bm {b : Bm} {fr : Bool} {a : E} {es : List E} : evE T C (.bm b fr a es) σ s = (evE T C a σ s).bind (kBm1 T C b fr es σ) := by rw [evE]; rfl
@[simp] theorem e_fmt {es : List E} : evE T C (.fmt es) σ s = (evF T C es [] σ s).bind kStr := by rw [evE]; rfl
@[simp] theorem e_rng {es : List E} : evE T C (.rng es) σ s = (evEs T C es σ s).bind kRng := by rw [evE]; rfl
@[simp] theorem es_nil : evEs T C [] σ s = .ok [] s := by rw [evEs]
@[simp] theorem es_cons {e : E} {r : List E} : evEs T C (e :: r) σ s = (evE T C e σ s).bind (kEs1 T C r σ) := by rw [evEs]; rfl
@[simp] theorem ef_nil {acc : List Nat} : evF T C [] acc σ s = .ok acc s := by rw [evF]
@[simp] theorem ef_cons {e : E} {r : List E} {acc : List Nat} : evF T C (e :: r) acc σ s = (evE T C e σ s).bind (kF1 T C r acc σ) := by
  rw [evF]
  congr 1
  funext x s1
  rw [kF1_]
  cases fmt1 x <;> rfl
@[simp] theorem b_e {a : E} : evB T C (.e a) σ s = (evE T C a σ s).bind (kTr T C) := by rw [evB]; rfl
@[simp] theorem b_and {a b : B} : evB T C (.and a b) σ s = (evB T C a σ s).bind (kBa T C b σ) := by rw [evB]; rfl
@[simp] theorem b_or {a b : B} : evB T C (.or a b) σ s = (evB T C a σ s).bind (kBo T C b σ) := by rw [evB]; rfl
@[simp] theorem b_not {a : B} : evB T C (.not a) σ s = (evB T C a σ s).bind kBn := by rw [evB]; rfl
@[simp] theorem b_cmp {o : Cm} {a b : E} : evB T C (.cmp o a b) σ s = (evE T C a σ s).bind (kBc1 T C o b σ) := by rw [evB]; rfl
@[simp] theorem cs_nil : evCs T C [] σ s = .ok true s := by rw [evCs]
theorem cs_one {b : B} : evCs T C [b] σ s = (evB T C b σ s).bind (fun k s1 => .ok k s1) := by
  rw [evCs]
  congr 1
  funext k s1
  cases k <;> simp
/-! ### statements -/
@[simp] theorem s_nil : exSs T C n0 [] σ s = .go .nx σ s := by rw [exSs]
@[simp] theorem s_cons {a : S} {r : List S} : exSs T C n0 (a :: r) σ s = (exS T C n0 a σ s).seq (kSeq T C n0 r) := by rw [exSs]; rfl
@[simp] theorem s_set {i : Nat} {e : E} : exS T C n0 (.set i e) σ s = ofE (evE T C e σ s) σ (kSet i σ) := by rw [exS]; rfl
@[simp] theorem s_tset {is : List Nat} {e : E} : exS T C n0 (.tset is e) σ s = ofE (evE T C e σ s) σ (kTset is σ) := by
  rw [exS]
  congr 1
  funext x s1
  rcases x with x | n
  · cases x <;> try rfl
    rename_i xs
    rw [kTset_]
    dsimp only
    cases setMany is xs σ <;> rfl
  · rfl
@[simp] theorem s_par {i j : Nat} {a b : E} : exS T C n0 (.par i j a b) σ s = ofE (evE T C a σ s) σ (kPar1 T C i j b σ) := by rw [exS]; rfl
@[simp] theorem s_setix {o i e : E} : exS T C n0 (.setix o i e) σ s = ofE (evE T C e σ s) σ (kSx1 T C o i σ) := by
  rw [exS]
  congr 1
@[simp] theorem s_setfld {o e : E} {f : Nat} : exS T C n0 (.setfld o f e) σ s = ofE (evE T C e σ s) σ (kSf1 T C o f σ) := by
  rw [exS]
  congr 1
@[simp] theorem s_ex {e : E} : exS T C n0 (.ex e) σ s = ofE (evE T C e σ s) σ (kEx σ) := by rw [exS]; rfl
@[simp] theorem s_ite {c : B} {a b : List S} : exS T C n0 (.ite c a b) σ s = ofE (evB T C c σ s) σ (kIf T C n0 a b σ) := by rw [exS]; rfl
@[simp] theorem s_loop {t : Tg} {it : E} {b : List S} : exS T C n0 (.loop t it b) σ s = ofE (evE T C it σ s) σ (kLoop T C n0 t b σ) := by
  rw [exS]
  congr 1
  funext x s1
  rw [kLoop_]
  cases itemsOf x <;> rfl
@[simp] theorem s_aug {i : Nat} {o : Op2} {e : E} : exS T C n0 (.aug i o e) σ s = augO T C i o e σ σ[i]? s := by
  rw [exS]
  rcases σ[i]? with _ | _ | x <;> rfl
@[simp] theorem s_wh {n : Nat} {c : B} {b : List S} : exS T C n0 (.wh n c b) σ s = whL (kCond T C c) (kBody T C n0 b) n σ s := by rw [exS]; rfl
@[simp] theorem s_brk : exS T C n0 .brk σ s = .go .brk σ s := by rw [exS]
@[simp] theorem s_cont : exS T C n0 .cont σ s = .go .ct σ s := by rw [exS]
@[simp] theorem s_pass : exS T C n0 .pass σ s = .go .nx σ s := by rw [exS]
@[simp] theorem s_ret {e : E} : exS T C n0 (.ret e) σ s = ofE (evE T C e σ s) σ (kRet σ) := by rw [exS]; rfl
@[simp] theorem s_retN : exS T C n0 .retN σ s = .go (.rt (.v .non)) σ s := by rw [exS]
@[simp] theorem s_raise {c : Nat} {es : List E} : exS T C n0 (.raise c es) σ s = ofE (evEs T C es σ s) σ (kRaise c σ) := by
  rw [exS]
  congr 1
  funext xs s1
  rw [kRaise_]
  cases vs xs <;> rfl
@[simp] theorem s_tryx {b : List S} {c n i : Nat} {h : HE} : exS T C n0 (.tryx b c n i h) σ s = tryO T c n i h (exSs T C n0 b σ s) := by
  rw [exS]
  cases exSs T C n0 b σ s with
  | bad => rfl
  | go f _ _ => rfl
  | ex e σ1 s1 =>
    rw [tryO_ex]
    dsimp only
    split
    · split
      · cases evH T e h <;> rfl
      · rfl
    · rfl
@[simp] theorem s_frz {i : Nat} : exS T C n0 (.frz i) σ s = frzS i n0 σ s := by rw [exS]
end

/-! ### operations -/
section
variable {T : Tab} {C : Calls} {s : PS} {i j : Int} {x y : List Nat} {xs ys : List PV} {v u : PV} {fr : Bool} {k : Bool}
@[simp] theorem bin_add : bin2 T C .add (.v (.int i)) (.v (.int j)) s = .ok (.v (.int (i + j))) s := (rfl)
@[simp] theorem bin_sub : bin2 T C .sub (.v (.int i)) (.v (.int j)) s = .ok (.v (.int (i - j))) s := (rfl)
theorem bin_mul (h : log2i i + log2i j < 1000000) : bin2 T C .mul (.v (.int i)) (.v (.int j)) s = .ok (.v (.int (i * j))) s := if_pos h
theorem bin_fdiv (h : j ≠ 0) (h2 : log2i j < 9000) : bin2 T C .fdiv (.v (.int i)) (.v (.int j)) s = .ok (.v (.int (i.fdiv j))) s := if_pos ⟨h, h2⟩
theorem bin_mod (h : 0 < j) : bin2 T C .mod (.v (.int i)) (.v (.int j)) s = .ok (.v (.int (i % j))) s := if_pos h
theorem bin_pow (h : 0 ≤ j) (h1 : j ≤ 1000000) (h2 : i.natAbs < 2 ^ 64) : bin2 T C .pow (.v (.int i)) (.v (.int j)) s = .ok (.v (.int (i ^ j.toNat))) s := if_pos ⟨h, h1, h2⟩
theorem bin_cat (h : x.length + y.length ≤ lim) : bin2 T C .add (.v (.str x)) (.v (.str y)) s = .ok (.v (.str (x ++ y))) s := if_pos h
theorem bin_rep (h : -(2 ^ 62) ≤ i) (h1 : i < 2 ^ 62) (h2 : x.length * i.toNat ≤ lim) : bin2 T C .mul (.v (.str x)) (.v (.int i)) s = .ok (.v (.str (List.replicate i.toNat x).flatten)) s := if_pos ⟨h, h1, h2⟩
theorem bin_lst (h : xs.length + ys.length ≤ lim) : bin2 T C .add (.v (.lst xs)) (.v (.lst ys)) s = .ok (.v (.lst (xs ++ ys))) s := if_pos h
theorem bin_own {o : Op2} {c : Nat} {fs : List PV} (h : okR c v = true) : bin2 T C o (.v (.ins c fs)) (.v v) s = callO C ((opA o).bind (methOf T c)) [.v (.ins c fs), .v v] s := by
  show (if okR c v = true then (match (opA o).bind (methOf T c) with
    | some d => C d [SV.v (PV.ins c fs), SV.v v] s
    | none => Res.bad) else Res.bad) = _
  rw [if_pos h]
  cases (opA o).bind (methOf T c) <;> rfl
@[simp] theorem opA_add : opA .add = some aAdd := (rfl)
@[simp] theorem opA_sub : opA .sub = some aSub := (rfl)
@[simp] theorem opA_mul : opA .mul = some aMul := (rfl)
def eqO : Option Bool → PS → Res Bool
  | some k, s => Res.ok k s
  | none, _ => Res.bad
@[simp] theorem eqO_some : eqO (some k) s = .ok k s := (rfl)
theorem cmp_eq (h : ∀ c fs, v ≠ .ins c fs) : cmp2 T C .eq (.v v) (.v u) s = eqO (eqD v u) s := by
  show eq2 T C (.v v) (.v u) s = _
  cases v <;> first | exact absurd rfl (h _ _) | (unfold eq2; dsimp only; cases eqD _ u <;> rfl)
theorem cmp_own {c : Nat} {fs : List PV} (h : okR c u = true) : cmp2 T C .eq (.v (.ins c fs)) (.v u) s = (callO C (methOf T c aEq) [.v (.ins c fs), .v u] s).bind toB := by
  show eq2 T C (.v (.ins c fs)) (.v u) s = _
  unfold eq2
  dsimp only
  rw [if_pos h]
  cases methOf T c aEq <;> rfl
theorem cmp_ne : cmp2 T C .ne (.v v) (.v u) s = eqO ((eqD v u).map (!·)) s := by
  show (match eqD v u with
      | some k => Res.ok (!k) s
      | none => Res.bad) = _
  cases eqD v u <;> rfl
def isNon : PV → Bool
  | .non => true
  | _ => false
@[simp] theorem cmp_is : cmp2 T C .is (.v v) (.v .non) s = .ok (isNon v) s := by cases v <;> rfl
@[simp] theorem cmp_isnot : cmp2 T C .isnot (.v v) (.v .non) s = .ok (!isNon v) s := by cases v <;> rfl
@[simp] theorem cmp_lt : cmp2 T C .lt (.v (.int i)) (.v (.int j)) s = .ok (decide (i < j)) s := (rfl)
@[simp] theorem cmp_le : cmp2 T C .le (.v (.int i)) (.v (.int j)) s = .ok (decide (i ≤ j)) s := (rfl)
@[simp] theorem cmp_gt : cmp2 T C .gt (.v (.int i)) (.v (.int j)) s = .ok (decide (j < i)) s := (rfl)
@[simp] theorem cmp_ge : cmp2 T C .ge (.v (.int i)) (.v (.int j)) s = .ok (decide (j ≤ i)) s := (rfl)
theorem cmp_inl (h : flat v = true) (h2 : ys.all flat = true) : cmp2 T C .inn (.v v) (.v (.lst ys)) s = .ok (ys.any fun y => eqF y v) s := by
  show (if (flat v && ys.all flat) = true then _ else _) = _
  rw [if_pos (by rw [h, h2]; rfl)]
@[simp] theorem cmp_ins {c : Nat} : cmp2 T C .inn (.v (.str [c])) (.v (.str y)) s = .ok (decide (c ∈ y)) s := (rfl)
@[simp] theorem cmp_notins {c : Nat} : cmp2 T C .notin (.v (.str [c])) (.v (.str y)) s = .ok (!decide (c ∈ y)) s := (rfl)
def idO : Option PV → PS → Res SV
  | some x, s => Res.ok (SV.v x) s
  | none, _ => Res.bad
@[simp] theorem idO_some : idO (some v) s = .ok (.v v) s := (rfl)
theorem idx_seq {a : SV} {zs : List SV} {w : SV} (hn : ∀ x : List Nat, a ≠ .v (.str x)) (h : seqOf a s = some zs) (h0 : 0 ≤ i) (h1 : zs[i.toNat]? = some w) : idx2 a (.v (.int i)) s = .ok w s := by
  have hl : i.toNat < zs.length := (List.getElem?_eq_some_iff.mp h1).1
  have e : ixN zs.length i = some i.toNat := by unfold ixN; rw [if_pos h0, if_pos (by omega)]
  unfold idx2
  split
  · exact absurd rfl (hn _)
  · rename_i he; cases he
    rw [h]
    dsimp only
    rw [e]
    dsimp only
    rw [h1]
  · rename_i h3 _; exact absurd rfl (h3 i)
theorem map_v_at {n : Nat} (h : xs[n]? = some v) : (xs.map SV.v)[n]? = some (.v v) := by rw [List.getElem?_map, h]; rfl
theorem idx_tup (h0 : 0 ≤ i) (h : xs[i.toNat]? = some v) : idx2 (.v (.tup xs)) (.v (.int i)) s = .ok (.v v) s := idx_seq (by intro x; simp) rfl h0 (map_v_at h)
theorem idx_lst (h0 : 0 ≤ i) (h : xs[i.toNat]? = some v) : idx2 (.v (.lst xs)) (.v (.int i)) s = .ok (.v v) s := idx_seq (by intro x; simp) rfl h0 (map_v_at h)
theorem idx_clst (h0 : 0 ≤ i) (h : xs[i.toNat]? = some v) : idx2 (.v (.clst xs)) (.v (.int i)) s = .ok (.v v) s := idx_seq (by intro x; simp) rfl h0 (map_v_at h)
theorem idx_ref {n : Nat} {zs : List SV} {w : SV} (hs : s[n]? = some (.lst zs)) (h0 : 0 ≤ i) (h : zs[i.toNat]? = some w) : idx2 (.ref n) (.v (.int i)) s = .ok w s := idx_seq (by intro x; simp) (by unfold seqOf; dsimp only; rw [hs]) h0 h
theorem idx_str {c : Nat} (h0 : 0 ≤ i) (h : x[i.toNat]? = some c) : idx2 (.v (.str x)) (.v (.int i)) s = .ok (.v (.str [c])) s := by
  have hl : i.toNat < x.length := (List.getElem?_eq_some_iff.mp h).1
  show (match ixN x.length i with
    | some j => match x[j]? with
      | some c => Res.ok (SV.v (PV.str [c])) s
      | none => Res.bad
    | none => Res.bad) = _
  unfold ixN
  rw [if_pos h0, if_pos (by omega)]
  dsimp only
  rw [h]
@[simp] theorem idx_t0 : idx2 (.v (.tup (v :: xs))) (.v (.int 0)) s = .ok (.v v) s := idx_tup (by decide) rfl
@[simp] theorem idx_t1 {v1 : PV} : idx2 (.v (.tup (v1 :: v :: xs))) (.v (.int 1)) s = .ok (.v v) s := idx_tup (by decide) rfl
@[simp] theorem idx_t2 {v1 v2 : PV} : idx2 (.v (.tup (v1 :: v2 :: v :: xs))) (.v (.int 2)) s = .ok (.v v) s := idx_tup (by decide) rfl
@[simp] theorem sl_str {a b : Option Int} : sl2 fr (.v (.str x)) a b s = .ok (.v (.str (Vm.cut x a b))) s := (rfl)
theorem cut_map {α β : Type} (f : α → β) (l : List α) (a b : Option Int) : Vm.cut (l.map f) a b = (Vm.cut l a b).map f := by
  unfold Vm.cut
  rw [List.length_map, List.map_take, List.map_drop]
@[simp] theorem sl_lst {a b : Option Int} : sl2 fr (.v (.lst xs)) a b s = newL fr ((Vm.cut xs a b).map .v) s := by
  show newL fr (Vm.cut (xs.map SV.v) a b) s = _
  rw [cut_map]
@[simp] theorem sl_clst {a b : Option Int} : sl2 fr (.v (.clst xs)) a b s = newL fr ((Vm.cut xs a b).map .v) s := by
  show newL fr (Vm.cut (xs.map SV.v) a b) s = _
  rw [cut_map]
theorem sIx_nat (n d k : Nat) : sIx n d (some (k : Int)) = min k n := by
  unfold sIx
  dsimp only
  rw [if_neg (by omega)]
  rfl
theorem cut_take {α : Type} (l : List α) (k : Nat) : Vm.cut l none (some (k : Int)) = l.take k := by
  unfold Vm.cut
  rw [sIx_nat]
  show ((l.drop 0).take (min k l.length - 0)) = _
  rw [List.drop_zero, Nat.sub_zero, List.take_eq_take_iff]
  omega
theorem cut_drop {α : Type} (l : List α) (k : Nat) : Vm.cut l (some (k : Int)) none = l.drop k := by
  unfold Vm.cut
  rw [sIx_nat]
  show (l.drop (min k l.length)).take (l.length - min k l.length) = _
  by_cases h : k ≤ l.length
  · rw [Nat.min_eq_left h, List.take_of_length_le (by rw [List.length_drop]; exact Nat.le_refl _)]
  · rw [Nat.min_eq_right (by omega), List.drop_of_length_le (Nat.le_refl _), List.drop_of_length_le (by omega), List.take_nil]
theorem fld_ref {n c f j : Nat} {fs : List SV} {w : SV} {ci : ClsI} (h : s[n]? = some (.ins c fs)) (hc : T.cls[c]? = some ci) (hj : idxN ci.flds f = some j) (hx : fs[j]? = some w) : fld2 T C (.ref n) f s = .ok w s := by
  unfold fld2 insOf
  simp only [h, hc, hj, hx]
theorem fld_ins {c f j : Nat} {fs : List PV} {ci : ClsI} (hc : T.cls[c]? = some ci) (hj : idxN ci.flds f = some j) : fld2 T C (.v (.ins c fs)) f s = gf fs[j]? s := by
  unfold fld2 insOf
  simp only [hc, hj]
  rw [List.getElem?_map]
  cases fs[j]? <;> rfl
theorem fld_prop {c f d : Nat} {fs : List PV} {ci : ClsI} (hc : T.cls[c]? = some ci) (hj : idxN ci.flds f = none) (hd : lookN ci.props f = some d) : fld2 T C (.v (.ins c fs)) f s = noEx (C d [.v (.ins c fs)] s) := by
  unfold fld2 insOf
  simp only [hc, hj, hd]
  cases C d [.v (.ins c fs)] s <;> rfl
theorem ccon_ {c f : Nat} {σ : Sl} {ci : ClsI} (hc : T.cls[c]? = some ci) (hv : lookN ci.cons f = some v) : evE T C (.ccon c f) σ s = .ok (.v v) s := by
  rw [evE, hc]
  show (match lookN ci.cons f with
    | some x => Res.ok (SV.v x) s
    | none => Res.bad) = _
  rw [hv]
theorem sm_ {c m d : Nat} {zs : List SV} {ci : ClsI} (hc : T.cls[c]? = some ci) (hv : lookN ci.stats m = some d) : kSm T C c m zs s = C d (dflt T d zs) s := by
  unfold kSm
  rw [hc]
  show (match lookN ci.stats m with
    | some d => C d (dflt T d zs) s
    | none => Res.bad) = _
  rw [hv]
theorem mo_ {c m d : Nat} {ci : ClsI} (hc : T.cls[c]? = some ci) (hv : lookN ci.meths m = some d) : methOf T c m = some d := by
  unfold methOf
  rw [hc]
  exact hv
theorem mo_none {c m : Nat} {ci : ClsI} (hc : T.cls[c]? = some ci) (hv : lookN ci.meths m = none) : methOf T c m = none := by
  unfold methOf
  rw [hc]
  exact hv

@[simp] theorem tr_non : truthS T C (.v .non) s = .ok false s := (rfl)
@[simp] theorem tr_bl : truthS T C (.v (.bl k)) s = .ok k s := (rfl)
@[simp] theorem tr_int : truthS T C (.v (.int i)) s = .ok (i != 0) s := (rfl)
@[simp] theorem tr_str : truthS T C (.v (.str x)) s = .ok (!x.isEmpty) s := (rfl)
@[simp] theorem tr_tup : truthS T C (.v (.tup xs)) s = .ok (!xs.isEmpty) s := (rfl)
@[simp] theorem tr_lst : truthS T C (.v (.lst xs)) s = .ok (!xs.isEmpty) s := (rfl)
@[simp] theorem tr_clst : truthS T C (.v (.clst xs)) s = .ok (!xs.isEmpty) s := (rfl)
@[simp] theorem tr_ins {c : Nat} {fs : List PV} : truthS T C (.v (.ins c fs)) s = (callO C (methOf T c aBool) [.v (.ins c fs)] s).bind toB := by
  show (match methOf T c aBool with
    | some d => (C d [SV.v (PV.ins c fs)] s).bind fun r s1 => match r with
      | SV.v (PV.bl k) => Res.ok k s1
      | _ => Res.bad
    | none => Res.bad) = _
  cases methOf T c aBool <;> rfl
/-! built-ins -/
@[simp] theorem bi_lenS : bi2 T C .len fr [.v (.str x)] s = .ok (.v (.int x.length)) s := (rfl)
@[simp] theorem bi_lenT : bi2 T C .len fr [.v (.tup xs)] s = .ok (.v (.int xs.length)) s := by
  show Res.ok (SV.v (PV.int ((xs.map SV.v).length : Nat))) s = _
  rw [List.length_map]
@[simp] theorem bi_lenL : bi2 T C .len fr [.v (.lst xs)] s = .ok (.v (.int xs.length)) s := by
  show Res.ok (SV.v (PV.int ((xs.map SV.v).length : Nat))) s = _
  rw [List.length_map]
@[simp] theorem bi_lenC : bi2 T C .len fr [.v (.clst xs)] s = .ok (.v (.int xs.length)) s := by
  show Res.ok (SV.v (PV.int ((xs.map SV.v).length : Nat))) s = _
  rw [List.length_map]
theorem bi_lenR {n : Nat} {zs : List SV} (h : s[n]? = some (.lst zs)) : bi2 T C .len fr [.ref n] s = .ok (.v (.int zs.length)) s := by
  show (match seqOf (.ref n) s with
    | some xs => Res.ok (SV.v (PV.int xs.length)) s
    | none => Res.bad) = _
  unfold seqOf
  dsimp only
  rw [h]
@[simp] theorem bi_abs : bi2 T C .abs fr [.v (.int i)] s = .ok (.v (.int (if i < 0 then -i else i))) s := (rfl)
@[simp] theorem bi_absO {c : Nat} {fs : List PV} : bi2 T C .abs fr [.v (.ins c fs)] s = callO C (methOf T c aAbs) [.v (.ins c fs)] s := by
  show (match methOf T c aAbs with
    | some d => C d [SV.v (PV.ins c fs)] s
    | none => Res.bad) = _
  cases methOf T c aAbs <;> rfl
@[simp] theorem bi_int : bi2 T C .int fr [.v (.int i)] s = .ok (.v (.int i)) s := (rfl)
theorem bi_intS (h : x.length ≤ 640) (h2 : intText? (txt x) = some i) : bi2 T C .int fr [.v (.str x)] s = .ok (.v (.int i)) s := by
  show (if x.length ≤ 640 then (match intText? (txt x) with
    | some i => Res.ok (SV.v (PV.int i)) s
    | none => Res.bad) else Res.bad) = _
  rw [if_pos h, h2]
theorem bi_strI (h : log2i i < 1900) (h2 : (intText i).length ≤ lim) : bi2 T C .str fr [.v (.int i)] s = .ok (.v (.str (intText i))) s := if_pos ⟨h, h2⟩
@[simp] theorem bi_strS : bi2 T C .str fr [.v (.str x)] s = .ok (.v (.str x)) s := (rfl)
@[simp] theorem bi_strO {c : Nat} {fs : List PV} : bi2 T C .str fr [.v (.ins c fs)] s = (callO C (methOf T c aStr) [.v (.ins c fs)] s).bind toSt := by
  show (match methOf T c aStr with
    | some d => (C d [SV.v (PV.ins c fs)] s).bind fun r s1 => match r with
      | SV.v (PV.str x) => Res.ok (SV.v (PV.str x)) s1
      | _ => Res.bad
    | none => Res.bad) = _
  cases methOf T c aStr <;> rfl
@[simp] theorem bi_boolI : bi2 T C .bool fr [.v (.int i)] s = .ok (.v (.bl (i != 0))) s := (rfl)
@[simp] theorem bi_boolB : bi2 T C .bool fr [.v (.bl k)] s = .ok (.v (.bl k)) s := (rfl)
@[simp] theorem bi_boolO {c : Nat} {fs : List PV} : bi2 T C .bool fr [.v (.ins c fs)] s = (callO C (methOf T c aBool) [.v (.ins c fs)] s).bind toBl := by
  show (match methOf T c aBool with
    | some d => (C d [SV.v (PV.ins c fs)] s).bind fun r s1 => match r with
      | SV.v (PV.bl k) => Res.ok (SV.v (PV.bl k)) s1
      | _ => Res.bad
    | none => Res.bad) = _
  cases methOf T c aBool <;> rfl
@[simp] theorem bi_reprO {c : Nat} {fs : List PV} : bi2 T C .repr fr [.v (.ins c fs)] s = (callO C (methOf T c aRepr) [.v (.ins c fs)] s).bind toSt := by
  show (match methOf T c aRepr with
    | some d => (C d [SV.v (PV.ins c fs)] s).bind fun r s1 => match r with
      | SV.v (PV.str x) => Res.ok (SV.v (PV.str x)) s1
      | _ => Res.bad
    | none => Res.bad) = _
  cases methOf T c aRepr <;> rfl
def stO' : Option (List Nat) → PS → Res SV
  | some t, s => Res.ok (SV.v (PV.str t)) s
  | none, _ => Res.bad
@[simp] theorem stO'_some : stO' (some x) s = .ok (.v (.str x)) s := (rfl)
@[simp] theorem bi_reprT : bi2 T C .repr fr [.v (.tup xs)] s = stO' (shown (.tup xs)) s := by
  show (match shown (.tup xs) with
    | some t => Res.ok (SV.v (PV.str t)) s
    | none => Res.bad) = _
  cases shown (.tup xs) <;> rfl
@[simp] theorem bi_reprL : bi2 T C .repr fr [.v (.lst xs)] s = stO' (shown (.lst xs)) s := by
  show (match shown (.lst xs) with
    | some t => Res.ok (SV.v (PV.str t)) s
    | none => Res.bad) = _
  cases shown (.lst xs) <;> rfl
@[simp] theorem bi_listL : bi2 T C .list fr [.v (.lst xs)] s = newL fr (xs.map .v) s := (rfl)
@[simp] theorem bi_listC : bi2 T C .list fr [.v (.clst xs)] s = newL fr (xs.map .v) s := (rfl)
@[simp] theorem bi_listT : bi2 T C .list fr [.v (.tup xs)] s = newL fr (xs.map .v) s := (rfl)
@[simp] theorem bi_tupT : bi2 T C .tuple fr [.v (.tup xs)] s = .ok (.v (.tup xs)) s := (rfl)
@[simp] theorem bi_tupL : bi2 T C .tuple fr [.v (.lst xs)] s = .ok (.v (.tup xs)) s := by
  show (match vs (xs.map SV.v) with
    | some ys => Res.ok (SV.v (PV.tup ys)) s
    | none => Res.bad) = _
  rw [vs_map]
def sumV (xs : List PV) : Option Int := sumI (xs.map .v)
def allV (xs : List PV) : Option Bool := allB (xs.map .v)
def anyV (xs : List PV) : Option Bool := anyB (xs.map .v)
def isO : Option Bool → PS → Res SV
  | some k, s => .ok (.v (.bl k)) s
  | none, _ => .bad
@[simp] theorem isO_some : isO (some k) s = .ok (.v (.bl k)) s := (rfl)
def inO : Option Int → PS → Res SV
  | some k, s => .ok (.v (.int k)) s
  | none, _ => .bad
@[simp] theorem inO_some : inO (some i) s = .ok (.v (.int i)) s := (rfl)
@[simp] theorem bi_sumL : bi2 T C .sum fr [.v (.lst xs)] s = inO (sumV xs) s := by
  show (match sumI (xs.map SV.v) with
    | some i => Res.ok (SV.v (.int i)) s
    | none => .bad) = _
  unfold sumV
  cases sumI (xs.map SV.v) <;> rfl
@[simp] theorem bi_all : bi2 T C .all fr [.v (.lst xs)] s = isO (allV xs) s := by
  show (match allB (xs.map SV.v) with
    | some i => Res.ok (SV.v (.bl i)) s
    | none => .bad) = _
  unfold allV
  cases allB (xs.map SV.v) <;> rfl
@[simp] theorem bi_any : bi2 T C .any fr [.v (.lst xs)] s = isO (anyV xs) s := by
  show (match anyB (xs.map SV.v) with
    | some i => Res.ok (SV.v (.bl i)) s
    | none => .bad) = _
  unfold anyV
  cases anyB (xs.map SV.v) <;> rfl
theorem anyV_map {α : Type} {g : α → Bool} : ∀ {p : List α}, anyV (p.map fun c => PV.bl (g c)) = some (p.any g)
  | [] => rfl
  | c :: r => by
    have ih := anyV_map (g := g) (p := r)
    unfold anyV at ih ⊢
    simp only [List.map_cons, anyB, ih, Option.map_some, List.any_cons]
theorem allV_map {α : Type} {g : α → Bool} : ∀ {p : List α}, allV (p.map fun c => PV.bl (g c)) = some (p.all g)
  | [] => rfl
  | c :: r => by
    have ih := allV_map (g := g) (p := r)
    unfold allV at ih ⊢
    simp only [List.map_cons, allB, ih, Option.map_some, List.all_cons]
@[simp] theorem bi_gcd : bi2 T C .gcd fr [.v (.int i), .v (.int j)] s = .ok (.v (.int (Int.gcd i j : Nat))) s := (rfl)
@[simp] theorem bi_isinst {q : Bool} {ts : List Ty} {a : SV} : bi2 T C (.isinst q ts) fr [a] s = isO (isAny T a s ts) s := by
  show (match isAny T a s ts with
    | some k => Res.ok (SV.v (PV.bl k)) s
    | none => Res.bad) = _
  cases isAny T a s ts <;> rfl
@[simp] theorem isAny_nil {a : SV} : isAny T a s [] = some false := (rfl)
def anyO : Option Bool → Option Bool → Option Bool
  | some true, _ => some true
  | some false, r => r
  | none, _ => none
@[simp] theorem anyO_t {r : Option Bool} : anyO (some true) r = some true := (rfl)
@[simp] theorem anyO_f {r : Option Bool} : anyO (some false) r = r := (rfl)
@[simp] theorem isAny_cons {a : SV} {t : Ty} {r : List Ty} : isAny T a s (t :: r) = anyO (isTy T a s t) (isAny T a s r) := by
  conv => lhs; unfold isAny
  rcases isTy T a s t with _ | _ | _ <;> rfl
@[simp] theorem ty_non {t : Ty} : isTy T (.v .non) s t = some false := (rfl)
@[simp] theorem ty_bl {t : Ty} : isTy T (.v (.bl k)) s t = some (decide (t = .bool) || decide (t = .int)) := (rfl)
@[simp] theorem ty_int {t : Ty} : isTy T (.v (.int i)) s t = some (decide (t = .int)) := (rfl)
@[simp] theorem ty_str {t : Ty} : isTy T (.v (.str x)) s t = some (decide (t = .str)) := (rfl)
@[simp] theorem ty_tup {t : Ty} : isTy T (.v (.tup xs)) s t = some (decide (t = .tuple)) := (rfl)
@[simp] theorem ty_lst {t : Ty} : isTy T (.v (.lst xs)) s t = some (decide (t = .list)) := (rfl)
@[simp] theorem ty_clst {t : Ty} : isTy T (.v (.clst xs)) s t = some (decide (t = .list)) := (rfl)
@[simp] theorem ty_dct {t : Ty} : isTy T (.v (.dct xs ys)) s t = some (decide (t = .dict)) := (rfl)
@[simp] theorem ty_ins {c : Nat} {fs : List PV} {t : Ty} : isTy T (.v (.ins c fs)) s t = insTy T c t := (rfl)
@[simp] theorem insTy_b {c : Nat} : insTy T c .bool = some false := (rfl)
@[simp] theorem insTy_i {c : Nat} : insTy T c .int = some false := (rfl)
@[simp] theorem insTy_s {c : Nat} : insTy T c .str = some false := (rfl)
@[simp] theorem insTy_l {c : Nat} : insTy T c .list = some false := (rfl)
@[simp] theorem insTy_t {c : Nat} : insTy T c .tuple = some false := (rfl)
@[simp] theorem insTy_d {c : Nat} : insTy T c .dict = some false := (rfl)
theorem insTy_c {c k : Nat} {ci : ClsI} (hc : T.cls[c]? = some ci) : insTy T c (.cls k) = some (ci.supers.contains k) := by
  unfold insTy
  dsimp only
  rw [hc]
  rfl
@[simp] theorem fmt_str : fmt1 (.v (.str x)) = some x := (rfl)
theorem fmt_int (h : log2i i < 1900) : fmt1 (.v (.int i)) = some (intText i) := if_pos h
@[simp] theorem bmOk_split : bmOk .split (.v (.str x)) s = true := (rfl)
theorem bm_split {c : Nat} (h : c < 256) : bm2 .split fr (.v (.str x)) [.v (.str [c])] s = newL fr ((TL.spl [c] 0 [] x).map fun y => .v (.str y)) s := if_pos h
theorem bmOk_app {n : Nat} {zs : List SV} (h : s[n]? = some (.lst zs)) : bmOk .append (.ref n) s = true := by
  unfold bmOk
  dsimp only
  rw [h]
theorem bm_app {n : Nat} {zs : List SV} (h : s[n]? = some (.lst zs)) (hl : zs.length < lim) : bm2 .append fr (.ref n) [.v v] s = .ok (.v .non) (s.set n (.lst (zs ++ [.v v]))) := by
  show (match apnd n (.v v) s with
    | some s1 => Res.ok (SV.v .non) s1
    | none => Res.bad) = _
  unfold apnd
  rw [h]
  dsimp only
  rw [if_pos hl]
theorem setIx_ {n : Nat} {zs : List SV} (h : s[n]? = some (.lst zs)) (h0 : 0 ≤ i) (h1 : i < zs.length) : setIx (.ref n) (.v (.int i)) (.v v) s = some (s.set n (.lst (zs.set i.toNat (.v v)))) := by
  unfold setIx
  dsimp only
  rw [h]
  dsimp only
  unfold ixN
  rw [if_pos h0, if_pos h1]
theorem setFld_ {n c f j : Nat} {fs : List SV} {ci : ClsI} (h : s[n]? = some (.ins c fs)) (hc : T.cls[c]? = some ci) (hj : idxN ci.flds f = some j) (hl : j < fs.length) : setFld T (.ref n) f (.v v) s = some (s.set n (.ins c (fs.set j (.v v)))) := by
  unfold setFld
  simp only [h, hc, hj]
  rw [if_pos (Nat.le_of_lt hl)]
  simp only [hl, if_true]
theorem setFld_new {n c f j : Nat} {fs : List SV} {ci : ClsI} (h : s[n]? = some (.ins c fs)) (hc : T.cls[c]? = some ci) (hj : idxN ci.flds f = some j) (hl : j = fs.length) : setFld T (.ref n) f (.v v) s = some (s.set n (.ins c (fs ++ [.v v]))) := by
  unfold setFld
  simp only [h, hc, hj]
  rw [if_pos (by omega)]
  simp only [hl, Nat.lt_irrefl, if_false]
theorem setFld_end {c f j : Nat} {fs : List SV} {ci : ClsI} (hc : T.cls[c]? = some ci) (hj : idxN ci.flds f = some j) :
    setFld T (.ref s.length) f (.v v) (s ++ [.ins c fs]) = if j ≤ fs.length then some (s ++ [.ins c (if j < fs.length then fs.set j (.v v) else fs ++ [.v v])]) else none := by
  unfold setFld
  simp only [List.getElem?_concat_length, hc, hj]
  split
  · simp
  · rfl
def gfs : Option SV → PS → Res SV
  | some x, s => .ok x s
  | none, _ => .bad
@[simp] theorem gfs_some {x : SV} : gfs (some x) s = .ok x s := (rfl)
theorem fld_end {c f j : Nat} {fs : List SV} {ci : ClsI} (hc : T.cls[c]? = some ci) (hj : idxN ci.flds f = some j) :
    fld2 T C (.ref s.length) f (s ++ [.ins c fs]) = gfs fs[j]? (s ++ [.ins c fs]) := by
  unfold fld2 insOf
  simp only [List.getElem?_concat_length, hc, hj]
  cases fs[j]? <;> rfl
@[simp] theorem meth_end {m c : Nat} {es : List E} {fs : List SV} {σ : Sl} : kMeth1 T C m es σ (.ref s.length) (s ++ [.ins c fs]) = methO T C es σ (.ref s.length) (methOf T c m) (s ++ [.ins c fs]) :=
  kMeth1_ref (c := c) (fs := fs) (by simp)
@[simp] theorem take_end {α : Type} {l : List α} {a : α} : (l ++ [a]).take (l.length + 1) = l ++ [a] := List.take_of_length_le (by simp)
/-- an instance that nothing changes any more -/
theorem make_ok {c d : Nat} {ci : ClsI} {args : List SV} {fs : List PV} (hc : T.cls[c]? = some ci) (hx : ci.isx = false) (hi : ci.init = some d) (hf : ci.frozen = true)
    (h : C d (dflt T d (.ref s.length :: args)) (s ++ [.ins c []]) = .ok (.v .non) (s ++ [.ins c (fs.map .v)])) : make T C c args s = .ok (.v (.ins c fs)) s := by
  unfold make
  rw [hc]
  dsimp only
  rw [hx, hi]
  simp only [Bool.false_eq_true, if_false]
  unfold makeD
  rw [h]
  dsimp only
  unfold made
  simp [hf]
theorem makeF_ok {c d : Nat} {ci : ClsI} {args : List SV} {fs : List PV} (hc : T.cls[c]? = some ci) (hx : ci.isx = false) (hi : ci.init = some d) (hf : ci.frozen = true)
    (h : C d (.ref s.length :: args) (s ++ [.ins c []]) = .ok (.v .non) (s ++ [.ins c (fs.map .v)])) : makeF T C c args s = .ok (.v (.ins c fs)) s := by
  unfold makeF
  rw [hc]
  dsimp only
  rw [hx, hi]
  simp only [Bool.false_eq_true, if_false]
  unfold makeD
  rw [h]
  dsimp only
  unfold made
  simp [hf]
theorem make_ex {c d : Nat} {ci : ClsI} {args : List SV} {e : PX} {t : List PO} (hc : T.cls[c]? = some ci) (hx : ci.isx = false) (hi : ci.init = some d)
    (h : C d (dflt T d (.ref s.length :: args)) (s ++ [.ins c []]) = .ex e (s ++ t)) : make T C c args s = .ex e s := by
  unfold make
  rw [hc]
  dsimp only
  rw [hx, hi]
  simp only [Bool.false_eq_true, if_false]
  unfold makeD
  rw [h]
  dsimp only
  rw [List.take_left]
theorem make_ref {c d : Nat} {ci : ClsI} {args : List SV} {t : PS} (hc : T.cls[c]? = some ci) (hx : ci.isx = false) (hi : ci.init = some d) (hf : ci.frozen = false)
    (h : C d (dflt T d (.ref s.length :: args)) (s ++ [.ins c []]) = .ok (.v .non) t) : make T C c args s = .ok (.ref s.length) t := by
  unfold make
  rw [hc]
  dsimp only
  rw [hx, hi]
  simp only [Bool.false_eq_true, if_false]
  unfold makeD
  rw [h]
  dsimp only
  unfold made
  simp [hf]
end
/-! ### comprehensions -/
section
variable {T : Tab} {C : Calls} {σ : Sl}
theorem lcL_pure {ce : PV → PS → Res Bool} {e : PV → PS → Res SV} {p : PV → Bool} {f : PV → PV} {n : Nat} : ∀ {xs acc : List PV} {s : PS}, s.length = n → acc.length + xs.length ≤ lim →
    (∀ x ∈ xs, ∀ t : PS, ce x t = .ok (p x) t ∧ (p x = true → e x t = .ok (.v (f x)) t)) →
    lcL ce e n xs (s ++ [.lst (acc.map .v)]) = .ok () (s ++ [.lst ((acc ++ (xs.filter p).map f).map .v)])
  | [], acc, s, hn, hl, h => by
    unfold lcL
    simp
  | x :: r, acc, s, hn, hl, h => by
    unfold lcL
    obtain ⟨h1, h2⟩ := h x List.mem_cons_self (s ++ [.lst (acc.map .v)])
    rw [h1, rb_ok]
    have hr := fun y hy => h y (List.mem_cons_of_mem _ hy)
    cases hp : p x with
    | true =>
      rw [if_pos rfl, h2 hp, rb_ok]
      have ha : apnd n (.v (f x)) (s ++ [.lst (acc.map .v)]) = some (s ++ [.lst ((acc ++ [f x]).map .v)]) := by
        unfold apnd
        rw [← hn]
        simp only [List.getElem?_concat_length, List.length_map]
        rw [if_pos (by simp at hl ⊢; omega)]
        simp
      rw [ha]
      dsimp only
      rw [lcL_pure hn (by simp at hl ⊢; omega) hr]
      simp [List.filter_cons, hp]
    | false =>
      rw [if_neg (by decide), lcL_pure hn (by simp at hl ⊢; omega) hr]
      simp [List.filter_cons, hp]
theorem lc_pure {t : Tg} {it e : E} {cs : List B} {s s1 : PS} {v : SV} {xs : List PV} {p : PV → Bool} {f : PV → PV} (hi : evE T C it σ s = .ok v s1) (hv : itemsOf v = some xs) (hl : xs.length ≤ lim)
    (h : ∀ x ∈ xs, ∃ σ', asg t x σ = some σ' ∧ ∀ u : PS, evCs T C cs σ' u = .ok (p x) u ∧ (p x = true → evE T C e σ' u = .ok (.v (f x)) u)) : evE T C (.lc true t it cs e) σ s = .ok (.v (.lst ((xs.filter p).map f))) s1 := by
  rw [evE, hi, rb_ok, hv]
  dsimp only
  have key : ∀ (ce : PV → PS → Res Bool) (g : PV → PS → Res SV), (∀ x ∈ xs, ∀ u : PS, ce x u = .ok (p x) u ∧ (p x = true → g x u = .ok (.v (f x)) u)) →
      ((lcL ce g s1.length xs (s1 ++ [.lst []])).calm).bind (fun _ s2 => lcEnd true s1.length s2) = .ok (.v (.lst ((xs.filter p).map f))) s1 := by
    intro ce g hh
    have := lcL_pure (ce := ce) (e := g) (p := p) (f := f) (n := s1.length) (xs := xs) (acc := []) (s := s1) rfl (by simpa using hl) hh
    have e0 : (s1 ++ [PO.lst ([].map SV.v)]) = s1 ++ [.lst []] := (rfl)
    rw [e0] at this
    rw [this]
    show lcEnd true s1.length _ = _
    unfold lcEnd
    rw [if_pos rfl, List.getElem?_concat_length]
    dsimp only
    rw [List.nil_append, vs_map]
    dsimp only
    rw [List.take_left]
  refine key _ _ fun x hx u => ?_
  obtain ⟨σ', a, b⟩ := h x hx
  rw [a]
  exact b u
end
end Q
end Vm
set_option Elab.async false
set_option linter.all false
set_option maxRecDepth 100000
set_option maxHeartbeats 1000000
/-! Ints, their texts, Euclid. -/
namespace Vm
namespace Q
open PySem

/-- below 2^k -/
def Bd (k : Nat) (i : Int) : Prop := i.natAbs < 2 ^ k
theorem Bd.mono {j k : Nat} {i : Int} (h : Bd j i) (hk : j ≤ k) : Bd k i := Nat.lt_of_lt_of_le h (Nat.pow_le_pow_right (by decide) hk)
theorem Bd.neg {k : Nat} {i : Int} (h : Bd k i) : Bd k (-i) := by unfold Bd at *; rwa [Int.natAbs_neg]
theorem Bd.of_neg {k : Nat} {i : Int} (h : Bd k (-i)) : Bd k i := by unfold Bd at *; rwa [Int.natAbs_neg] at h
theorem Bd.add {k : Nat} {i j : Int} (h : Bd k i) (h' : Bd k j) : Bd (k + 1) (i + j) := by
  unfold Bd at *
  have := Int.natAbs_add_le i j
  rw [Nat.pow_succ]
  omega
theorem Bd.sub {k : Nat} {i j : Int} (h : Bd k i) (h' : Bd k j) : Bd (k + 1) (i - j) := by
  rw [Int.sub_eq_add_neg]; exact h.add h'.neg
theorem Bd.mul {j k : Nat} {a b : Int} (h : Bd j a) (h' : Bd k b) : Bd (j + k) (a * b) := by
  unfold Bd at *
  rw [Int.natAbs_mul, Nat.pow_add]
  exact Nat.mul_lt_mul'' h h'
theorem Bd.le {k : Nat} {a b : Int} (h : Bd k b) (l : a.natAbs ≤ b.natAbs) : Bd k a := Nat.lt_of_le_of_lt l h
theorem Bd.log {k : Nat} {i : Int} (h : Bd k i) (hk : 0 < k) : log2i i < k := by
  unfold log2i
  unfold Bd at h
  by_cases z : i.natAbs = 0
  · rw [z]; simpa using hk
  · exact (Nat.log2_lt z).mpr h
theorem Bd.of {k : Nat} {i : Int} (h : i.natAbs < 2 ^ k) : Bd k i := h
theorem bd_abs {k : Nat} {i : Int} (h : Bd k i) : Bd k (if i < 0 then -i else i) := by split; exact h.neg; exact h

/-! ### texts of ints -/
theorem txt_cps (x : List Nat) : (txt x).cps.toList = x := rfl
theorem txt_inj {x y : List Nat} (h : txt x = txt y) : x = y := by
  have := congrArg (fun z : Str => z.cps.toList) h
  exact this
theorem intText_eq (i : Int) : intText i = (toString i).toList.map Char.toNat := by
  unfold intText
  rw [Str.ofString_eq_toList]
theorem toString_len {i : Int} {k : Nat} (hk : 0 < k) (h : i.natAbs < 10 ^ k) : (toString i).length ≤ k + 1 := by
  rw [Int.toString_eq_repr, Int.repr_eq_if]
  split
  · have := (Nat.length_repr_le_iff (n := i.toNat) hk).mpr (by omega)
    omega
  · rw [String.length_append]
    have := (Nat.length_repr_le_iff (n := (-i).toNat) hk).mpr (by omega)
    have e : ("-" : String).length = 1 := by decide
    omega
theorem intText_len {i : Int} {k : Nat} (hk : 0 < k) (h : i.natAbs < 10 ^ k) : (intText i).length ≤ k + 1 := by
  rw [intText_eq, List.length_map]
  exact toString_len hk h
theorem pow_le : (2 : Nat) ^ 1900 ≤ 10 ^ 600 := by decide +kernel
theorem Bd.text {i : Int} (h : Bd 1900 i) : (intText i).length ≤ 601 := intText_len (by decide) (Nat.lt_of_lt_of_le h pow_le)
/-- signs of a plain text -/
abbrev Pl (x : List Nat) : Prop := ∀ c ∈ x, c < 128
theorem digitChar_lt {n : Nat} (h : n < 10) : (Nat.digitChar n).toNat < 128 := by
  have : ∀ n : Fin 10, (Nat.digitChar n).toNat < 128 := by decide
  exact this ⟨n, h⟩
theorem toDigits_lt : ∀ (n : Nat), ∀ c ∈ Nat.toDigits 10 n, c.toNat < 128 := by
  intro n
  induction n using Nat.strongRecOn with
  | ind n ih =>
    intro c hc
    by_cases h : n < 10
    · rw [Nat.toDigits_of_lt_base h] at hc
      rw [List.mem_singleton.mp hc]
      exact digitChar_lt h
    · rw [Nat.toDigits_of_base_le (by decide) (by omega)] at hc
      rcases List.mem_append.mp hc with hc | hc
      · exact ih (n / 10) (by omega) c hc
      · rw [List.mem_singleton.mp hc]
        exact digitChar_lt (Nat.mod_lt _ (by decide))
theorem intText_pl (i : Int) : Pl (intText i) := by
  intro c hc
  rw [intText_eq] at hc
  obtain ⟨d, hd, rfl⟩ := List.mem_map.mp hc
  rw [Int.toString_eq_repr, Int.repr_eq_if] at hd
  split at hd
  · rw [Nat.toList_repr] at hd
    exact toDigits_lt _ _ hd
  · rw [String.toList_append] at hd
    rcases List.mem_append.mp hd with hd | hd
    · have e : ("-" : String).toList = ['-'] := by decide
      rw [e, List.mem_singleton] at hd
      subst hd
      decide
    · rw [Nat.toList_repr] at hd
      exact toDigits_lt _ _ hd

/-! ### data -/
theorem strOk_pl {x : List Nat} (h : Pl x) : PyData.strOk (txt x) = true := by
  unfold PyData.strOk
  rw [← Array.all_toList, List.all_eq_true]
  intro c hc
  have := h c hc
  exact decide_eq_true (by omega)
theorem eqD_str {x y : List Nat} (hx : Pl x) (hy : Pl y) : eqD (.str x) (.str y) = some (decide (x = y)) := by
  have h1 : SeqAt.shaped (.str (txt x)) = true := by simp [SeqAt.shaped, PyData.canLay0, PyData.depth, strOk_pl hx]
  have h2 : SeqAt.shaped (.str (txt y)) = true := by simp [SeqAt.shaped, PyData.canLay0, PyData.depth, strOk_pl hy]
  unfold eqD
  simp only [toD, h1, h2, Bool.and_self, if_true, PyData.eqv]
  congr 1
  by_cases e : x = y
  · subst e; simp
  · rw [decide_eq_false e]
    exact beq_eq_false_iff_ne.mpr fun z => e (txt_inj z)
theorem eqD_int {x y : Int} : eqD (.int x) (.int y) = some (decide (x = y)) := by
  have h1 : ∀ z, SeqAt.shaped (.int z) = true := fun z => by simp [SeqAt.shaped, PyData.canLay0, PyData.depth]
  unfold eqD
  simp only [toD, h1, Bool.and_self, if_true, PyData.eqv]
  rfl
theorem eqD_bl {x y : Bool} : eqD (.bl x) (.bl y) = some (x == y) := by
  have h1 : ∀ z, SeqAt.shaped (.bool z) = true := fun z => by simp [SeqAt.shaped, PyData.canLay0, PyData.depth]
  unfold eqD
  simp only [toD, h1, Bool.and_self, if_true, PyData.eqv]

/-- an atom whose text is short -/
def atom : PV → Prop
  | .int i => Bd 1900 i
  | .bl _ => True
  | .non => True
  | _ => False
theorem join_len : ∀ (ts : List Str) (k : Nat), (∀ t ∈ ts, t.length ≤ k) → (Str.join ", " ts).length ≤ ts.length * (k + 2)
  | [], k, _ => by show (Str.empty).length ≤ _; simp [Str.length, Str.empty]
  | x :: r, k, h => by
    have e := PySem.join_length_add (x :: r) (by simp)
    have : ∀ (l : List Str), (∀ t ∈ l, t.length ≤ k) → PySem.piled l ≤ l.length * (k + 2) := by
      intro l
      induction l with
      | nil => intro _; simp [PySem.piled]
      | cons y l ih =>
        intro hl
        have h1 := hl y List.mem_cons_self
        have h2 := ih fun t ht => hl t (List.mem_cons_of_mem _ ht)
        rw [PySem.piled_cons, List.length_cons, Nat.add_mul, Nat.one_mul]
        omega
    have := this _ h
    omega

theorem join_pl : ∀ (ts : List Str), (∀ t ∈ ts, Pl t.cps.toList) → Pl (Str.join ", " ts).cps.toList
  | [], _ => by intro c hc; simp [Str.join, Str.empty] at hc
  | [x], h => h x List.mem_cons_self
  | x :: y :: r, h => by
    have ih := join_pl (y :: r) fun t ht => h t (List.mem_cons_of_mem _ ht)
    intro c hc
    have e0 : (Str.ofString ", ").join (x :: y :: r) = x ++ Str.ofString ", " ++ (Str.ofString ", ").join (y :: r) := by simp [Str.join]
    rw [e0] at hc
    have e : ∀ a b : Str, (a ++ b).cps.toList = a.cps.toList ++ b.cps.toList := fun a b => by
      show (a.cps ++ b.cps).toList = _
      rw [Array.toList_append]
    rw [e, e] at hc
    rcases List.mem_append.mp hc with hc | hc
    · rcases List.mem_append.mp hc with hc | hc
      · exact h x List.mem_cons_self c hc
      · have : Pl (Str.ofString ", ").cps.toList := by decide +kernel
        exact this c hc
    · exact ih c hc
theorem atom_toD : ∀ {x : PV}, atom x → ∃ d, toD x = some d ∧ d.showable = true ∧ d.depth = 0 ∧ (d.shown.length ≤ 700 ∧ Pl d.shown.cps.toList)
  | .int i, h => by
    refine ⟨.int i, rfl, ?_, rfl, ?_⟩
    · simp only [PyData.showable, decide_eq_true_eq]
      have := Bd.log h (by decide)
      unfold log2i at this
      omega
    · have := Bd.text h
      refine ⟨?_, intText_pl i⟩
      show (Str.ofString (toString i)).length ≤ 700
      have e : (Str.ofString (toString i)).length = (intText i).length := rfl
      omega
  | .bl b, _ => by
    refine ⟨.bool b, rfl, rfl, rfl, ?_⟩
    cases b <;> exact ⟨by decide +kernel, by decide +kernel⟩
  | .non, _ => by
    exact ⟨.none, rfl, rfl, rfl, by decide +kernel, by decide +kernel⟩
  | .str _, h => h.elim
  | .tup _, h => h.elim
  | .lst _, h => h.elim
  | .clst _, h => h.elim
  | .dct _ _, h => h.elim
  | .ins _ _, h => h.elim
  | .cls _, h => h.elim
theorem atoms_toD : ∀ {xs : List PV}, (∀ x ∈ xs, atom x) → ∃ ds, toDs xs = some ds ∧ PyData.showableAll ds = true ∧ PyData.depthAll ds = 0 ∧ (∀ t ∈ PyData.shownAll ds, t.length ≤ 700 ∧ Pl t.cps.toList) ∧ (PyData.shownAll ds).length = xs.length
  | [], _ => ⟨[], by rw [toDs], rfl, rfl, (fun t ht => by simp [PyData.shownAll] at ht), by simp [PyData.shownAll]⟩
  | x :: r, h => by
    obtain ⟨d, a1, a2, a3, a4⟩ := atom_toD (h x List.mem_cons_self)
    obtain ⟨ds, b1, b2, b3, b4, b5⟩ := atoms_toD fun y hy => h y (List.mem_cons_of_mem _ hy)
    refine ⟨d :: ds, ?_, ?_, ?_, ?_, ?_⟩
    · rw [toDs, a1, b1]
    · rw [PyData.showableAll, a2, b2]; rfl
    · rw [PyData.depthAll, a3, b3]; rfl
    · intro t ht
      rw [PyData.shownAll] at ht
      rcases List.mem_cons.mp ht with rfl | ht
      · exact a4
      · exact b4 t ht
    · rw [PyData.shownAll, List.length_cons, b5, List.length_cons]
theorem shown_tup {xs : List PV} (h : ∀ x ∈ xs, atom x) (hl : xs.length ≤ 100) : ∃ t, shown (.tup xs) = some t ∧ Pl t := by
  obtain ⟨ds, b1, b2, b3, b4', b5⟩ := atoms_toD h
  have b4 : ∀ t ∈ PyData.shownAll ds, t.length ≤ 700 := fun t ht => (b4' t ht).1
  refine ⟨(PyData.tuple ds).shown.cps.toList, ?_, ?_⟩
  rotate_left
  · rw [PyData.shown]
    unfold PySem.tupleText
    have e : ∀ a b : Str, (a ++ b).cps.toList = a.cps.toList ++ b.cps.toList := fun a b => by
      show (a.cps ++ b.cps).toList = _
      rw [Array.toList_append]
    intro c hc
    rw [e, e] at hc
    rcases List.mem_append.mp hc with hc | hc
    · rcases List.mem_append.mp hc with hc | hc
      · have : Pl (Str.ofString "(").cps.toList := by decide +kernel
        exact this c hc
      · exact join_pl _ (fun t ht => (b4' t ht).2) c hc
    · have : ∀ q : Bool, Pl (Str.ofString (if q = true then ",)" else ")")).cps.toList := by decide +kernel
      exact this _ c hc
  have e1 : toD (.tup xs) = some (.tuple ds) := by rw [toD, b1]; rfl
  have e2 : (PyData.tuple ds).showable = true := by rw [PyData.showable]; exact b2
  have e3 : (PyData.tuple ds).depth ≤ 60 := by rw [PyData.depth, b3]; decide
  have e4 : (PyData.tuple ds).shown.length ≤ lim := by
    rw [PyData.shown]
    unfold PySem.tupleText
    have j := join_len (PyData.shownAll ds) 700 b4
    rw [b5] at j
    have a1 : (("(" : Str) ++ Str.join ", " (PyData.shownAll ds) ++ (if (PyData.shownAll ds).length == 1 then ",)" else ")" : String)).length = ("(" : Str).length + (Str.join ", " (PyData.shownAll ds)).length + ((if (PyData.shownAll ds).length == 1 then ",)" else ")" : String) : Str).length := by
      show (Array.size (_ ++ _)) = _
      rw [Array.size_append]
      show (Array.size (_ ++ _)) + _ = _
      rw [Array.size_append]
      rfl
    rw [a1]
    have a2 : ("(" : Str).length = 1 := by decide +kernel
    have a3 : ((if (PyData.shownAll ds).length == 1 then ",)" else ")" : String) : Str).length ≤ 2 := by
      split <;> decide +kernel
    have : xs.length * 702 ≤ 100 * 702 := Nat.mul_le_mul_right _ hl
    unfold lim
    omega
  unfold shown
  rw [e1]
  dsimp only
  rw [if_pos (by simp [isBox, e2, e3, e4])]

/-! ### lowest terms -/
def gc (a b : Int) : Int := if b < 0 then -(Int.gcd a b : Int) else (Int.gcd a b : Int)
def nr (a b : Int) : Int × Int := (a.fdiv (gc a b), b.fdiv (gc a b))
/-- in lowest terms -/
def Nm (a b : Int) : Prop := 0 < b ∧ Int.gcd a b = 1
theorem gcd_pos {a b : Int} (h : b ≠ 0) : 0 < (Int.gcd a b : Int) := by
  have := Int.gcd_pos_of_ne_zero_right a h
  omega
theorem gc_ne {a b : Int} (h : b ≠ 0) : gc a b ≠ 0 := by
  have := gcd_pos (a := a) h
  unfold gc
  split <;> omega
theorem gc_abs {a b : Int} : (gc a b).natAbs = Int.gcd a b := by
  unfold gc
  split
  · rw [Int.natAbs_neg]; rfl
  · rfl
theorem gc_le {a b : Int} (h : b ≠ 0) : (gc a b).natAbs ≤ b.natAbs := by
  rw [gc_abs]
  exact Nat.le_of_dvd (by omega) (Nat.gcd_dvd_right _ _)
theorem nr_eq {a b : Int} (h : b ≠ 0) : a = (nr a b).1 * gc a b ∧ b = (nr a b).2 * gc a b := by
  have d1 : gc a b ∣ a := Int.natAbs_dvd_natAbs.mp (by rw [gc_abs]; exact Nat.gcd_dvd_left _ _)
  have d2 : gc a b ∣ b := Int.natAbs_dvd_natAbs.mp (by rw [gc_abs]; exact Nat.gcd_dvd_right _ _)
  constructor
  · show a = a.fdiv (gc a b) * gc a b
    rw [Int.fdiv_eq_ediv_of_dvd d1, Int.ediv_mul_cancel d1]
  · show b = b.fdiv (gc a b) * gc a b
    rw [Int.fdiv_eq_ediv_of_dvd d2, Int.ediv_mul_cancel d2]
theorem nr_nm {a b : Int} (h : b ≠ 0) : Nm (nr a b).1 (nr a b).2 := by
  obtain ⟨e1, e2⟩ := nr_eq (a := a) h
  have hg := gcd_pos (a := a) h
  constructor
  · have key : 0 < (nr a b).2 * (gc a b * gc a b) := by
      rw [← Int.mul_assoc, ← e2]
      unfold gc
      split
      · rw [Int.mul_neg]
        have := Int.mul_neg_of_neg_of_pos (show b < 0 by assumption) hg
        omega
      · exact Int.mul_pos (by omega) hg
    have sq : 0 ≤ gc a b * gc a b := by
      rcases Int.le_total 0 (gc a b) with z | z
      · exact Int.mul_nonneg z z
      · exact Int.mul_nonneg_of_nonpos_of_nonpos z z
    apply Classical.byContradiction
    intro z
    have := Int.mul_nonpos_of_nonpos_of_nonneg (show (nr a b).2 ≤ 0 by omega) sq
    omega
  · have := Int.gcd_mul_right (nr a b).1 (gc a b) (nr a b).2
    rw [← e1, ← e2, gc_abs] at this
    have hg' : 0 < Int.gcd a b := by omega
    exact Nat.eq_of_mul_eq_mul_right hg' (by rw [← this, Nat.one_mul])
theorem nr_self {a b : Int} (h : Nm a b) : nr a b = (a, b) := by
  have e : gc a b = 1 := by
    unfold gc
    rw [if_neg (by have := h.1; omega), h.2]
    rfl
  unfold nr
  rw [e, Int.fdiv_one, Int.fdiv_one]
theorem Nm.neg {a b : Int} (h : Nm a b) : Nm (-a) b := ⟨h.1, by rw [Int.neg_gcd]; exact h.2⟩
theorem Nm.abs {a b : Int} (h : Nm a b) : Nm (if a < 0 then -a else a) b := by split; exact h.neg; exact h
theorem Nm.one {a : Int} : Nm a 1 := ⟨by decide, by rw [Int.gcd_one]⟩
theorem nr_bd1 {a b : Int} {k : Nat} (h : b ≠ 0) (ha : Bd k a) : Bd k (nr a b).1 := by
  refine ha.le ?_
  have e := (nr_eq (a := a) h).1
  have : a.natAbs = (nr a b).1.natAbs * (gc a b).natAbs := by rw [← Int.natAbs_mul, ← e]
  rw [this]
  exact Nat.le_mul_of_pos_right _ (by have := gc_ne (a := a) h; omega)
theorem nr_bd2 {a b : Int} {k : Nat} (h : b ≠ 0) (hb : Bd k b) : Bd k (nr a b).2 := by
  refine hb.le ?_
  have e := (nr_eq (a := a) h).2
  have : b.natAbs = (nr a b).2.natAbs * (gc a b).natAbs := by rw [← Int.natAbs_mul, ← e]
  rw [this]
  exact Nat.le_mul_of_pos_right _ (by have := gc_ne (a := a) h; omega)

/-! ### Euclid -/
/-- the second number is 0 behind at most m turns -/
def Eu : Nat → Nat → Nat → Prop
  | 0, _, b => b = 0
  | m + 1, a, b => b = 0 ∨ Eu m b (a % b)
theorem Eu.succ : ∀ {m a b : Nat}, Eu m a b → Eu (m + 1) a b
  | 0, _, _, h => .inl h
  | m + 1, _, _, .inl h => .inl h
  | m + 1, _, _, .inr h => .inr h.succ
theorem eu_pow : ∀ (k a b : Nat), b < 2 ^ k → Eu (2 * k) a b
  | 0, a, b, h => by
    have : b = 0 := by simpa using h
    exact this
  | k + 1, a, b, h => by
    show b = 0 ∨ (a % b = 0 ∨ Eu (2 * k) (a % b) (b % (a % b)))
    by_cases hb : b = 0
    · exact .inl hb
    right
    by_cases hr : a % b = 0
    · exact .inl hr
    right
    refine eu_pow k _ _ ?_
    have h1 : a % b < b := Nat.mod_lt _ (by omega)
    have h2 : b % (a % b) < a % b := Nat.mod_lt _ (by omega)
    have h3 := Nat.div_add_mod b (a % b)
    have h4 : 1 ≤ b / (a % b) := Nat.div_pos (by omega) (by omega)
    have h5 : (a % b) * 1 ≤ (a % b) * (b / (a % b)) := Nat.mul_le_mul_left _ h4
    rw [Nat.pow_succ] at h
    omega
end Q
end Vm
set_option Elab.async false
set_option linter.all false
set_option maxRecDepth 100000
set_option maxHeartbeats 1000000
set_option exponentiation.threshold 20000
/-! Flat data; stores with one cell that changes; the pen. -/
namespace Vm
namespace Q
open PySem

/-- flat data -/
def Fl (x : PV) : Prop := ∃ d, toD x = some d ∧ d.canLay0 = true ∧ d.depth = 0
theorem fl_int {i : Int} : Fl (.int i) := ⟨.int i, rfl, rfl, rfl⟩
theorem fl_bl {k : Bool} : Fl (.bl k) := ⟨.bool k, rfl, rfl, rfl⟩
theorem fl_non : Fl .non := ⟨.none, rfl, rfl, rfl⟩
theorem fl_str {x : List Nat} (h : Pl x) : Fl (.str x) := ⟨.str (txt x), rfl, by simp [PyData.canLay0, strOk_pl h], rfl⟩
theorem fls_toD : ∀ {xs : List PV}, (∀ x ∈ xs, Fl x) → ∃ ds, toDs xs = some ds ∧ PyData.canLayAll0 ds = true ∧ PyData.depthAll ds = 0 ∧ ds.length = xs.length
  | [], _ => ⟨[], by rw [toDs], by rw [PyData.canLayAll0], by rw [PyData.depthAll], rfl⟩
  | x :: r, h => by
    obtain ⟨d, a1, a2, a3⟩ := h x List.mem_cons_self
    obtain ⟨ds, b1, b2, b3, b4⟩ := fls_toD fun y hy => h y (List.mem_cons_of_mem _ hy)
    refine ⟨d :: ds, ?_, ?_, ?_, ?_⟩
    · rw [toDs, a1, b1]
    · rw [PyData.canLayAll0, a2, b2]; rfl
    · rw [PyData.depthAll, a3, b3]; rfl
    · rw [List.length_cons, b4, List.length_cons]
theorem eqD_nil {xs : List PV} (h : ∀ x ∈ xs, Fl x) : eqD (.lst xs) (.lst []) = some xs.isEmpty := by
  obtain ⟨ds, b1, b2, b3, b4⟩ := fls_toD h
  have e1 : toD (.lst xs) = some (.list ds) := by rw [toD, b1]; rfl
  have e2 : toD (.lst []) = some (.list []) := by rw [toD, toDs]; rfl
  have s1 : SeqAt.shaped (.list ds) = true := by simp [SeqAt.shaped, PyData.canLay0, PyData.depth, b2, b3]
  have s2 : SeqAt.shaped (.list []) = true := by simp [SeqAt.shaped, PyData.canLay0, PyData.depth, PyData.canLayAll0, PyData.depthAll]
  unfold eqD
  rw [e1, e2]
  dsimp only
  rw [if_pos (by rw [s1, s2]; rfl)]
  congr 1
  cases ds with
  | nil =>
    cases xs with
    | nil => simp [PyData.eqv, PyData.eqvAll]
    | cons _ _ => simp at b4
  | cons _ _ =>
    cases xs with
    | nil => simp at b4
    | cons _ _ => simp [PyData.eqv, PyData.eqvAll]

/-! ### stores -/
section
variable {s : PS} {k : Nat} {zs : List SV} {i : Int} {v : PV} {T : Tab} {C : Calls} {fr : Bool}
@[simp] theorem take_set {α : Type} {l : List α} {a : α} : (l.set k a).take l.length = l.set k a := List.take_of_length_le (by simp)
theorem set_at {α : Type} {l : List α} {a : α} (hk : k < l.length) : (l.set k a)[k]? = some a := by simp [hk]
theorem idx_set (hk : k < s.length) (h0 : 0 ≤ i) : idx2 (.ref k) (.v (.int i)) (s.set k (.lst zs)) = gfs zs[i.toNat]? (s.set k (.lst zs)) := by
  have e : (s.set k (.lst zs))[k]? = some (.lst zs) := set_at hk
  cases h : zs[i.toNat]? with
  | some w => exact idx_ref e h0 h
  | none =>
    unfold idx2 seqOf
    dsimp only
    rw [e]
    dsimp only
    unfold ixN
    rw [if_pos h0]
    rw [List.getElem?_eq_none_iff] at h
    rw [if_neg (by omega)]
    rfl
theorem setIx_set (hk : k < s.length) (h0 : 0 ≤ i) (h1 : i < zs.length) : setIx (.ref k) (.v (.int i)) (.v v) (s.set k (.lst zs)) = some (s.set k (.lst (zs.set i.toNat (.v v)))) := by
  rw [setIx_ (set_at hk) h0 h1, List.set_set]
end
/-- a pen's cell -/
abbrev pn (ns : List PV) (t g : Int) : PO := .lst [.v (.lst ns), .v (.int t), .v (.int g)]
theorem bd_of {i : Int} {k : Nat} (h0 : 0 ≤ i) (h : i < 2 ^ k) : Bd k i := by
  unfold Bd
  have : ((2 ^ k : Nat) : Int) = 2 ^ k := by simp
  omega
theorem Bd.of_le {i : Int} (h : Bd 2000 i) : Bd 8000 i := h.mono (by decide)
theorem bin_mulB {T : Tab} {C : Calls} {i j : Int} {s : PS} (h : Bd 2000 i) (h' : Bd 2000 j) : bin2 T C .mul (.v (.int i)) (.v (.int j)) s = .ok (.v (.int (i * j))) s :=
  bin_mul (by have := h.log (by decide); have := h'.log (by decide); omega)
/-! ### a law's draws -/
def drawB (a b c d : Int) : List S := [
  (.ite (.cmp .gt (.idx (.var 0) (.cst (.int 2))) (.cst (.int 0))) [(.set 5 (.op .mod (.bi .int true [(.idx (.var 0) (.cst (.int 2)))]) (.var 1))),
    (.setix (.var 0) (.cst (.int 2)) (.op .fdiv (.bi .int true [(.idx (.var 0) (.cst (.int 2)))]) (.var 1))), (.ret (.var 5))] []),
  (.set 2 (.idx (.var 0) (.cst (.int 1)))),
  (.setix (.var 0) (.cst (.int 1)) (.op .add (.var 2) (.cst (.int 1)))),
  (.set 3 (.op .add (.op .add (.op .mul (.cst (.int a)) (.var 2)) (.cst (.int b))) (.op .mod (.bi .int true [(.bi .sum true [(.sl true (.idx (.var 0) (.cst (.int 0))) false true (.cst .non) (.cst (.int 1)))])]) (.cst (.int 1000003))))),
  (.ite (.cmp .ne (.idx (.var 0) (.cst (.int 0))) (.lst true [])) [(.set 3 (.idx (.idx (.var 0) (.cst (.int 0))) (.op .mod (.bi .int true [(.var 2)]) (.bi .len true [(.idx (.var 0) (.cst (.int 0)))]))))] []),
  (.ite (.and (.cmp .lt (.var 2) (.bi .len true [(.idx (.var 0) (.cst (.int 0)))])) (.cmp .ge (.bi .abs true [(.var 3)]) (.op .pow (.cst (.int 10)) (.cst (.int 18))))) [(.set 6 (.op .sub (.bi .abs true [(.var 3)]) (.op .pow (.cst (.int 10)) (.cst (.int 18))))),
    (.setix (.var 0) (.cst (.int 2)) (.op .fdiv (.bi .int true [(.var 6)]) (.var 1))), (.ret (.op .mod (.bi .int true [(.var 6)]) (.var 1)))] []),
  (.set 4 (.op .mod (.bi .int true [(.op .pow (.op .add (.op .add (.op .mod (.bi .int true [(.var 3)]) (.cst (.int 2147483549))) (.op .mul (.cst (.int c)) (.var 2))) (.cst (.int d))) (.cst (.int 5)))]) (.cst (.int 2147483563)))),
  (.set 4 (.op .mod (.bi .int true [(.op .pow (.op .add (.op .add (.op .mul (.var 4) (.op .add (.op .mul (.cst (.int 2)) (.var 2)) (.cst (.int b)))) (.op .mul (.op .mul (.cst (.int a)) (.var 2)) (.var 2))) (.cst (.int d))) (.cst (.int 3)))]) (.cst (.int 2147483497)))),
  (.ret (.op .mod (.bi .int true [(.op .fdiv (.var 4) (.cst (.int 64)))]) (.var 1)))]
def drawD (a b c d : Int) : DefI := { npar := 2, nslot := 7, dfl := [], esc := false, body := drawB a b c d }
abbrev Sm (i : Int) : Prop := 0 ≤ i ∧ i < 1000000
theorem mod_pos {i j : Int} (h : 0 < j) : 0 ≤ i % j ∧ i % j < j := ⟨Int.emod_nonneg _ (by omega), Int.emod_lt_of_pos _ h⟩
theorem sm_mul {i j : Int} {a b : Int} (h : 0 ≤ i ∧ i < a) (h' : 0 ≤ j ∧ j < b) (ha : 0 ≤ a) : 0 ≤ i * j ∧ i * j ≤ a * b := by
  refine ⟨Int.mul_nonneg h.1 h'.1, ?_⟩
  have h1 : i * j ≤ a * j := Int.mul_le_mul_of_nonneg_right (by omega) h'.1
  have h2 : a * j ≤ a * b := Int.mul_le_mul_of_nonneg_left (by omega) ha
  omega
theorem powG {T : Tab} {C : Calls} {s : PS} {i j : Int} (h : 0 ≤ j ∧ j ≤ 1000000) (h2 : 0 ≤ i ∧ i < 10000000000000000000) : bin2 T C .pow (.v (.int i)) (.v (.int j)) s = .ok (.v (.int (i ^ j.toNat))) s :=
  bin_pow h.1 h.2 (by omega)
theorem draw_ok {T : Tab} {dd : Nat} {a b c d : Int} (hd : T.defs[dd]? = some (drawD a b c d)) (qa : Sm a) (qb : Sm b) (qc : Sm c) (qd : Sm d) {n k : Nat} {s : PS} {ns : List Int} {t g m : Int} (hk : k < s.length) (hl : ns.length ≤ 1000) (ht : 0 ≤ t) (ht1 : t < 10000) (hg : 0 ≤ g) (hm : 0 < m) (hm2 : Bd 8000 m) :
    ∃ r t' g', (0 ≤ r ∧ r < m) ∧ (t ≤ t' ∧ t' ≤ t + 1) ∧ 0 ≤ g' ∧ callN T (n + 1) dd [.ref k, .v (.int m)] (s.set k (pn (ns.map .int) t g)) = .ok (.v (.int r)) (s.set k (pn (ns.map .int) t' g')) := by
  have hm0 : m ≠ 0 := by omega
  have hml : log2i m < 9000 := Nat.lt_of_lt_of_le (hm2.log (by decide)) (by decide)
  by_cases hgp : 0 < g
  · refine ⟨g % m, t, g.fdiv m, mod_pos hm, ⟨by omega, by omega⟩, ?_, ?_⟩
    · rw [Int.fdiv_eq_ediv_of_nonneg _ (by omega)]
      exact Int.ediv_nonneg hg (by omega)
    · rw [call_run hd rfl]
      simp [drawD, drawB, idx_set, setIx_set, hk, hgp, bin_mod hm, bin_fdiv hm0 hml]
  · -- a cell
    have hsum : ∃ z, sumV (Vm.cut (ns.map PV.int) none (some 1)) = some z := by
      rw [show (some (1 : Int)) = some ((1 : Nat) : Int) from rfl, cut_take]
      cases ns with
      | nil => exact ⟨0, rfl⟩
      | cons i r => exact ⟨i, by simp [sumV, sumI]⟩
    obtain ⟨z, hz⟩ := hsum
    have hcl : (Vm.cut (ns.map PV.int) none (some 1)).length ≤ 100000 := by
      rw [show (some (1 : Int)) = some ((1 : Nat) : Int) from rfl, cut_take]
      simp; omega
    have hE : eqD (.lst (ns.map PV.int)) (.lst []) = some (ns.map PV.int).isEmpty := eqD_nil fun x hx => by
      obtain ⟨i, _, rfl⟩ := List.mem_map.mp hx
      exact fl_int
    have b1 : Bd 2000 t := (bd_of (k := 64) ht (by omega)).mono (by decide)
    have b2 : Bd 2000 a := (bd_of (k := 64) qa.1 (by omega)).mono (by decide)
    have b3 : Bd 2000 c := (bd_of (k := 64) qc.1 (by omega)).mono (by decide)
    have b4 : Bd 2000 (2 : Int) := (bd_of (k := 64) (by decide) (by decide)).mono (by decide)
    have h1e : (1000003 : Int) ≠ 0 := by decide
    -- from the mixed cell on
    have rest : ∀ (cell : Int), ∃ r, (0 ≤ r ∧ r < m) ∧ ∀ (g' : Int) (o1 o2 o3 o4 : Option SV), fin false s.length (exSs T (callN T n) s.length [
  (.set 4 (.op .mod (.bi .int true [(.op .pow (.op .add (.op .add (.op .mod (.bi .int true [(.var 3)]) (.cst (.int 2147483549))) (.op .mul (.cst (.int c)) (.var 2))) (.cst (.int d))) (.cst (.int 5)))]) (.cst (.int 2147483563)))),
  (.set 4 (.op .mod (.bi .int true [(.op .pow (.op .add (.op .add (.op .mul (.var 4) (.op .add (.op .mul (.cst (.int 2)) (.var 2)) (.cst (.int b)))) (.op .mul (.op .mul (.cst (.int a)) (.var 2)) (.var 2))) (.cst (.int d))) (.cst (.int 3)))]) (.cst (.int 2147483497)))),
  (.ret (.op .mod (.bi .int true [(.op .fdiv (.var 4) (.cst (.int 64)))]) (.var 1)))] [some (.ref k), some (.v (.int m)), some (.v (.int t)), some (.v (.int cell)), o2, o3, o4] (s.set k (pn (ns.map .int) (t + 1) g'))) = .ok (.v (.int r)) (s.set k (pn (ns.map .int) (t + 1) g')) := by
      intro cell
      have m1 := mod_pos (i := cell) (j := 2147483549) (by decide)
      have c1 := sm_mul (i := c) (j := t) (a := 1000000) (b := 10000) ⟨qc.1, qc.2⟩ ⟨ht, ht1⟩ (by decide)
      generalize hu : cell % 2147483549 = u at m1
      generalize hv : c * t = v at c1
      have p1 : 0 ≤ u + v + d ∧ u + v + d < 10000000000000000000 := by omega
      generalize hw : (u + v + d) ^ (5 : Int).toNat % 2147483563 = w
      have m2 : 0 ≤ w ∧ w < 2147483563 := by rw [← hw]; exact mod_pos (by decide)
      have b5 : Bd 2000 w := (bd_of (k := 64) m2.1 (by omega)).mono (by decide)
      have b6 : Bd 2000 (2 * t + b) := (bd_of (k := 64) (by omega) (by omega)).mono (by decide)
      have c2 := sm_mul (i := a) (j := t) (a := 1000000) (b := 10000) ⟨qa.1, qa.2⟩ ⟨ht, ht1⟩ (by decide)
      generalize hx : a * t = x at c2
      have b7 : Bd 2000 x := (bd_of (k := 64) c2.1 (by omega)).mono (by decide)
      have c3 := sm_mul (i := x) (j := t) (a := 10000000001) (b := 10000) ⟨c2.1, by omega⟩ ⟨ht, ht1⟩ (by decide)
      generalize hy : x * t = y at c3
      have c4 := sm_mul (i := w) (j := 2 * t + b) (a := 2147483563) (b := 1020000) m2 ⟨by omega, by omega⟩ (by decide)
      generalize hq : w * (2 * t + b) = q at c4
      have p2 : 0 ≤ q + y + d ∧ q + y + d < 10000000000000000000 := by omega
      have hw' : (u + v + d) ^ 5 % 2147483563 = w := hw
      refine ⟨((q + y + d) ^ 3 % 2147483497).fdiv 64 % m, mod_pos hm, fun g' o1 o2 o3 o4 => ?_⟩
      simp [bin_mod hm, bin_mod (show (0 : Int) < 2147483549 by decide), bin_mod (show (0 : Int) < 2147483563 by decide), bin_mod (show (0 : Int) < 2147483497 by decide), hu, bin_mulB, b1, b2, b3, b4, b5, b6, b7, hv, hw', hx, hy, hq, powG, p1, p2,
        bin_fdiv (show (64 : Int) ≠ 0 by decide) (show log2i 64 < 9000 by decide)]
    have k1 : (1000003 : Int) ≠ 0 := by decide
    by_cases he : ns = []
    · subst he
      obtain ⟨r, hr, e⟩ := rest (a * t + b + z % 1000003)
      refine ⟨r, t + 1, g, hr, ⟨by omega, by omega⟩, hg, ?_⟩
      have e' := e g none none none none
      have hE' : eqD (.lst []) (.lst []) = some true := hE
      rw [call_run hd rfl]
      simp only [List.map_nil] at e' hz ⊢
      have hc0 : Vm.cut ([] : List PV) none (some 1) = [] := rfl
      have hz0 : sumV [] = some 0 := rfl
      rw [hc0, hz0] at hz
      have hz2 : z = 0 := (Option.some.inj hz).symm
      subst hz2
      simp [drawD, drawB, idx_set, setIx_set, hk, hgp, hc0, hz0, bin_mulB, b1, b2, bin_mod (show (0 : Int) < 1000003 by decide), cmp_ne, hE', Int.not_lt.mpr ht] at e' ⊢
      exact e'
    · have hL : 0 < (ns.length : Int) := by
        cases ns with
        | nil => exact absurd rfl he
        | cons _ _ => simp
      have hj := mod_pos (i := t) hL
      obtain ⟨cell, hcell⟩ : ∃ cell, ns[(t % (ns.length : Int)).toNat]? = some cell := ⟨_, List.getElem?_eq_getElem (by omega)⟩
      have hix : ∀ s' : PS, idx2 (.v (.lst (ns.map .int))) (.v (.int (t % (ns.length : Int)))) s' = .ok (.v (.int cell)) s' := fun s' => idx_lst hj.1 (by rw [List.getElem?_map, hcell]; rfl)
      have hE' : eqD (.lst (ns.map PV.int)) (.lst []) = some false := by
        rw [hE]
        cases ns with
        | nil => exact absurd rfl he
        | cons _ _ => rfl
      obtain ⟨r, hr, e⟩ := rest cell
      generalize habs : (if cell < 0 then -cell else cell) = ab
      by_cases hb : t < (ns.length : Int) ∧ 1000000000000000000 ≤ ab
      · refine ⟨(ab - 1000000000000000000) % m, t + 1, (ab - 1000000000000000000).fdiv m, mod_pos hm, ⟨by omega, by omega⟩, ?_, ?_⟩
        · rw [Int.fdiv_eq_ediv_of_nonneg _ (by omega)]
          exact Int.ediv_nonneg (by omega) (by omega)
        · rw [call_run hd rfl]
          simp [drawD, drawB, idx_set, setIx_set, hk, hgp, hz, hcl, bin_mulB, b1, b2, bin_mod (show (0 : Int) < 1000003 by decide), cmp_ne, hE', bin_mod hL, hix, habs, hb.1, hb.2, powG, bin_mod hm, bin_fdiv hm0 hml]
      · refine ⟨r, t + 1, g, hr, ⟨by omega, by omega⟩, hg, ?_⟩
        have e' := e g none none none none
        rw [call_run hd rfl]
        by_cases hb1 : t < (ns.length : Int)
        · have hb2 : ¬ (1000000000000000000 ≤ ab) := fun z => hb ⟨hb1, z⟩
          simp [drawD, drawB, idx_set, setIx_set, hk, hgp, hz, hcl, bin_mulB, b1, b2, bin_mod (show (0 : Int) < 1000003 by decide), cmp_ne, hE', bin_mod hL, hix, habs, hb1, hb2, powG] at e' ⊢
          exact e'
        · simp [drawD, drawB, idx_set, setIx_set, hk, hgp, hz, hcl, bin_mulB, b1, b2, bin_mod (show (0 : Int) < 1000003 by decide), cmp_ne, hE', bin_mod hL, hix, habs, hb1, powG] at e' ⊢
          exact e'
def pickD (dd : Nat) : DefI := { npar := 2, nslot := 2, dfl := [], esc := false, body := [.ret (.idx (.var 1) (.call dd [.var 0, .bi .len true [.var 1]]))] }
section
variable {T : Tab} {dd pp : Nat} {a b c d : Int} {n k : Nat} {s : PS} {ns : List Int} {t g : Int}
theorem bd_len {m : Nat} (h : m ≤ 1000000) : Bd 8000 (m : Int) := (bd_of (k := 64) (by omega) (by omega)).mono (by decide)
theorem pick_ok (hd : T.defs[dd]? = some (drawD a b c d)) (hp : T.defs[pp]? = some (pickD dd)) (qa : Sm a) (qb : Sm b) (qc : Sm c) (qd : Sm d) {xs : List PV} (hk : k < s.length) (hl : ns.length ≤ 1000) (ht : 0 ≤ t) (ht1 : t < 10000) (hg : 0 ≤ g) (hx : xs ≠ []) (hxl : xs.length ≤ 1000000) :
    ∃ x t' g', x ∈ xs ∧ (t ≤ t' ∧ t' ≤ t + 1) ∧ 0 ≤ g' ∧ callN T (n + 2) pp [.ref k, .v (.lst xs)] (s.set k (pn (ns.map .int) t g)) = .ok (.v x) (s.set k (pn (ns.map .int) t' g')) := by
  have hL : 0 < (xs.length : Int) := by
    cases xs with
    | nil => exact absurd rfl hx
    | cons _ _ => simp
  obtain ⟨r, t', g', hr, h1, h2, e⟩ := draw_ok (n := n) (s := s) (g := g) hd qa qb qc qd hk hl ht ht1 hg hL (bd_len hxl)
  obtain ⟨x, hx⟩ : ∃ x, xs[r.toNat]? = some x := ⟨_, List.getElem?_eq_getElem (by omega)⟩
  refine ⟨x, t', g', List.mem_of_getElem? hx, h1, h2, ?_⟩
  rw [call_run hp rfl]
  simp [pickD, dflt_nil hd rfl, e, idx_lst hr.1 hx]
theorem pickS_ok (hd : T.defs[dd]? = some (drawD a b c d)) (hp : T.defs[pp]? = some (pickD dd)) (qa : Sm a) (qb : Sm b) (qc : Sm c) (qd : Sm d) {w : List Nat} (hk : k < s.length) (hl : ns.length ≤ 1000) (ht : 0 ≤ t) (ht1 : t < 10000) (hg : 0 ≤ g) (hx : w ≠ []) (hxl : w.length ≤ 1000000) :
    ∃ x t' g', x ∈ w ∧ (t ≤ t' ∧ t' ≤ t + 1) ∧ 0 ≤ g' ∧ callN T (n + 2) pp [.ref k, .v (.str w)] (s.set k (pn (ns.map .int) t g)) = .ok (.v (.str [x])) (s.set k (pn (ns.map .int) t' g')) := by
  have hL : 0 < (w.length : Int) := by
    cases w with
    | nil => exact absurd rfl hx
    | cons _ _ => simp
  obtain ⟨r, t', g', hr, h1, h2, e⟩ := draw_ok (n := n) (s := s) (g := g) hd qa qb qc qd hk hl ht ht1 hg hL (bd_len hxl)
  obtain ⟨x, hx⟩ : ∃ x, w[r.toNat]? = some x := ⟨_, List.getElem?_eq_getElem (by omega)⟩
  refine ⟨x, t', g', List.mem_of_getElem? hx, h1, h2, ?_⟩
  rw [call_run hp rfl]
  simp [pickD, dflt_nil hd rfl, e, idx_str hr.1 hx]
end
end Q
end Vm
set_option Elab.async false
set_option maxRecDepth 100000
namespace K01
open Vm PySem
def d_is_integer : DefI := { npar := 1, nslot := 1, dfl := [], esc := false, body := [
  (.ret (.and (.bi (.isinst false [.int]) true [(.var 0)]) (.not (.bi (.isinst false [.bool]) true [(.var 0)]))))] }
def d_number_in : DefI := { npar := 1, nslot := 3, dfl := [], esc := false, body := [
  (.set 1 (.ite (.cmp .eq (.sl true (.var 0) false true (.cst .non) (.cst (.int 1))) (.cst (.str [45]))) (.sl true (.var 0) true false (.cst (.int 1)) (.cst .non)) (.var 0))),
  (.ite (.or (.cmp .eq (.var 1) (.cst (.str []))) (.or (.cmp .gt (.bi .len true [(.var 1)]) (.cst (.int 60))) (.e (.bi .any true [(.lc true (.one 2) (.var 1) [] (.cmp .notin (.var 2) (.cst (.str [48, 49,
    50, 51, 52, 53, 54, 55, 56, 57]))))])))) [(.ret (.cst .non))] []),
  (.ite (.and (.cmp .eq (.idx (.var 1) (.cst (.int 0))) (.cst (.str [48]))) (.cmp .ne (.var 0) (.cst (.str [48])))) [(.ret (.cst .non))] []),
  (.ret (.bi .int true [(.var 0)]))] }
def d_is_ratio : DefI := { npar := 1, nslot := 1, dfl := [], esc := false, body := [
  (.ret (.or (.bi (.isinst false [(.cls 4)]) true [(.var 0)]) (.call 0 [(.var 0)])))] }
def d_ratio_from : DefI := { npar := 2, nslot := 2, dfl := [], esc := false, body := [
  (.ite (.e (.bi (.isinst false [(.cls 4)]) true [(.var 0)])) [(.ret (.var 0))] []),
  (.ite (.not (.e (.call 0 [(.var 0)]))) [(.raise 1 [(.var 1)])] []),
  (.ret (.new 4 [(.var 0)]))] }
def d_ratio_in : DefI := { npar := 1, nslot := 4, dfl := [], esc := false, body := [
  (.set 1 (.bm .split true (.var 0) [(.cst (.str [47]))])),
  (.set 2 (.call 1 [(.idx (.var 1) (.cst (.int 0)))])),
  (.ite (.or (.cmp .is (.var 2) (.cst .non)) (.cmp .gt (.bi .len true [(.var 1)]) (.cst (.int 2)))) [(.ret (.cst .non))] []),
  (.ite (.cmp .eq (.bi .len true [(.var 1)]) (.cst (.int 1))) [(.ret (.new 4 [(.var 2)]))] []),
  (.set 3 (.call 1 [(.idx (.var 1) (.cst (.int 1)))])),
  (.ite (.or (.cmp .is (.var 3) (.cst .non)) (.or (.cmp .lt (.var 3) (.cst (.int 2))) (.cmp .ne (.bi .gcd true [(.var 2), (.var 3)]) (.cst (.int 1))))) [(.ret (.cst .non))] []),
  (.ret (.new 4 [(.var 2), (.var 3)]))] }
def d_take_ratio : DefI := { npar := 1, nslot := 2, dfl := [], esc := false, body := [
  (.set 1 (.ite (.e (.meth (.var 0) 16 [])) (.cst .non) (.call 4 [(.idx (.fld (.var 0) 12) (.fld (.var 0) 13))]))),
  (.ite (.cmp .is (.var 1) (.cst .non)) [(.ex (.meth (.var 0) 17 []))] []),
  (.setfld (.var 0) 13 (.op .add (.fld (.var 0) 13) (.cst (.int 1)))),
  (.ret (.var 1))] }
def d_added : DefI := { npar := 1, nslot := 3, dfl := [], esc := false, body := [
  (.ite (.or (.not (.e (.bi (.isinst true [.list, .tuple]) true [(.var 0)]))) (.not (.e (.bi .all true [(.lc true (.one 2) (.var 0) [] (.call 2 [(.var 2)]))])))) [(.raise 1 [(.cst (.str [114, 97, 116, 105,
    111, 115]))])] []),
  (.set 1 (.new 4 [(.cst (.int 0))])),
  (.loop (.one 2) (.var 0) [(.set 1 (.op .add (.var 1) (.var 2)))]),
  (.ret (.var 1))] }
def d_l_pen : DefI := { npar := 1, nslot := 1, dfl := [], esc := true, body := [
  (.ret (.lst false [(.bi .list true [(.sl true (.var 0) false true (.cst .non) (.cst (.int 63)))]), (.cst (.int 0)), (.cst (.int 0))]))] }
def d_l_draw : DefI := { npar := 2, nslot := 7, dfl := [], esc := false, body := [
  (.ite (.cmp .gt (.idx (.var 0) (.cst (.int 2))) (.cst (.int 0))) [(.set 5 (.op .mod (.bi .int true [(.idx (.var 0) (.cst (.int 2)))]) (.var 1))),
    (.setix (.var 0) (.cst (.int 2)) (.op .fdiv (.bi .int true [(.idx (.var 0) (.cst (.int 2)))]) (.var 1))), (.ret (.var 5))] []),
  (.set 2 (.idx (.var 0) (.cst (.int 1)))),
  (.setix (.var 0) (.cst (.int 1)) (.op .add (.var 2) (.cst (.int 1)))),
  (.set 3 (.op .add (.op .add (.op .mul (.cst (.int 48661)) (.var 2)) (.cst (.int 29))) (.op .mod (.bi .int true [(.bi .sum true [(.sl true (.idx (.var 0) (.cst (.int 0))) false true (.cst .non) (.cst (.int 1)))])]) (.cst (.int 1000003))))),
  (.ite (.cmp .ne (.idx (.var 0) (.cst (.int 0))) (.lst true [])) [(.set 3 (.idx (.idx (.var 0) (.cst (.int 0))) (.op .mod (.bi .int true [(.var 2)]) (.bi .len true [(.idx (.var 0) (.cst (.int 0)))]))))] []),
  (.ite (.and (.cmp .lt (.var 2) (.bi .len true [(.idx (.var 0) (.cst (.int 0)))])) (.cmp .ge (.bi .abs true [(.var 3)]) (.op .pow (.cst (.int 10)) (.cst (.int 18))))) [(.set 6 (.op .sub (.bi .abs true [(.var 3)]) (.op .pow (.cst (.int 10)) (.cst (.int 18))))),
    (.setix (.var 0) (.cst (.int 2)) (.op .fdiv (.bi .int true [(.var 6)]) (.var 1))), (.ret (.op .mod (.bi .int true [(.var 6)]) (.var 1)))] []),
  (.set 4 (.op .mod (.bi .int true [(.op .pow (.op .add (.op .add (.op .mod (.bi .int true [(.var 3)]) (.cst (.int 2147483549))) (.op .mul (.cst (.int 50129)) (.var 2))) (.cst (.int 929))) (.cst (.int 5)))]) (.cst (.int 2147483563)))),
  (.set 4 (.op .mod (.bi .int true [(.op .pow (.op .add (.op .add (.op .mul (.var 4) (.op .add (.op .mul (.cst (.int 2)) (.var 2)) (.cst (.int 29)))) (.op .mul (.op .mul (.cst (.int 48661)) (.var 2)) (.var 2))) (.cst (.int 929))) (.cst (.int 3)))]) (.cst (.int 2147483497)))),
  (.ret (.op .mod (.bi .int true [(.op .fdiv (.var 4) (.cst (.int 64)))]) (.var 1)))] }
def d_l_pick : DefI := { npar := 2, nslot := 2, dfl := [], esc := false, body := [
  (.ret (.idx (.var 1) (.call 8 [(.var 0), (.bi .len true [(.var 1)])])))] }
def d_l_number : DefI := { npar := 1, nslot := 3, dfl := [], esc := false, body := [
  (.set 1 (.cst (.int 0))),
  (.loop (.one 2) (.rng [(.call 9 [(.var 0), (.lst true [(.cst (.int 0)), (.cst (.int 1)), (.cst (.int 1)), (.cst (.int 1)), (.cst (.int 2)),
    (.cst (.int 9))])])]) [(.set 1 (.op .add (.op .mul (.var 1) (.op .pow (.cst (.int 10)) (.cst (.int 7)))) (.call 8 [(.var 0), (.op .pow (.cst (.int 10)) (.cst (.int 7)))])))]),
  (.ite (.cmp .eq (.call 8 [(.var 0), (.cst (.int 3))]) (.cst (.int 0))) [(.set 1 (.op .mod (.bi .int true [(.var 1)]) (.cst (.int 12))))] []),
  (.ite (.cmp .eq (.call 8 [(.var 0), (.cst (.int 24))]) (.cst (.int 0))) [(.set 1 (.op .sub (.op .pow (.cst (.int 10)) (.cst (.int 60))) (.cst (.int 1))))] []),
  (.set 1 (.op .mod (.bi .int true [(.var 1)]) (.op .pow (.cst (.int 10)) (.cst (.int 60))))),
  (.ret (.ite (.cmp .eq (.call 8 [(.var 0), (.cst (.int 2))]) (.cst (.int 0))) (.var 1) (.neg (.var 1))))] }
def d_l_common : DefI := { npar := 2, nslot := 3, dfl := [], esc := false, body := [
  (.par 0 1 (.bi .abs true [(.var 0)]) (.bi .abs true [(.var 1)])),
  (.loop (.one 2) (.rng [(.cst (.int 1200))]) [(.ite (.cmp .eq (.var 1) (.cst (.int 0))) [.brk] []), (.par 0 1 (.var 1) (.op .mod (.bi .int true [(.var 0)]) (.var 1)))]),
  (.ret (.var 0))] }
def d_l_low : DefI := { npar := 2, nslot := 3, dfl := [], esc := false, body := [
  (.set 2 (.call 11 [(.var 0), (.var 1)])),
  (.ite (.cmp .lt (.var 1) (.cst (.int 0))) [(.set 2 (.neg (.var 2)))] []),
  (.ret (.tup [(.op .fdiv (.var 0) (.var 2)), (.op .fdiv (.var 1) (.var 2))]))] }
def d_l_text : DefI := { npar := 1, nslot := 1, dfl := [], esc := false, body := [
  (.ret (.ite (.cmp .eq (.idx (.var 0) (.cst (.int 1))) (.cst (.int 1))) (.bi .str true [(.idx (.var 0) (.cst (.int 0)))]) (.op .add (.op .add (.bi .str true [(.idx (.var 0) (.cst (.int 0)))]) (.cst (.str [47]))) (.bi .str true [(.idx (.var 0) (.cst (.int 1)))]))))] }
def d_l_is : DefI := { npar := 2, nslot := 3, dfl := [], esc := false, body := [
  (.ite (.or (.not (.e (.bi (.isinst false [(.cls 4)]) true [(.var 0)]))) (.cmp .ne (.bi .repr true [(.tup [(.fld (.var 0) 14),
    (.fld (.var 0) 15)])]) (.bi .repr true [(.var 1)]))) [(.ret (.cst (.bl false)))] []),
  (.set 2 (.ite (.cmp .gt (.idx (.var 1) (.cst (.int 0))) (.cst (.int 0))) (.cst (.int 1)) (.ite (.cmp .lt (.idx (.var 1) (.cst (.int 0))) (.cst (.int 0))) (.neg (.cst (.int 1))) (.cst (.int 0))))),
  (.ite (.or (.cmp .ne (.bi .repr true [(.tup [(.fld (.var 0) 18), (.fld (.var 0) 19)])]) (.bi .repr true [(.tup [(.var 2),
    (.cmp .eq (.idx (.var 1) (.cst (.int 1))) (.cst (.int 1)))])])) (.cmp .ne (.bi .bool true [(.var 0)]) (.cmp .ne (.var 2) (.cst (.int 0))))) [(.ret (.cst (.bl false)))] []),
  (.ret (.and (.cmp .eq (.bi .str true [(.var 0)]) (.call 13 [(.var 1)])) (.cmp .eq (.bi .repr true [(.var 0)]) (.call 13 [(.var 1)]))))] }
def d_l_whole : DefI := { npar := 1, nslot := 3, dfl := [], esc := false, body := [
  (.set 1 (.ite (.cmp .eq (.sl true (.var 0) false true (.cst .non) (.cst (.int 1))) (.cst (.str [45]))) (.sl true (.var 0) true false (.cst (.int 1)) (.cst .non)) (.var 0))),
  (.ite (.or (.cmp .eq (.var 1) (.cst (.str []))) (.or (.cmp .gt (.bi .len true [(.var 1)]) (.cst (.int 60))) (.cmp .ne (.lc true (.one 2) (.var 1) [(.cmp .notin (.var 2) (.cst (.str [48, 49, 50, 51, 52,
    53, 54, 55, 56, 57])))] (.var 2)) (.lst true [])))) [(.ret (.cst .non))] []),
  (.ite (.and (.cmp .eq (.idx (.var 1) (.cst (.int 0))) (.cst (.str [48]))) (.cmp .ne (.var 0) (.cst (.str [48])))) [(.ret (.cst .non))] []),
  (.ret (.bi .int true [(.var 0)]))] }
def d_l_pair : DefI := { npar := 1, nslot := 4, dfl := [], esc := false, body := [
  (.set 1 (.bm .split true (.var 0) [(.cst (.str [47]))])),
  (.set 2 (.lc true (.one 3) (.var 1) [] (.call 15 [(.var 3)]))),
  (.ite (.or (.cmp .inn (.cst .non) (.var 2)) (.cmp .gt (.bi .len true [(.var 2)]) (.cst (.int 2)))) [(.ret (.cst .non))] []),
  (.ite (.cmp .eq (.bi .len true [(.var 2)]) (.cst (.int 1))) [(.ret (.tup [(.idx (.var 2) (.cst (.int 0))), (.cst (.int 1))]))] []),
  (.ite (.or (.cmp .lt (.idx (.var 2) (.cst (.int 1))) (.cst (.int 2))) (.cmp .ne (.call 11 [(.idx (.var 2) (.cst (.int 0))), (.idx (.var 2) (.cst (.int 1)))]) (.cst (.int 1)))) [(.ret (.cst .non))] []),
  (.ret (.tup [(.idx (.var 2) (.cst (.int 0))), (.idx (.var 2) (.cst (.int 1)))]))] }
def d_l_read_right : DefI := { npar := 1, nslot := 7, dfl := [], esc := false, body := [
  (.set 1 (.ite (.e (.bi (.isinst false [.str]) true [(.var 0)])) (.bm .split true (.var 0) [(.cst (.str [32]))]) (.lst true [(.cst (.str []))]))),
  (.set 2 (.call 16 [(.idx (.var 1) (.cst (.int 0)))])),
  (.set 3 (.ite (.cmp .is (.var 2) (.cst .non)) (.tup [(.cst (.int 0)), (.cst (.int 0))]) (.ite (.cmp .gt (.bi .len true [(.var 1)]) (.cst (.int 1))) (.tup [(.cst (.int 0)),
    (.cst (.int 1))]) (.cst .non)))),
  (.tset [5, 6] (.tup [(.cst .non), (.cst .non)])),
  (.tryx [(.set 5 (.smeth 4 20 [(.var 0)]))] 2 4 6 (.tup [(.fld 10), (.fld 11)])),
  (.ite (.cmp .isnot (.var 3) (.cst .non)) [(.ret (.cmp .eq (.bi .repr true [(.var 6)]) (.bi .repr true [(.var 3)])))] []),
  (.ret (.and (.cmp .is (.var 6) (.cst .non)) (.call 14 [(.var 5), (.var 2)])))] }
def d_l_bent : DefI := { npar := 2, nslot := 8, dfl := [], esc := false, body := [
  (.set 2 (.call 13 [(.var 1)])),
  (.set 3 (.cst (.str [32, 33, 34, 35, 36, 38, 39, 40, 41, 42, 43, 44, 45, 46, 47, 48, 49, 50, 51, 52, 53, 54, 55, 56, 57, 58, 59, 60, 61, 62, 63, 64, 65, 66, 67, 68, 69, 70, 71, 72, 73, 74, 75, 76, 77,
    78, 79, 80, 81, 82, 83, 84, 85, 86, 87, 88, 89, 90, 91, 92, 93, 94, 95, 96, 97, 98, 99, 100, 101, 102, 103, 104, 105, 106, 107, 108, 109, 110, 111, 112, 113, 114, 115, 116, 117, 118, 119, 120, 121,
    122, 123, 124, 125, 126, 10]))),
  (.set 4 (.ite (.cmp .eq (.call 8 [(.var 0), (.cst (.int 2))]) (.cst (.int 0))) (.call 9 [(.var 0), (.var 3)]) (.call 9 [(.var 0), (.cst (.str [48, 47, 45, 43, 32, 49, 57]))]))),
  (.set 5 (.call 8 [(.var 0), (.op .add (.bi .len true [(.var 2)]) (.cst (.int 1)))])),
  (.set 6 (.call 8 [(.var 0), (.cst (.int 9))])),
  (.ite (.cmp .lt (.var 6) (.cst (.int 3))) [(.ret (.op .add (.op .add (.sl true (.var 2) false true (.cst .non) (.var 5)) (.var 4)) (.sl true (.var 2) true false (.var 5) (.cst .non))))] []),
  (.ite (.cmp .eq (.var 6) (.cst (.int 3))) [(.ret (.op .add (.sl true (.var 2) false true (.cst .non) (.var 5)) (.sl true (.var 2) true false (.op .add (.var 5) (.cst (.int 1))) (.cst .non))))] []),
  (.ite (.cmp .eq (.var 6) (.cst (.int 4))) [(.ret (.op .add (.op .add (.sl true (.var 2) false true (.cst .non) (.var 5)) (.var 4)) (.sl true (.var 2) true false (.op .add (.var 5) (.cst (.int 1))) (.cst .non))))] []),
  (.ite (.cmp .eq (.var 6) (.cst (.int 5))) [(.set 7 (.op .add (.cst (.int 1)) (.call 8 [(.var 0), (.cst (.int 4))]))),
    (.ret (.op .add (.op .add (.bi .str true [(.op .mul (.idx (.var 1) (.cst (.int 0))) (.var 7))]) (.cst (.str [47]))) (.bi .str true [(.op .mul (.idx (.var 1) (.cst (.int 1))) (.var 7))])))] []),
  (.ite (.cmp .eq (.var 6) (.cst (.int 6))) [(.ret (.op .add (.var 2) (.call 9 [(.var 0), (.lst true [(.cst (.str [32])), (.cst (.str [32, 49])), (.op .add (.cst (.str [47])) (.var 2)),
    (.op .add (.cst (.str [32])) (.var 2))])])))] []),
  (.ite (.cmp .eq (.var 6) (.cst (.int 7))) [(.ret (.op .add (.call 9 [(.var 0), (.lst true [(.cst (.str [49])), (.cst (.str [45, 49])), (.cst (.str [49, 47,
    49]))])]) (.op .mul (.cst (.str [48])) (.call 9 [(.var 0), (.lst true [(.cst (.int 58)), (.cst (.int 59)), (.cst (.int 60)), (.cst (.int 61)), (.cst (.int 70))])]))))] []),
  (.ret (.call 9 [(.var 0), (.lst true [(.cst .non), (.cst (.int 5)), (.cst (.bl true)), (.tup [(.cst (.str [49]))]), (.lst true [(.cst (.str [49]))]), (.var 1), (.cst (.str []))])]))] }
def d_l_refused : DefI := { npar := 3, nslot := 5, dfl := [], esc := false, body := [
  (.set 3 (.cst .non)),
  (.tryx [(.ite (.cmp .eq (.var 0) (.cst (.int 0))) [(.set 1 (.op .add (.var 1) (.var 2)))] [(.ite (.cmp .eq (.var 0) (.cst (.int 1))) [(.set 1 (.op .sub (.var 1) (.var 2)))] [(.ite (.cmp .eq (.var 0) (.cst (.int 2))) [(.set 1 (.op .mul (.var 1) (.var 2)))] [(.ite (.cmp .eq (.var 0) (.cst (.int 3))) [(.ex (.meth (.var 1) 21 [(.var 2)]))] [(.ite (.cmp .eq (.var 0) (.cst (.int 4))) [(.ex (.meth (.var 1) 22 [(.var 2)]))] [(.ite (.cmp .eq (.var 0) (.cst (.int 5))) [(.ex (.meth (.var 1) 23 [(.var 2)]))] [(.ite (.cmp .eq (.var 0) (.cst (.int 6))) [(.ex (.smeth 4 24 [(.var 2)]))] [(.ite (.cmp .eq (.var 0) (.cst (.int 7))) [(.ex (.new 4 [(.var 2),
    (.var 2)]))] [(.ite (.cmp .eq (.var 0) (.cst (.int 8))) [(.ex (.new 4 [(.cst (.int 7)), (.var 2)]))] [(.ite (.cmp .eq (.var 0) (.cst (.int 9))) [(.ex (.call 6 [(.lst true [(.cst (.int 1)), (.var 1),
    (.var 2)])]))] [(.ex (.call 6 [(.var 2)]))])])])])])])])])])])] 1 4 3 (.ite (.and (.isx 0) (.not (.isx 2))) (.fld 9) .non)),
  (.ret (.var 3))] }
def d_l_pairs_right : DefI := { npar := 4, nslot := 10, dfl := [], esc := false, body := [
  (.tset [6, 7] (.var 1)),
  (.tset [8, 9] (.var 3)),
  (.ite (.not (.e (.call 14 [(.op .add (.var 0) (.var 2)), (.call 12 [(.op .add (.op .mul (.var 6) (.var 9)) (.op .mul (.var 8) (.var 7))),
    (.op .mul (.var 7) (.var 9))])]))) [(.ret (.cst (.bl false)))] []),
  (.ite (.not (.e (.call 14 [(.op .sub (.var 0) (.var 2)), (.call 12 [(.op .sub (.op .mul (.var 6) (.var 9)) (.op .mul (.var 8) (.var 7))),
    (.op .mul (.var 7) (.var 9))])]))) [(.ret (.cst (.bl false)))] []),
  (.ite (.not (.e (.call 14 [(.op .mul (.var 0) (.var 2)), (.call 12 [(.op .mul (.var 6) (.var 8)), (.op .mul (.var 7) (.var 9))])]))) [(.ret (.cst (.bl false)))] []),
  (.set 4 (.op .sub (.op .mul (.var 6) (.var 9)) (.op .mul (.var 8) (.var 7)))),
  (.set 5 (.ite (.cmp .lt (.var 4) (.cst (.int 0))) (.neg (.cst (.int 1))) (.ite (.cmp .gt (.var 4) (.cst (.int 0))) (.cst (.int 1)) (.cst (.int 0))))),
  (.ite (.cmp .ne (.bi .repr true [(.tup [(.meth (.var 0) 22 [(.var 2)]), (.meth (.var 0) 23 [(.var 2)]), (.cmp .eq (.var 0) (.var 2))])]) (.bi .repr true [(.tup [(.var 5),
    (.cmp .lt (.var 5) (.cst (.int 0))), (.cmp .eq (.var 5) (.cst (.int 0)))])])) [(.ret (.cst (.bl false)))] []),
  (.ite (.cmp .eq (.var 8) (.cst (.int 0))) [(.ret (.cmp .eq (.call 19 [(.cst (.int 3)), (.var 0), (.var 2)]) (.cst (.str [122, 101, 114, 111]))))] []),
  (.ret (.call 14 [(.meth (.var 0) 21 [(.var 2)]), (.call 12 [(.op .mul (.var 6) (.var 9)), (.op .mul (.var 7) (.var 8))])]))] }
def d_law : DefI := { npar := 1, nslot := 19, dfl := [], esc := false, body := [
  (.set 1 (.call 7 [(.var 0)])),
  (.set 2 (.lst false [])),
  (.loop (.one 3) (.rng [(.cst (.int 3))]) [(.par 17 12 (.call 10 [(.var 1)]) (.call 10 [(.var 1)])),
    (.set 12 (.ite (.cmp .ne (.var 12) (.cst (.int 0))) (.var 12) (.op .add (.cst (.int 1)) (.call 8 [(.var 1), (.cst (.int 9))])))), (.par 16 18 (.call 12 [(.var 17), (.var 12)]) (.new 4 [(.var 17),
    (.var 12)])), (.ite (.or (.not (.e (.call 14 [(.var 18), (.var 16)]))) (.or (.not (.cmp .eq (.var 18) (.newK 4 [(.idx (.var 16) (.cst (.int 1))), (.idx (.var 16) (.cst (.int 0)))] [1,
    0]))) (.not (.e (.call 14 [(.new 4 [(.var 17)]), (.tup [(.var 17), (.cst (.int 1))])]))))) [(.ret (.cst (.bl false)))] []), (.ite (.or (.not (.e (.call 14 [(.neg (.var 18)),
    (.tup [(.neg (.idx (.var 16) (.cst (.int 0)))), (.idx (.var 16) (.cst (.int 1)))])]))) (.not (.e (.call 14 [(.bi .abs true [(.var 18)]), (.tup [(.bi .abs true [(.idx (.var 16) (.cst (.int 0)))]),
    (.idx (.var 16) (.cst (.int 1)))])])))) [(.ret (.cst (.bl false)))] []), (.ite (.not (.e (.call 14 [(.smeth 4 24 [(.var 18)]), (.var 16)]))) [(.ret (.cst (.bl false)))] []),
    (.ite (.or (.not (.e (.call 14 [(.smeth 4 24 [(.var 17)]), (.tup [(.var 17), (.cst (.int 1))])]))) (.or (.not (.e (.call 17 [(.call 13 [(.var 16)])]))) (.not (.e (.call 17 [(.call 18 [(.var 1),
    (.var 16)])]))))) [(.ret (.cst (.bl false)))] []), (.ex (.bm .append true (.var 2) [(.tup [(.var 18), (.var 16)])]))]),
  (.frz 2),
  (.set 4 (.call 10 [(.var 1)])),
  (.set 5 (.op .add (.var 2) (.lst true [(.tup [(.var 4), (.tup [(.var 4), (.cst (.int 1))])])]))),
  (.par 13 14 (.call 9 [(.var 1), (.var 2)]) (.call 9 [(.var 1), (.var 5)])),
  (.ite (.or (.not (.e (.call 20 [(.idx (.var 13) (.cst (.int 0))), (.idx (.var 13) (.cst (.int 1))), (.idx (.var 14) (.cst (.int 0))),
    (.idx (.var 14) (.cst (.int 1)))]))) (.not (.e (.call 20 [(.idx (.var 13) (.cst (.int 0))), (.idx (.var 13) (.cst (.int 1))), (.var 4), (.tup [(.var 4),
    (.cst (.int 1))])])))) [(.ret (.cst (.bl false)))] []),
  (.ite (.or (.not (.e (.call 20 [(.idx (.var 13) (.cst (.int 0))), (.idx (.var 13) (.cst (.int 1))), (.idx (.var 13) (.cst (.int 0))),
    (.idx (.var 13) (.cst (.int 1)))]))) (.not (.e (.call 17 [(.bi .str true [(.op .mul (.idx (.var 13) (.cst (.int 0))) (.idx (.idx (.var 2) (.cst (.int 0))) (.cst (.int 0))))])])))) [(.ret (.cst (.bl false)))] []),
  (.set 6 (.tup [(.cst (.int 0)), (.cst (.int 1))])),
  (.set 7 (.call 8 [(.var 1), (.cst (.int 5))])),
  (.loop (.many [15,
    16]) (.sl true (.var 5) false true (.cst .non) (.var 7)) [(.set 6 (.call 12 [(.op .add (.op .mul (.idx (.var 6) (.cst (.int 0))) (.idx (.var 16) (.cst (.int 1)))) (.op .mul (.idx (.var 16) (.cst (.int 0))) (.idx (.var 6) (.cst (.int 1))))),
    (.op .mul (.idx (.var 6) (.cst (.int 1))) (.idx (.var 16) (.cst (.int 1))))]))]),
  (.set 8 (.lc true (.many [15, 16]) (.sl true (.var 5) false true (.cst .non) (.var 7)) [] (.var 15))),
  (.ite (.or (.not (.e (.call 14 [(.call 6 [(.var 8)]), (.var 6)]))) (.not (.e (.call 14 [(.callK 6 [(.bi .tuple true [(.var 8)])] [0]), (.var 6)])))) [(.ret (.cst (.bl false)))] []),
  (.set 9 (.call 9 [(.var 1), (.lst true [(.cst .non), (.cst (.bl true)), (.cst (.bl false)), (.cst (.str [49])), (.cst (.str [49, 47, 50])), (.tup [(.cst (.int 1)), (.cst (.int 2))]),
    (.lst true [(.lst true [(.cst (.int 1))])]), .edct])])),
  (.set 10 (.lst true [(.cst (.str [111, 116, 104, 101, 114])), (.cst (.str [111, 116, 104, 101, 114])), (.cst (.str [111, 116, 104, 101, 114])), (.cst (.str [111, 116, 104, 101, 114])), (.cst (.str [111,
    116, 104, 101, 114])), (.cst (.str [111, 116, 104, 101, 114])), (.cst (.str [118, 97, 108, 117, 101])), (.cst (.str [116, 111, 112])), (.cst (.str [98, 111, 116, 116, 111, 109])), (.cst (.str [114,
    97, 116, 105, 111, 115]))])),
  (.set 11 (.call 8 [(.var 1), (.cst (.int 10))])),
  (.ite (.or (.cmp .ne (.call 19 [(.var 11), (.idx (.var 13) (.cst (.int 0))), (.var 9)]) (.idx (.var 10) (.var 11))) (.or (.cmp .ne (.call 19 [(.cst (.int 8)), (.idx (.var 13) (.cst (.int 0))),
    (.cst (.int 0))]) (.cst (.str [98, 111, 116, 116, 111,
    109]))) (.or (.cmp .eq (.idx (.var 13) (.cst (.int 0))) (.var 9)) (.cmp .eq (.idx (.var 13) (.cst (.int 0))) (.call 13 [(.idx (.var 13) (.cst (.int 1)))]))))) [(.ret (.cst (.bl false)))] []),
  (.ret (.and (.cmp .eq (.call 19 [(.cst (.int 10)), (.idx (.var 13) (.cst (.int 0))), (.call 9 [(.var 1), (.lst true [(.cst .non), (.cst (.int 5)), (.cst (.str [49, 50])),
    (.idx (.var 13) (.cst (.int 0))), .edct, (.lst true [(.idx (.var 13) (.cst (.int 0))), (.cst (.str [49]))])])])]) (.cst (.str [114, 97, 116, 105, 111,
    115]))) (.and (.cmp .eq (.ccon 4 26) (.cst (.int 60))) (.call 14 [(.idx (.var 13) (.cst (.int 0))), (.idx (.var 13) (.cst (.int 1)))]))))] }
def d_Scan_init : DefI := { npar := 3, nslot := 3, dfl := [(.int 0)], esc := false, body := [
  (.ite (.not (.e (.bi (.isinst false [.str]) true [(.var 1)]))) [(.raise 2 [(.var 2), (.cst (.int 0))])] []),
  (.setfld (.var 0) 10 (.var 2)),
  (.setfld (.var 0) 12 (.bi .tuple true [(.bm .split true (.var 1) [(.cst (.str [32]))])])),
  (.setfld (.var 0) 13 (.cst (.int 0)))] }
def d_Scan_refuse : DefI := { npar := 2, nslot := 2, dfl := [.non], esc := false, body := [
  (.raise 2 [(.fld (.var 0) 10), (.ite (.cmp .is (.var 1) (.cst .non)) (.fld (.var 0) 13) (.var 1))])] }
def d_Scan_is_over : DefI := { npar := 1, nslot := 1, dfl := [], esc := false, body := [
  (.ret (.cmp .ge (.fld (.var 0) 13) (.bi .len true [(.fld (.var 0) 12)])))] }
def d_Scan_finish : DefI := { npar := 1, nslot := 1, dfl := [], esc := false, body := [
  (.ite (.not (.e (.meth (.var 0) 16 []))) [(.ex (.meth (.var 0) 17 []))] [])] }
def d_Ratio_init : DefI := { npar := 3, nslot := 4, dfl := [(.int 1)], esc := false, body := [
  (.ite (.not (.e (.call 0 [(.var 1)]))) [(.raise 1 [(.cst (.str [116, 111, 112]))])] []),
  (.ite (.or (.not (.e (.call 0 [(.var 2)]))) (.cmp .eq (.var 2) (.cst (.int 0)))) [(.raise 1 [(.cst (.str [98, 111, 116, 116, 111, 109]))])] []),
  (.set 3 (.bi .gcd true [(.var 1), (.var 2)])),
  (.ite (.cmp .lt (.var 2) (.cst (.int 0))) [(.set 3 (.neg (.var 3)))] []),
  (.setfld (.var 0) 14 (.op .fdiv (.var 1) (.var 3))),
  (.setfld (.var 0) 15 (.op .fdiv (.var 2) (.var 3)))] }
def d_Ratio_of : DefI := { npar := 1, nslot := 1, dfl := [], esc := false, body := [
  (.ret (.call 3 [(.var 0), (.cst (.str [118, 97, 108, 117, 101]))]))] }
def d_Ratio_read : DefI := { npar := 1, nslot := 3, dfl := [], esc := false, body := [
  (.set 1 (.new 3 [(.var 0)])),
  (.set 2 (.call 5 [(.var 1)])),
  (.ex (.meth (.var 1) 27 [])),
  (.ret (.var 2))] }
def d_Ratio_sign : DefI := { npar := 1, nslot := 1, dfl := [], esc := false, body := [
  (.ite (.cmp .lt (.fld (.var 0) 14) (.cst (.int 0))) [(.ret (.neg (.cst (.int 1))))] []),
  (.ret (.ite (.cmp .gt (.fld (.var 0) 14) (.cst (.int 0))) (.cst (.int 1)) (.cst (.int 0))))] }
def d_Ratio_is_whole : DefI := { npar := 1, nslot := 1, dfl := [], esc := false, body := [
  (.ret (.cmp .eq (.fld (.var 0) 15) (.cst (.int 1))))] }
def d_Ratio_add : DefI := { npar := 2, nslot := 3, dfl := [], esc := false, body := [
  (.set 2 (.call 3 [(.var 1), (.cst (.str [111, 116, 104, 101, 114]))])),
  (.ret (.new 4 [(.op .add (.op .mul (.fld (.var 0) 14) (.fld (.var 2) 15)) (.op .mul (.fld (.var 2) 14) (.fld (.var 0) 15))), (.op .mul (.fld (.var 0) 15) (.fld (.var 2) 15))]))] }
def d_Ratio_sub : DefI := { npar := 2, nslot := 3, dfl := [], esc := false, body := [
  (.set 2 (.call 3 [(.var 1), (.cst (.str [111, 116, 104, 101, 114]))])),
  (.ret (.new 4 [(.op .sub (.op .mul (.fld (.var 0) 14) (.fld (.var 2) 15)) (.op .mul (.fld (.var 2) 14) (.fld (.var 0) 15))), (.op .mul (.fld (.var 0) 15) (.fld (.var 2) 15))]))] }
def d_Ratio_mul : DefI := { npar := 2, nslot := 3, dfl := [], esc := false, body := [
  (.set 2 (.call 3 [(.var 1), (.cst (.str [111, 116, 104, 101, 114]))])),
  (.ret (.new 4 [(.op .mul (.fld (.var 0) 14) (.fld (.var 2) 14)), (.op .mul (.fld (.var 0) 15) (.fld (.var 2) 15))]))] }
def d_Ratio_neg : DefI := { npar := 1, nslot := 1, dfl := [], esc := false, body := [
  (.ret (.new 4 [(.neg (.fld (.var 0) 14)), (.fld (.var 0) 15)]))] }
def d_Ratio_abs : DefI := { npar := 1, nslot := 1, dfl := [], esc := false, body := [
  (.ret (.new 4 [(.bi .abs true [(.fld (.var 0) 14)]), (.fld (.var 0) 15)]))] }
def d_Ratio_bool : DefI := { npar := 1, nslot := 1, dfl := [], esc := false, body := [
  (.ret (.bi .bool true [(.cmp .ne (.fld (.var 0) 14) (.cst (.int 0)))]))] }
def d_Ratio_eq : DefI := { npar := 2, nslot := 2, dfl := [], esc := false, body := [
  (.ite (.e (.bi (.isinst false [(.cls 4)]) true [(.var 1)])) [(.ret (.and (.cmp .eq (.fld (.var 0) 14) (.fld (.var 1) 14)) (.cmp .eq (.fld (.var 0) 15) (.fld (.var 1) 15))))] []),
  (.ret (.and (.call 0 [(.var 1)]) (.and (.cmp .eq (.fld (.var 0) 15) (.cst (.int 1))) (.cmp .eq (.fld (.var 0) 14) (.var 1)))))] }
def d_Ratio_str : DefI := { npar := 1, nslot := 1, dfl := [], esc := false, body := [
  (.ite (.cmp .eq (.fld (.var 0) 15) (.cst (.int 1))) [(.ret (.bi .str true [(.fld (.var 0) 14)]))] []),
  (.ret (.fmt [(.fld (.var 0) 14), (.cst (.str [47])), (.fld (.var 0) 15)]))] }
def d_Ratio_repr : DefI := { npar := 1, nslot := 1, dfl := [], esc := false, body := [
  (.ret (.bi .str true [(.var 0)]))] }
def d_Ratio_over : DefI := { npar := 2, nslot := 3, dfl := [], esc := false, body := [
  (.set 2 (.call 3 [(.var 1), (.cst (.str [111, 116, 104, 101, 114]))])),
  (.ite (.cmp .eq (.fld (.var 2) 14) (.cst (.int 0))) [(.raise 1 [(.cst (.str [122, 101, 114, 111]))])] []),
  (.ret (.new 4 [(.op .mul (.fld (.var 0) 14) (.fld (.var 2) 15)), (.op .mul (.fld (.var 0) 15) (.fld (.var 2) 14))]))] }
def d_Ratio_compared : DefI := { npar := 2, nslot := 4, dfl := [], esc := false, body := [
  (.set 2 (.call 3 [(.var 1), (.cst (.str [111, 116, 104, 101, 114]))])),
  (.set 3 (.op .sub (.op .mul (.fld (.var 0) 14) (.fld (.var 2) 15)) (.op .mul (.fld (.var 2) 14) (.fld (.var 0) 15)))),
  (.ite (.cmp .lt (.var 3) (.cst (.int 0))) [(.ret (.neg (.cst (.int 1))))] []),
  (.ret (.ite (.cmp .gt (.var 3) (.cst (.int 0))) (.cst (.int 1)) (.cst (.int 0))))] }
def d_Ratio_is_below : DefI := { npar := 2, nslot := 2, dfl := [], esc := false, body := [
  (.ret (.cmp .eq (.meth (.var 0) 22 [(.var 1)]) (.neg (.cst (.int 1)))))] }
def k_HallError : ClsI := { frozen := true, init := none, flds := [], meths := [], props := [], stats := [], cons := [], supers := [0], isx := true }
def k_BadRatio : ClsI := { frozen := true, init := some 0, flds := [9], meths := [], props := [], stats := [], cons := [], supers := [1, 0], isx := true }
def k_BadText : ClsI := { frozen := true, init := some 0, flds := [10, 11], meths := [], props := [], stats := [], cons := [], supers := [2, 0], isx := true }
def k_Scan : ClsI := { frozen := false, init := some 22, flds := [10, 12, 13], meths := [(17, 23), (16, 24), (27, 25)], props := [], stats := [], cons := [], supers := [3], isx := false }
def k_Ratio : ClsI := { frozen := true, init := some 26, flds := [14, 15], meths := [(1, 31), (2, 32), (3, 33), (4, 34), (5, 35), (6, 36), (0, 37), (7, 38), (8, 39), (21, 40), (22, 41), (23, 42)], props := [(18, 29), (19, 30)], stats := [(24, 27), (20, 28)], cons := [(26, (.int 60))], supers := [4], isx := false }
def tab : Tab := ⟨[k_HallError, k_BadRatio, k_BadText, k_Scan, k_Ratio],
  [d_is_integer, d_number_in, d_is_ratio, d_ratio_from, d_ratio_in, d_take_ratio, d_added, d_l_pen, d_l_draw, d_l_pick, d_l_number, d_l_common, d_l_low, d_l_text, d_l_is, d_l_whole, d_l_pair,
    d_l_read_right, d_l_bent, d_l_refused, d_l_pairs_right, d_law, d_Scan_init, d_Scan_refuse, d_Scan_is_over, d_Scan_finish, d_Ratio_init, d_Ratio_of, d_Ratio_read, d_Ratio_sign, d_Ratio_is_whole,
    d_Ratio_add, d_Ratio_sub, d_Ratio_mul, d_Ratio_neg, d_Ratio_abs, d_Ratio_bool, d_Ratio_eq, d_Ratio_str, d_Ratio_repr, d_Ratio_over, d_Ratio_compared, d_Ratio_is_below]⟩
theorem c_HallError : tab.cls[0]? = some k_HallError := rfl
theorem c_BadRatio : tab.cls[1]? = some k_BadRatio := rfl
theorem c_BadText : tab.cls[2]? = some k_BadText := rfl
theorem c_Scan : tab.cls[3]? = some k_Scan := rfl
theorem c_Ratio : tab.cls[4]? = some k_Ratio := rfl
theorem a_is_integer : tab.defs[0]? = some d_is_integer := rfl
theorem a_number_in : tab.defs[1]? = some d_number_in := rfl
theorem a_is_ratio : tab.defs[2]? = some d_is_ratio := rfl
theorem a_ratio_from : tab.defs[3]? = some d_ratio_from := rfl
theorem a_ratio_in : tab.defs[4]? = some d_ratio_in := rfl
theorem a_take_ratio : tab.defs[5]? = some d_take_ratio := rfl
theorem a_added : tab.defs[6]? = some d_added := rfl
theorem a_l_pen : tab.defs[7]? = some d_l_pen := rfl
theorem a_l_draw : tab.defs[8]? = some d_l_draw := rfl
theorem a_l_pick : tab.defs[9]? = some d_l_pick := rfl
theorem a_l_number : tab.defs[10]? = some d_l_number := rfl
theorem a_l_common : tab.defs[11]? = some d_l_common := rfl
theorem a_l_low : tab.defs[12]? = some d_l_low := rfl
theorem a_l_text : tab.defs[13]? = some d_l_text := rfl
theorem a_l_is : tab.defs[14]? = some d_l_is := rfl
theorem a_l_whole : tab.defs[15]? = some d_l_whole := rfl
theorem a_l_pair : tab.defs[16]? = some d_l_pair := rfl
theorem a_l_read_right : tab.defs[17]? = some d_l_read_right := rfl
theorem a_l_bent : tab.defs[18]? = some d_l_bent := rfl
theorem a_l_refused : tab.defs[19]? = some d_l_refused := rfl
theorem a_l_pairs_right : tab.defs[20]? = some d_l_pairs_right := rfl
theorem a_law : tab.defs[21]? = some d_law := rfl
theorem a_Scan_init : tab.defs[22]? = some d_Scan_init := rfl
theorem a_Scan_refuse : tab.defs[23]? = some d_Scan_refuse := rfl
theorem a_Scan_is_over : tab.defs[24]? = some d_Scan_is_over := rfl
theorem a_Scan_finish : tab.defs[25]? = some d_Scan_finish := rfl
theorem a_Ratio_init : tab.defs[26]? = some d_Ratio_init := rfl
theorem a_Ratio_of : tab.defs[27]? = some d_Ratio_of := rfl
theorem a_Ratio_read : tab.defs[28]? = some d_Ratio_read := rfl
theorem a_Ratio_sign : tab.defs[29]? = some d_Ratio_sign := rfl
theorem a_Ratio_is_whole : tab.defs[30]? = some d_Ratio_is_whole := rfl
theorem a_Ratio_add : tab.defs[31]? = some d_Ratio_add := rfl
theorem a_Ratio_sub : tab.defs[32]? = some d_Ratio_sub := rfl
theorem a_Ratio_mul : tab.defs[33]? = some d_Ratio_mul := rfl
theorem a_Ratio_neg : tab.defs[34]? = some d_Ratio_neg := rfl
theorem a_Ratio_abs : tab.defs[35]? = some d_Ratio_abs := rfl
theorem a_Ratio_bool : tab.defs[36]? = some d_Ratio_bool := rfl
theorem a_Ratio_eq : tab.defs[37]? = some d_Ratio_eq := rfl
theorem a_Ratio_str : tab.defs[38]? = some d_Ratio_str := rfl
theorem a_Ratio_repr : tab.defs[39]? = some d_Ratio_repr := rfl
theorem a_Ratio_over : tab.defs[40]? = some d_Ratio_over := rfl
theorem a_Ratio_compared : tab.defs[41]? = some d_Ratio_compared := rfl
theorem a_Ratio_is_below : tab.defs[42]? = some d_Ratio_is_below := rfl
@[simp] theorem f_is_integer {xs : List SV} : dflt tab 0 xs = xs := dflt_nil (di := d_is_integer) rfl rfl
@[simp] theorem f_number_in {xs : List SV} : dflt tab 1 xs = xs := dflt_nil (di := d_number_in) rfl rfl
@[simp] theorem f_is_ratio {xs : List SV} : dflt tab 2 xs = xs := dflt_nil (di := d_is_ratio) rfl rfl
@[simp] theorem f_ratio_from {xs : List SV} : dflt tab 3 xs = xs := dflt_nil (di := d_ratio_from) rfl rfl
@[simp] theorem f_ratio_in {xs : List SV} : dflt tab 4 xs = xs := dflt_nil (di := d_ratio_in) rfl rfl
@[simp] theorem f_take_ratio {xs : List SV} : dflt tab 5 xs = xs := dflt_nil (di := d_take_ratio) rfl rfl
@[simp] theorem f_added {xs : List SV} : dflt tab 6 xs = xs := dflt_nil (di := d_added) rfl rfl
@[simp] theorem f_l_pen {xs : List SV} : dflt tab 7 xs = xs := dflt_nil (di := d_l_pen) rfl rfl
@[simp] theorem f_l_draw {xs : List SV} : dflt tab 8 xs = xs := dflt_nil (di := d_l_draw) rfl rfl
@[simp] theorem f_l_pick {xs : List SV} : dflt tab 9 xs = xs := dflt_nil (di := d_l_pick) rfl rfl
@[simp] theorem f_l_number {xs : List SV} : dflt tab 10 xs = xs := dflt_nil (di := d_l_number) rfl rfl
@[simp] theorem f_l_common {xs : List SV} : dflt tab 11 xs = xs := dflt_nil (di := d_l_common) rfl rfl
@[simp] theorem f_l_low {xs : List SV} : dflt tab 12 xs = xs := dflt_nil (di := d_l_low) rfl rfl
@[simp] theorem f_l_text {xs : List SV} : dflt tab 13 xs = xs := dflt_nil (di := d_l_text) rfl rfl
@[simp] theorem f_l_is {xs : List SV} : dflt tab 14 xs = xs := dflt_nil (di := d_l_is) rfl rfl
@[simp] theorem f_l_whole {xs : List SV} : dflt tab 15 xs = xs := dflt_nil (di := d_l_whole) rfl rfl
@[simp] theorem f_l_pair {xs : List SV} : dflt tab 16 xs = xs := dflt_nil (di := d_l_pair) rfl rfl
@[simp] theorem f_l_read_right {xs : List SV} : dflt tab 17 xs = xs := dflt_nil (di := d_l_read_right) rfl rfl
@[simp] theorem f_l_bent {xs : List SV} : dflt tab 18 xs = xs := dflt_nil (di := d_l_bent) rfl rfl
@[simp] theorem f_l_refused {xs : List SV} : dflt tab 19 xs = xs := dflt_nil (di := d_l_refused) rfl rfl
@[simp] theorem f_l_pairs_right {xs : List SV} : dflt tab 20 xs = xs := dflt_nil (di := d_l_pairs_right) rfl rfl
@[simp] theorem f_law {xs : List SV} : dflt tab 21 xs = xs := dflt_nil (di := d_law) rfl rfl
@[simp] theorem f_Scan_is_over {xs : List SV} : dflt tab 24 xs = xs := dflt_nil (di := d_Scan_is_over) rfl rfl
@[simp] theorem f_Scan_finish {xs : List SV} : dflt tab 25 xs = xs := dflt_nil (di := d_Scan_finish) rfl rfl
@[simp] theorem f_Ratio_of {xs : List SV} : dflt tab 27 xs = xs := dflt_nil (di := d_Ratio_of) rfl rfl
@[simp] theorem f_Ratio_read {xs : List SV} : dflt tab 28 xs = xs := dflt_nil (di := d_Ratio_read) rfl rfl
@[simp] theorem f_Ratio_sign {xs : List SV} : dflt tab 29 xs = xs := dflt_nil (di := d_Ratio_sign) rfl rfl
@[simp] theorem f_Ratio_is_whole {xs : List SV} : dflt tab 30 xs = xs := dflt_nil (di := d_Ratio_is_whole) rfl rfl
@[simp] theorem f_Ratio_add {xs : List SV} : dflt tab 31 xs = xs := dflt_nil (di := d_Ratio_add) rfl rfl
@[simp] theorem f_Ratio_sub {xs : List SV} : dflt tab 32 xs = xs := dflt_nil (di := d_Ratio_sub) rfl rfl
@[simp] theorem f_Ratio_mul {xs : List SV} : dflt tab 33 xs = xs := dflt_nil (di := d_Ratio_mul) rfl rfl
@[simp] theorem f_Ratio_neg {xs : List SV} : dflt tab 34 xs = xs := dflt_nil (di := d_Ratio_neg) rfl rfl
@[simp] theorem f_Ratio_abs {xs : List SV} : dflt tab 35 xs = xs := dflt_nil (di := d_Ratio_abs) rfl rfl
@[simp] theorem f_Ratio_bool {xs : List SV} : dflt tab 36 xs = xs := dflt_nil (di := d_Ratio_bool) rfl rfl
@[simp] theorem f_Ratio_eq {xs : List SV} : dflt tab 37 xs = xs := dflt_nil (di := d_Ratio_eq) rfl rfl
@[simp] theorem f_Ratio_str {xs : List SV} : dflt tab 38 xs = xs := dflt_nil (di := d_Ratio_str) rfl rfl
@[simp] theorem f_Ratio_repr {xs : List SV} : dflt tab 39 xs = xs := dflt_nil (di := d_Ratio_repr) rfl rfl
@[simp] theorem f_Ratio_over {xs : List SV} : dflt tab 40 xs = xs := dflt_nil (di := d_Ratio_over) rfl rfl
@[simp] theorem f_Ratio_compared {xs : List SV} : dflt tab 41 xs = xs := dflt_nil (di := d_Ratio_compared) rfl rfl
@[simp] theorem f_Ratio_is_below {xs : List SV} : dflt tab 42 xs = xs := dflt_nil (di := d_Ratio_is_below) rfl rfl
section
variable {C : Calls} {s : PS} {fs : List PV} {xs : List SV} {σ : Sl}
@[simp] theorem xs_0_0 : xsub tab 0 0 = true := (rfl)
@[simp] theorem xs_0_1 : xsub tab 0 1 = false := (rfl)
@[simp] theorem xs_0_2 : xsub tab 0 2 = false := (rfl)
@[simp] theorem xf_1_9 : xfld tab ⟨1, fs⟩ 9 = fs[0]? := (rfl)
@[simp] theorem xs_1_0 : xsub tab 1 0 = true := (rfl)
@[simp] theorem xs_1_1 : xsub tab 1 1 = true := (rfl)
@[simp] theorem xs_1_2 : xsub tab 1 2 = false := (rfl)
@[simp] theorem xf_2_10 : xfld tab ⟨2, fs⟩ 10 = fs[0]? := (rfl)
@[simp] theorem xf_2_11 : xfld tab ⟨2, fs⟩ 11 = fs[1]? := (rfl)
@[simp] theorem xs_2_0 : xsub tab 2 0 = true := (rfl)
@[simp] theorem xs_2_1 : xsub tab 2 1 = false := (rfl)
@[simp] theorem xs_2_2 : xsub tab 2 2 = true := (rfl)
@[simp] theorem fl_3_10 : fld2 tab C (.v (.ins 3 fs)) 10 s = Q.gf fs[0]? s := Q.fld_ins c_Scan rfl
@[simp] theorem fl_3_12 : fld2 tab C (.v (.ins 3 fs)) 12 s = Q.gf fs[1]? s := Q.fld_ins c_Scan rfl
@[simp] theorem fl_3_13 : fld2 tab C (.v (.ins 3 fs)) 13 s = Q.gf fs[2]? s := Q.fld_ins c_Scan rfl
@[simp] theorem sf_3_10 {zs : List SV} {v : PV} : setFld tab (.ref s.length) 10 (.v v) (s ++ [.ins 3 zs]) = if 0 ≤ zs.length then some (s ++ [.ins 3 (if 0 < zs.length then zs.set 0 (.v v) else zs ++ [.v v])]) else none := Q.setFld_end c_Scan rfl
@[simp] theorem fe_3_10 {zs : List SV} : fld2 tab C (.ref s.length) 10 (s ++ [.ins 3 zs]) = Q.gfs zs[0]? (s ++ [.ins 3 zs]) := Q.fld_end c_Scan rfl
@[simp] theorem sf_3_12 {zs : List SV} {v : PV} : setFld tab (.ref s.length) 12 (.v v) (s ++ [.ins 3 zs]) = if 1 ≤ zs.length then some (s ++ [.ins 3 (if 1 < zs.length then zs.set 1 (.v v) else zs ++ [.v v])]) else none := Q.setFld_end c_Scan rfl
@[simp] theorem fe_3_12 {zs : List SV} : fld2 tab C (.ref s.length) 12 (s ++ [.ins 3 zs]) = Q.gfs zs[1]? (s ++ [.ins 3 zs]) := Q.fld_end c_Scan rfl
@[simp] theorem sf_3_13 {zs : List SV} {v : PV} : setFld tab (.ref s.length) 13 (.v v) (s ++ [.ins 3 zs]) = if 2 ≤ zs.length then some (s ++ [.ins 3 (if 2 < zs.length then zs.set 2 (.v v) else zs ++ [.v v])]) else none := Q.setFld_end c_Scan rfl
@[simp] theorem fe_3_13 {zs : List SV} : fld2 tab C (.ref s.length) 13 (s ++ [.ins 3 zs]) = Q.gfs zs[2]? (s ++ [.ins 3 zs]) := Q.fld_end c_Scan rfl
@[simp] theorem mo_3_17 : methOf tab 3 17 = some 23 := Q.mo_ c_Scan rfl
@[simp] theorem mo_3_16 : methOf tab 3 16 = some 24 := Q.mo_ c_Scan rfl
@[simp] theorem mo_3_27 : methOf tab 3 27 = some 25 := Q.mo_ c_Scan rfl
@[simp] theorem mn_3_0 : methOf tab 3 0 = none := Q.mo_none c_Scan rfl
@[simp] theorem mn_3_1 : methOf tab 3 1 = none := Q.mo_none c_Scan rfl
@[simp] theorem mn_3_2 : methOf tab 3 2 = none := Q.mo_none c_Scan rfl
@[simp] theorem mn_3_3 : methOf tab 3 3 = none := Q.mo_none c_Scan rfl
@[simp] theorem mn_3_4 : methOf tab 3 4 = none := Q.mo_none c_Scan rfl
@[simp] theorem mn_3_5 : methOf tab 3 5 = none := Q.mo_none c_Scan rfl
@[simp] theorem mn_3_6 : methOf tab 3 6 = none := Q.mo_none c_Scan rfl
@[simp] theorem mn_3_7 : methOf tab 3 7 = none := Q.mo_none c_Scan rfl
@[simp] theorem mn_3_8 : methOf tab 3 8 = none := Q.mo_none c_Scan rfl
@[simp] theorem it_3_3 : insTy tab 3 (.cls 3) = some true := Q.insTy_c c_Scan
@[simp] theorem it_3_4 : insTy tab 3 (.cls 4) = some false := Q.insTy_c c_Scan
@[simp] theorem fl_4_14 : fld2 tab C (.v (.ins 4 fs)) 14 s = Q.gf fs[0]? s := Q.fld_ins c_Ratio rfl
@[simp] theorem fl_4_15 : fld2 tab C (.v (.ins 4 fs)) 15 s = Q.gf fs[1]? s := Q.fld_ins c_Ratio rfl
@[simp] theorem sf_4_14 {zs : List SV} {v : PV} : setFld tab (.ref s.length) 14 (.v v) (s ++ [.ins 4 zs]) = if 0 ≤ zs.length then some (s ++ [.ins 4 (if 0 < zs.length then zs.set 0 (.v v) else zs ++ [.v v])]) else none := Q.setFld_end c_Ratio rfl
@[simp] theorem fe_4_14 {zs : List SV} : fld2 tab C (.ref s.length) 14 (s ++ [.ins 4 zs]) = Q.gfs zs[0]? (s ++ [.ins 4 zs]) := Q.fld_end c_Ratio rfl
@[simp] theorem sf_4_15 {zs : List SV} {v : PV} : setFld tab (.ref s.length) 15 (.v v) (s ++ [.ins 4 zs]) = if 1 ≤ zs.length then some (s ++ [.ins 4 (if 1 < zs.length then zs.set 1 (.v v) else zs ++ [.v v])]) else none := Q.setFld_end c_Ratio rfl
@[simp] theorem fe_4_15 {zs : List SV} : fld2 tab C (.ref s.length) 15 (s ++ [.ins 4 zs]) = Q.gfs zs[1]? (s ++ [.ins 4 zs]) := Q.fld_end c_Ratio rfl
@[simp] theorem cc_4_26 : evE tab C (.ccon 4 26) σ s = .ok (.v (.int 60)) s := Q.ccon_ c_Ratio rfl
@[simp] theorem sm_4_24 : Q.kSm tab C 4 24 xs s = C 27 (dflt tab 27 xs) s := Q.sm_ c_Ratio rfl
@[simp] theorem sm_4_20 : Q.kSm tab C 4 20 xs s = C 28 (dflt tab 28 xs) s := Q.sm_ c_Ratio rfl
@[simp] theorem pr_4_18 : fld2 tab C (.v (.ins 4 fs)) 18 s = Q.noEx (C 29 [.v (.ins 4 fs)] s) := Q.fld_prop c_Ratio rfl rfl
@[simp] theorem pr_4_19 : fld2 tab C (.v (.ins 4 fs)) 19 s = Q.noEx (C 30 [.v (.ins 4 fs)] s) := Q.fld_prop c_Ratio rfl rfl
@[simp] theorem mo_4_1 : methOf tab 4 1 = some 31 := Q.mo_ c_Ratio rfl
@[simp] theorem mo_4_2 : methOf tab 4 2 = some 32 := Q.mo_ c_Ratio rfl
@[simp] theorem mo_4_3 : methOf tab 4 3 = some 33 := Q.mo_ c_Ratio rfl
@[simp] theorem mo_4_4 : methOf tab 4 4 = some 34 := Q.mo_ c_Ratio rfl
@[simp] theorem mo_4_5 : methOf tab 4 5 = some 35 := Q.mo_ c_Ratio rfl
@[simp] theorem mo_4_6 : methOf tab 4 6 = some 36 := Q.mo_ c_Ratio rfl
@[simp] theorem mo_4_0 : methOf tab 4 0 = some 37 := Q.mo_ c_Ratio rfl
@[simp] theorem mo_4_7 : methOf tab 4 7 = some 38 := Q.mo_ c_Ratio rfl
@[simp] theorem mo_4_8 : methOf tab 4 8 = some 39 := Q.mo_ c_Ratio rfl
@[simp] theorem mo_4_21 : methOf tab 4 21 = some 40 := Q.mo_ c_Ratio rfl
@[simp] theorem mo_4_22 : methOf tab 4 22 = some 41 := Q.mo_ c_Ratio rfl
@[simp] theorem mo_4_23 : methOf tab 4 23 = some 42 := Q.mo_ c_Ratio rfl
@[simp] theorem it_4_3 : insTy tab 4 (.cls 3) = some false := Q.insTy_c c_Ratio
@[simp] theorem it_4_4 : insTy tab 4 (.cls 4) = some true := Q.insTy_c c_Ratio
@[simp] theorem f_Scan_init_2 {x0 x1 : SV} : dflt tab 22 [x0, x1] = [x0, x1, .v (.int 0)] := (rfl)
@[simp] theorem f_Scan_init_3 {x0 x1 x2 : SV} : dflt tab 22 [x0, x1, x2] = [x0, x1, x2] := (rfl)
@[simp] theorem f_Scan_refuse_1 {x0 : SV} : dflt tab 23 [x0] = [x0, .v .non] := (rfl)
@[simp] theorem f_Scan_refuse_2 {x0 x1 : SV} : dflt tab 23 [x0, x1] = [x0, x1] := (rfl)
@[simp] theorem f_Ratio_init_2 {x0 x1 : SV} : dflt tab 26 [x0, x1] = [x0, x1, .v (.int 1)] := (rfl)
@[simp] theorem f_Ratio_init_3 {x0 x1 x2 : SV} : dflt tab 26 [x0, x1, x2] = [x0, x1, x2] := (rfl)
end
def lay : Lay where
  T := tab
  gs := [("FIGURES", .con (.str [48, 49, 50, 51, 52, 53, 54, 55, 56, 57])), ("LONGEST", .con (.int 60)), ("HallError", .cl 0), ("BadRatio", .cl 1), ("BadText", .cl 2), ("Scan", .cl 3), ("Ratio", .cl 4),
    ("is_integer", .fn 0), ("number_in", .fn 1), ("is_ratio", .fn 2), ("ratio_from", .fn 3), ("ratio_in", .fn 4), ("take_ratio", .fn 5), ("added", .fn 6), ("_law_pen", .fn 7), ("_law_draw", .fn 8),
    ("_law_pick", .fn 9), ("_law_number", .fn 10), ("_law_common", .fn 11), ("_law_low", .fn 12), ("_law_text", .fn 13), ("_law_is", .fn 14), ("_law_whole", .fn 15), ("_law_pair", .fn 16),
    ("_law_read_right", .fn 17), ("_law_bent", .fn 18), ("_law_refused", .fn 19), ("_law_pairs_right", .fn 20), ("gcd", .gcd)]
  nb := ["abs", "all", "any", "bool", "int", "isinstance", "len", "list", "range", "repr", "str", "sum", "tuple"]
  kw := [⟨26, 1, [15, 14], [0, 2, 1]⟩, ⟨6, 0, [25], [0]⟩]
  nms := ["__eq__", "__add__", "__sub__", "__mul__", "__neg__", "__abs__", "__bool__", "__str__", "__repr__", "part", "line", "word", "words", "spot", "top", "bottom", "is_over", "refuse", "sign", "is_whole",
    "read", "over", "compared", "is_below", "of", "ratios", "MOST_DIGITS", "finish"]
  cas := [66, 88, 109, 199, 369]
  fas := [56, 116, 210, 217, 224, 231, 378, 385, 392, 399, 406, 413, 420, 427, 434, 439, 444, 451, 458, 465, 472, 477, 131, 139, 146, 196, 246, 253, 263, 273, 281, 289, 296, 303, 310, 317, 324, 331, 338, 345, 352, 359, 366]
  pss := [(["value"] : List Str), (["word"] : List Str), (["value"] : List Str), (["value", "part"] : List Str), (["word"] : List Str), (["scan"] : List Str), (["ratios"] : List Str),
    (["_law_script"] : List Str), (["_law_pen_here", "_law_many"] : List Str), (["_law_pen_here", "_law_some"] : List Str), (["_law_pen_here"] : List Str), (["_law_one", "_law_other"] : List Str),
    (["_law_top", "_law_bottom"] : List Str), (["_law_pair_here"] : List Str), (["_law_found", "_law_pair_here"] : List Str), (["_law_word"] : List Str), (["_law_word"] : List Str),
    (["_law_text_here"] : List Str), (["_law_pen_here", "_law_pair_here"] : List Str), (["_law_way", "_law_ratio", "_law_odd"] : List Str), (["_law_one", "_law_one_pair", "_law_other",
    "_law_other_pair"] : List Str), (["_law_script"] : List Str), (["self", "text", "line"] : List Str), (["self", "at"] : List Str), (["self"] : List Str), (["self"] : List Str), (["self", "top",
    "bottom"] : List Str), (["value"] : List Str), (["text"] : List Str), (["self"] : List Str), (["self"] : List Str), (["self", "other"] : List Str), (["self", "other"] : List Str), (["self",
    "other"] : List Str), (["self"] : List Str), (["self"] : List Str), (["self"] : List Str), (["self", "other"] : List Str), (["self"] : List Str), (["self"] : List Str), (["self",
    "other"] : List Str), (["self", "other"] : List Str), (["self", "other"] : List Str)]
  Ns := [(["value"] : List Str), (["word", "plain", "sign"] : List Str), (["value"] : List Str), (["value", "part"] : List Str), (["word", "parts", "top", "bottom"] : List Str), (["scan", "found"] : List Str),
    (["ratios", "total", "one"] : List Str), (["_law_script"] : List Str), (["_law_pen_here", "_law_many", "_law_turn", "_law_cell", "_law_mixed", "_law_digit", "_law_great"] : List Str),
    (["_law_pen_here", "_law_some"] : List Str), (["_law_pen_here", "_law_number_here", "_law_turn"] : List Str), (["_law_one", "_law_other", "_law_turn"] : List Str), (["_law_top", "_law_bottom",
    "_law_common_here"] : List Str), (["_law_pair_here"] : List Str), (["_law_found", "_law_pair_here", "_law_sign"] : List Str), (["_law_word", "_law_plain", "_law_sign"] : List Str), (["_law_word",
    "_law_parts", "_law_some", "_law_part"] : List Str), (["_law_text_here", "_law_words", "_law_pair_here", "_law_due", "error", "_law_found", "_law_told"] : List Str), (["_law_pen_here",
    "_law_pair_here", "_law_text_here", "_law_signs", "_law_sign", "_law_at", "_law_way", "_law_times"] : List Str), (["_law_way", "_law_ratio", "_law_odd", "_law_part", "error"] : List Str),
    (["_law_one", "_law_one_pair", "_law_other", "_law_other_pair", "_law_apart", "_law_order", "_law_top", "_law_bottom", "_law_more", "_law_under"] : List Str), (["_law_script", "_law_pen_here",
    "_law_made", "_law_turn", "_law_whole_here", "_law_some", "_law_total", "_law_many", "_law_listed", "_law_odd", "_law_due", "_law_way", "_law_bottom", "_law_one", "_law_other", "_law_value",
    "_law_pair_here", "_law_top", "_law_ratio"] : List Str), (["self", "text", "line"] : List Str), (["self", "at"] : List Str), (["self"] : List Str), (["self"] : List Str), (["self", "top", "bottom",
    "common"] : List Str), (["value"] : List Str), (["text", "scan", "found"] : List Str), (["self"] : List Str), (["self"] : List Str), (["self", "other", "more"] : List Str), (["self", "other",
    "less"] : List Str), (["self", "other", "times"] : List Str), (["self"] : List Str), (["self"] : List Str), (["self"] : List Str), (["self", "other"] : List Str), (["self"] : List Str),
    (["self"] : List Str), (["self", "other", "under"] : List Str), (["self", "other", "less", "apart"] : List Str), (["self", "other"] : List Str)]
end K01
set_option Elab.async false
set_option linter.all false
set_option maxRecDepth 100000
set_option maxHeartbeats 2000000
namespace K01
open Vm Vm.Q PySem
abbrev rat (a b : Int) : PV := .ins 4 [.int a, .int b]
theorem sign_ok (n : Nat) (a b : Int) (s : PS) : callN tab (n + 1) 29 [.v (rat a b)] s = .ok (.v (.int (if a < 0 then -1 else if 0 < a then 1 else 0))) s := by
  rw [call_run a_Ratio_sign rfl]
  simp [d_Ratio_sign]
  repeat' split <;> simp_all
theorem whole_ok (n : Nat) (a b : Int) (s : PS) : callN tab (n + 1) 30 [.v (rat a b)] s = .ok (.v (.bl (decide (b = 1)))) s := by
  rw [call_run a_Ratio_is_whole rfl]
  simp [d_Ratio_is_whole, cmp_eq, eqD_int]
def isI : PV → Bool
  | .int _ => true
  | _ => false
def OkV : PV → Prop
  | .cls _ => False
  | .ins c _ => c = 4
  | _ => True
section
variable {i : Int} {k : Bool} {w : List Nat} {xs ys : List PV} {c : Nat}
@[simp] theorem ok_non : OkV .non := trivial
@[simp] theorem ok_int : OkV (.int i) := trivial
@[simp] theorem ok_bl : OkV (.bl k) := trivial
@[simp] theorem ok_str : OkV (.str w) := trivial
@[simp] theorem ok_tup : OkV (.tup xs) := trivial
@[simp] theorem ok_lst : OkV (.lst xs) := trivial
@[simp] theorem ok_clst : OkV (.clst xs) := trivial
@[simp] theorem ok_dct : OkV (.dct xs ys) := trivial
@[simp] theorem ok_ins : OkV (.ins 4 xs) := rfl
@[simp] theorem isI_non : isI .non = false := rfl
@[simp] theorem isI_int : isI (.int i) = true := rfl
@[simp] theorem isI_bl : isI (.bl k) = false := rfl
@[simp] theorem isI_str : isI (.str w) = false := rfl
@[simp] theorem isI_tup : isI (.tup xs) = false := rfl
@[simp] theorem isI_lst : isI (.lst xs) = false := rfl
@[simp] theorem isI_clst : isI (.clst xs) = false := rfl
@[simp] theorem isI_dct : isI (.dct xs ys) = false := rfl
@[simp] theorem isI_ins : isI (.ins c xs) = false := rfl
end
@[simp] theorem isint_ok {n : Nat} {x : PV} {s : PS} (h : OkV x) : callN tab (n + 1) 0 [.v x] s = .ok (.v (.bl (isI x))) s := by
  rw [call_run a_is_integer rfl]
  cases x <;> simp [OkV] at h <;> simp [d_is_integer]
theorem init_ok {n : Nat} {a b : Int} {s : PS} (hb : b ≠ 0) (hd : Bd 8000 b) : callN tab (n + 2) 26 [.ref s.length, .v (.int a), .v (.int b)] (s ++ [.ins 4 []]) = .ok (.v .non) (s ++ [.ins 4 ([PV.int (nr a b).1, .int (nr a b).2].map .v)]) := by
  rw [call_run a_Ratio_init rfl]
  have h1 : log2i (gc a b) < 9000 := Nat.lt_of_lt_of_le ((hd.le (gc_le hb)).log (by decide)) (by decide)
  have h2 := gc_ne (a := a) hb
  unfold gc at h1 h2
  unfold nr gc
  by_cases hn : b < 0
  · rw [if_pos hn] at h1 h2 ⊢
    simp [d_Ratio_init, hb, cmp_eq, eqD_int, hn, bin_fdiv h2 h1]
  · rw [if_neg hn] at h1 h2 ⊢
    simp [d_Ratio_init, hb, cmp_eq, eqD_int, hn, bin_fdiv h2 h1]
theorem new_ok {n : Nat} {a b : Int} {s : PS} (hb : b ≠ 0) (hd : Bd 8000 b) : make tab (callN tab (n + 2)) 4 [.v (.int a), .v (.int b)] s = .ok (.v (rat (nr a b).1 (nr a b).2)) s :=
  make_ok c_Ratio rfl rfl rfl (by simpa using init_ok hb hd)
theorem new1_ok {n : Nat} {a : Int} {s : PS} : make tab (callN tab (n + 2)) 4 [.v (.int a)] s = .ok (.v (rat a 1)) s := by
  refine make_ok c_Ratio rfl rfl rfl ?_
  have := init_ok (n := n) (a := a) (b := 1) (s := s) (by decide) (by unfold Bd; exact Nat.one_lt_two_pow (by decide))
  rw [nr_self Nm.one] at this
  simpa using this
theorem newK_ok {n : Nat} {a b : Int} {s : PS} (hb : b ≠ 0) (hd : Bd 8000 b) : makeF tab (callN tab (n + 2)) 4 [.v (.int a), .v (.int b)] s = .ok (.v (rat (nr a b).1 (nr a b).2)) s :=
  makeF_ok c_Ratio rfl rfl rfl (init_ok hb hd)
/-- an error's part -/
abbrev str (s : String) : PV := .str (s.toList.map Char.toNat)
theorem newBad1 {n : Nat} {x y : PV} {s : PS} (hx : OkV x) (h : isI x = false) : make tab (callN tab (n + 2)) 4 [.v x, .v y] s = .ex ⟨1, [.str [116, 111, 112]]⟩ s := by
  refine make_ex c_Ratio rfl rfl (t := [.ins 4 []]) ?_
  simp
  rw [call_run a_Ratio_init rfl]
  simp [d_Ratio_init, hx, h]
theorem newBad2 {n : Nat} {a : Int} {y : PV} {s : PS} (hy : OkV y) (h : isI y = false ∨ y = .int 0) : make tab (callN tab (n + 2)) 4 [.v (.int a), .v y] s = .ex ⟨1, [.str [98, 111, 116, 116, 111, 109]]⟩ s := by
  refine make_ex c_Ratio rfl rfl (t := [.ins 4 []]) ?_
  simp
  rw [call_run a_Ratio_init rfl]
  rcases h with h | rfl
  · simp [d_Ratio_init, hy, h]
  · simp [d_Ratio_init, cmp_eq, eqD_int]
end K01
set_option Elab.async false
set_option linter.all false
set_option maxRecDepth 100000
set_option maxHeartbeats 2000000
set_option exponentiation.threshold 20000
namespace K01
open Vm Vm.Q PySem
/-- a Ratio or an int, and its top and bottom -/
inductive Val : PV → Int → Int → Prop
  | int (i : Int) : Val (.int i) i 1
  | rat (a b : Int) : Val (rat a b) a b
theorem bin_mulB {T : Tab} {C : Calls} {i j : Int} {s : PS} (h : Bd 2000 i) (h' : Bd 2000 j) : bin2 T C .mul (.v (.int i)) (.v (.int j)) s = .ok (.v (.int (i * j))) s :=
  bin_mul (by have := h.log (by decide); have := h'.log (by decide); omega)
theorem rf_val {n : Nat} {x p : PV} {c d : Int} {s : PS} (h : Val x c d) : callN tab (n + 3) 3 [.v x, .v p] s = .ok (.v (rat c d)) s := by
  rw [call_run a_ratio_from rfl]
  cases h <;> simp [d_ratio_from, new1_ok]
/-- neither -/
def No (x : PV) : Prop := OkV x ∧ isI x = false ∧ ∀ fs, x ≠ .ins 4 fs
theorem isr_no {x : PV} {s : PS} (h : No x) : isTy tab (.v x) s (.cls 4) = some false := by
  obtain ⟨h1, h2, h3⟩ := h
  cases x <;> simp [OkV] at h1 <;> try simp
  subst h1
  exact absurd rfl (h3 _)
theorem rf_no {n : Nat} {x p : PV} {s : PS} (h : No x) : callN tab (n + 3) 3 [.v x, .v p] s = .ex ⟨1, [p]⟩ s := by
  rw [call_run a_ratio_from rfl]
  simp [d_ratio_from, isr_no h, h.1, h.2.1]
theorem isr_val {n : Nat} {x : PV} {c d : Int} {s : PS} (h : Val x c d) : callN tab (n + 2) 2 [.v x] s = .ok (.v (.bl true)) s := by
  rw [call_run a_is_ratio rfl]
  cases h <;> simp [d_is_ratio]
theorem isr_no' {n : Nat} {x : PV} {s : PS} (h : No x) : callN tab (n + 2) 2 [.v x] s = .ok (.v (.bl false)) s := by
  rw [call_run a_is_ratio rfl]
  simp [d_is_ratio, isr_no h, h.1, h.2.1]

section
variable {n : Nat} {x p : PV} {a b c d : Int} {s : PS}
theorem ne_mul (hb : b ≠ 0) (hd : d ≠ 0) : b * d ≠ 0 := Int.mul_ne_zero hb hd
theorem bd4 (hb : Bd 2000 b) (hd : Bd 2000 d) : Bd 8000 (b * d) := (hb.mul hd).mono (by decide)
theorem add_ok (h : Val x c d) (hb : b ≠ 0) (hd : d ≠ 0) (ha' : Bd 2000 a) (hb' : Bd 2000 b) (hc' : Bd 2000 c) (hd' : Bd 2000 d) :
    callN tab (n + 4) 31 [.v (rat a b), .v x] s = .ok (.v (rat (nr (a * d + c * b) (b * d)).1 (nr (a * d + c * b) (b * d)).2)) s := by
  rw [call_run a_Ratio_add rfl]
  simp [d_Ratio_add, rf_val h, bin_mulB, ha', hb', hc', hd', new_ok (n := n + 1) (ne_mul hb hd) (bd4 hb' hd')]
theorem sub_ok (h : Val x c d) (hb : b ≠ 0) (hd : d ≠ 0) (ha' : Bd 2000 a) (hb' : Bd 2000 b) (hc' : Bd 2000 c) (hd' : Bd 2000 d) :
    callN tab (n + 4) 32 [.v (rat a b), .v x] s = .ok (.v (rat (nr (a * d - c * b) (b * d)).1 (nr (a * d - c * b) (b * d)).2)) s := by
  rw [call_run a_Ratio_sub rfl]
  simp [d_Ratio_sub, rf_val h, bin_mulB, ha', hb', hc', hd', new_ok (n := n + 1) (ne_mul hb hd) (bd4 hb' hd')]
theorem mul_ok (h : Val x c d) (hb : b ≠ 0) (hd : d ≠ 0) (ha' : Bd 2000 a) (hb' : Bd 2000 b) (hc' : Bd 2000 c) (hd' : Bd 2000 d) :
    callN tab (n + 4) 33 [.v (rat a b), .v x] s = .ok (.v (rat (nr (a * c) (b * d)).1 (nr (a * c) (b * d)).2)) s := by
  rw [call_run a_Ratio_mul rfl]
  simp [d_Ratio_mul, rf_val h, bin_mulB, ha', hb', hc', hd', new_ok (n := n + 1) (ne_mul hb hd) (bd4 hb' hd')]
theorem over_ok (h : Val x c d) (hb : b ≠ 0) (hc : c ≠ 0) (ha' : Bd 2000 a) (hb' : Bd 2000 b) (hc' : Bd 2000 c) (hd' : Bd 2000 d) :
    callN tab (n + 4) 40 [.v (rat a b), .v x] s = .ok (.v (rat (nr (a * d) (b * c)).1 (nr (a * d) (b * c)).2)) s := by
  rw [call_run a_Ratio_over rfl]
  simp [d_Ratio_over, rf_val h, bin_mulB, ha', hb', hc', hd', cmp_eq, eqD_int, hc, new_ok (n := n + 1) (ne_mul hb hc) (bd4 hb' hc')]
theorem over_0 (h : Val x 0 d) : callN tab (n + 4) 40 [.v (rat a b), .v x] s = .ex ⟨1, [.str [122, 101, 114, 111]]⟩ s := by
  rw [call_run a_Ratio_over rfl]
  simp [d_Ratio_over, rf_val h, cmp_eq, eqD_int]
theorem add_no (h : No x) : callN tab (n + 4) 31 [.v (rat a b), .v x] s = .ex ⟨1, [.str [111, 116, 104, 101, 114]]⟩ s := by
  rw [call_run a_Ratio_add rfl]
  simp [d_Ratio_add, rf_no h]
theorem sub_no (h : No x) : callN tab (n + 4) 32 [.v (rat a b), .v x] s = .ex ⟨1, [.str [111, 116, 104, 101, 114]]⟩ s := by
  rw [call_run a_Ratio_sub rfl]
  simp [d_Ratio_sub, rf_no h]
theorem mul_no (h : No x) : callN tab (n + 4) 33 [.v (rat a b), .v x] s = .ex ⟨1, [.str [111, 116, 104, 101, 114]]⟩ s := by
  rw [call_run a_Ratio_mul rfl]
  simp [d_Ratio_mul, rf_no h]
theorem over_no (h : No x) : callN tab (n + 4) 40 [.v (rat a b), .v x] s = .ex ⟨1, [.str [111, 116, 104, 101, 114]]⟩ s := by
  rw [call_run a_Ratio_over rfl]
  simp [d_Ratio_over, rf_no h]
def sgn (i : Int) : Int := if i < 0 then -1 else if 0 < i then 1 else 0
theorem comp_ok (h : Val x c d) (ha' : Bd 2000 a) (hb' : Bd 2000 b) (hc' : Bd 2000 c) (hd' : Bd 2000 d) : callN tab (n + 4) 41 [.v (rat a b), .v x] s = .ok (.v (.int (sgn (a * d - c * b)))) s := by
  rw [call_run a_Ratio_compared rfl]
  simp [d_Ratio_compared, rf_val h, bin_mulB, ha', hb', hc', hd', sgn]
  repeat' split <;> simp_all
theorem comp_no (h : No x) : callN tab (n + 4) 41 [.v (rat a b), .v x] s = .ex ⟨1, [.str [111, 116, 104, 101, 114]]⟩ s := by
  rw [call_run a_Ratio_compared rfl]
  simp [d_Ratio_compared, rf_no h]
theorem below_ok (h : Val x c d) (ha' : Bd 2000 a) (hb' : Bd 2000 b) (hc' : Bd 2000 c) (hd' : Bd 2000 d) : callN tab (n + 5) 42 [.v (rat a b), .v x] s = .ok (.v (.bl (decide (a * d - c * b < 0)))) s := by
  rw [call_run a_Ratio_is_below rfl]
  generalize hu : a * d = u
  generalize hv : c * b = v
  have := comp_ok (n := n) (s := s) h ha' hb' hc' hd'
  rw [hu, hv] at this
  have key : decide (sgn (u - v) = -1) = decide (u - v < 0) := by
    rw [decide_eq_decide]
    unfold sgn
    repeat' split <;> omega
  simp only [d_Ratio_is_below, List.map_cons, List.map_nil] at *
  simp [this, cmp_eq, eqD_int, key]
theorem below_no (h : No x) : callN tab (n + 5) 42 [.v (rat a b), .v x] s = .ex ⟨1, [.str [111, 116, 104, 101, 114]]⟩ s := by
  rw [call_run a_Ratio_is_below rfl]
  simp [d_Ratio_is_below, comp_no h]
theorem neg_ok (h : Nm a b) (hb' : Bd 2000 b) : callN tab (n + 3) 34 [.v (rat a b)] s = .ok (.v (rat (-a) b)) s := by
  rw [call_run a_Ratio_neg rfl]
  have := new_ok (n := n) (a := -a) (b := b) (s := s) (by have := h.1; omega) (hb'.mono (by decide))
  rw [nr_self h.neg] at this
  simp [d_Ratio_neg, this]
theorem abs_ok (h : Nm a b) (hb' : Bd 2000 b) : callN tab (n + 3) 35 [.v (rat a b)] s = .ok (.v (rat (if a < 0 then -a else a) b)) s := by
  rw [call_run a_Ratio_abs rfl]
  have := new_ok (n := n) (a := if a < 0 then -a else a) (b := b) (s := s) (by have := h.1; omega) (hb'.mono (by decide))
  rw [nr_self h.abs] at this
  simp [d_Ratio_abs, this]
theorem bool_ok : callN tab (n + 1) 36 [.v (rat a b)] s = .ok (.v (.bl (a != 0))) s := by
  rw [call_run a_Ratio_bool rfl]
  simp [d_Ratio_bool, cmp_ne, eqD_int]
  by_cases z : a = 0 <;> simp [z]
theorem eq_rat : callN tab (n + 2) 37 [.v (rat a b), .v (rat c d)] s = .ok (.v (.bl (decide (a = c) && decide (b = d)))) s := by
  rw [call_run a_Ratio_eq rfl]
  simp [d_Ratio_eq, cmp_eq, eqD_int]
  split <;> simp_all
theorem eq_int : callN tab (n + 2) 37 [.v (rat a b), .v (.int c)] s = .ok (.v (.bl (decide (b = 1) && decide (a = c)))) s := by
  rw [call_run a_Ratio_eq rfl]
  simp [d_Ratio_eq, cmp_eq, eqD_int]
  repeat' split <;> simp_all
theorem eq_no (h : No x) : callN tab (n + 2) 37 [.v (rat a b), .v x] s = .ok (.v (.bl false)) s := by
  rw [call_run a_Ratio_eq rfl]
  simp [d_Ratio_eq, isr_no h, h.1, h.2.1]
/-- a ratio's text -/
def rtx (a b : Int) : List Nat := if b = 1 then intText a else intText a ++ 47 :: intText b
theorem fmtB {i : Int} (h : Bd 1900 i) : fmt1 (.v (.int i)) = some (intText i) := fmt_int (h.log (by decide))
theorem strB {T : Tab} {C : Calls} {fr : Bool} {i : Int} (h : Bd 1900 i) : bi2 T C .str fr [.v (.int i)] s = .ok (.v (.str (intText i))) s := bi_strI (h.log (by decide)) (by have := h.text; unfold lim; omega)
theorem str_ok (ha : Bd 1900 a) (hb : Bd 1900 b) : callN tab (n + 1) 38 [.v (rat a b)] s = .ok (.v (.str (rtx a b))) s := by
  rw [call_run a_Ratio_str rfl]
  have h1 := ha.text
  have h2 := hb.text
  by_cases h : b = 1
  · simp [d_Ratio_str, cmp_eq, eqD_int, rtx, h, strB ha]
  · have e1 : (intText a).length ≤ 100000 := by omega
    have e2 : (intText a).length + 1 ≤ 100000 := by omega
    have e3 : (intText a).length + (1 + (intText b).length) ≤ 100000 := by omega
    have e4 : (intText a).length + ((intText b).length + 1) ≤ 100000 := by omega
    simp [d_Ratio_str, cmp_eq, eqD_int, rtx, h, fmtB ha, fmtB hb, e1, e2, e3, e4]
theorem repr_ok (ha : Bd 1900 a) (hb : Bd 1900 b) : callN tab (n + 2) 39 [.v (rat a b)] s = .ok (.v (.str (rtx a b))) s := by
  rw [call_run a_Ratio_repr rfl]
  simp [d_Ratio_repr, str_ok ha hb]
theorem of_val (h : Val x c d) : callN tab (n + 4) 27 [.v x] s = .ok (.v (rat c d)) s := by
  rw [call_run a_Ratio_of rfl]
  simp [d_Ratio_of, rf_val h]
theorem of_no (h : No x) : callN tab (n + 4) 27 [.v x] s = .ex ⟨1, [.str [118, 97, 108, 117, 101]]⟩ s := by
  rw [call_run a_Ratio_of rfl]
  simp [d_Ratio_of, rf_no h]
end
end K01
set_option Elab.async false
set_option linter.all false
set_option maxRecDepth 100000
set_option maxHeartbeats 2000000
set_option exponentiation.threshold 20000
namespace K01
open Vm Vm.Q PySem
theorem hdraw : tab.defs[8]? = some (drawD 48661 29 50129 929) := rfl
theorem hpick : tab.defs[9]? = some (pickD 8) := rfl
theorem q1 : Sm 48661 := by decide
theorem q2 : Sm 29 := by decide
theorem q3 : Sm 50129 := by decide
theorem q4 : Sm 929 := by decide
/-- the pen stands -/
structure Pe (k : Nat) (s : PS) (ns : List Int) (t g : Int) : Prop where
  hk : k < s.length
  hl : ns.length ≤ 1000
  t0 : 0 ≤ t
  g0 : 0 ≤ g
/-- an answer behind some draws -/
def Out (k : Nat) (s : PS) (ns : List Int) (t c : Int) (r : Res SV) (P : PV → Prop) : Prop :=
  ∃ x t' g', P x ∧ (t ≤ t' ∧ t' ≤ t + c) ∧ Pe k s ns t' g' ∧ r = .ok (.v x) (s.set k (pn (ns.map .int) t' g'))
section
variable {n k : Nat} {s : PS} {ns : List Int} {t g : Int}
theorem draw (h : Pe k s ns t g) (ht : t < 9999) {m : Int} (hm : 0 < m) (hm2 : Bd 8000 m) :
    ∃ r t' g', (0 ≤ r ∧ r < m) ∧ (t ≤ t' ∧ t' ≤ t + 1) ∧ Pe k s ns t' g' ∧ callN tab (n + 1) 8 [.ref k, .v (.int m)] (s.set k (pn (ns.map .int) t g)) = .ok (.v (.int r)) (s.set k (pn (ns.map .int) t' g')) := by
  obtain ⟨r, t', g', h1, h2, h3, h4⟩ := draw_ok (n := n) (s := s) (g := g) hdraw q1 q2 q3 q4 h.hk h.hl h.t0 (by omega) h.g0 hm hm2
  exact ⟨r, t', g', h1, h2, ⟨h.hk, h.hl, by have := h.t0; omega, h3⟩, h4⟩
theorem pick (h : Pe k s ns t g) (ht : t < 9999) {xs : List PV} (hx : xs ≠ []) (hxl : xs.length ≤ 1000000) :
    ∃ x t' g', x ∈ xs ∧ (t ≤ t' ∧ t' ≤ t + 1) ∧ Pe k s ns t' g' ∧ callN tab (n + 2) 9 [.ref k, .v (.lst xs)] (s.set k (pn (ns.map .int) t g)) = .ok (.v x) (s.set k (pn (ns.map .int) t' g')) := by
  obtain ⟨r, t', g', h1, h2, h3, h4⟩ := pick_ok (n := n) (s := s) (g := g) hdraw hpick q1 q2 q3 q4 h.hk h.hl h.t0 (by omega) h.g0 hx hxl
  exact ⟨r, t', g', h1, h2, ⟨h.hk, h.hl, by have := h.t0; omega, h3⟩, h4⟩
theorem pickS (h : Pe k s ns t g) (ht : t < 9999) {w : List Nat} (hx : w ≠ []) (hxl : w.length ≤ 1000000) :
    ∃ x t' g', x ∈ w ∧ (t ≤ t' ∧ t' ≤ t + 1) ∧ Pe k s ns t' g' ∧ callN tab (n + 2) 9 [.ref k, .v (.str w)] (s.set k (pn (ns.map .int) t g)) = .ok (.v (.str [x])) (s.set k (pn (ns.map .int) t' g')) := by
  obtain ⟨r, t', g', h1, h2, h3, h4⟩ := pickS_ok (n := n) (s := s) (g := g) hdraw hpick q1 q2 q3 q4 h.hk h.hl h.t0 (by omega) h.g0 hx hxl
  exact ⟨r, t', g', h1, h2, ⟨h.hk, h.hl, by have := h.t0; omega, h3⟩, h4⟩
theorem bd7 : Bd 2000 (10000000 : Int) := (bd_of (k := 64) (by decide) (by decide)).mono (by decide)
/-- the loop of a number -/
theorem num_loop {body : List S} (hb : body = [(.set 1 (.op .add (.op .mul (.var 1) (.op .pow (.cst (.int 10)) (.cst (.int 7)))) (.call 8 [(.var 0), (.op .pow (.cst (.int 10)) (.cst (.int 7)))])))]) {n0 : Nat} : ∀ {xs : List PV} {i : Nat} {v t g : Int} {o : Option SV}, Pe k s ns t g → t + xs.length < 9999 → i + xs.length ≤ 20 → 0 ≤ v → v < 2 ^ (24 * i) →
    ∃ v' t' g' o', (0 ≤ v' ∧ v' < 2 ^ (24 * (i + xs.length))) ∧ (t ≤ t' ∧ t' ≤ t + xs.length) ∧ Pe k s ns t' g' ∧
      forL (.one 2) (kBody tab (callN tab (n + 1)) n0 body) xs [some (.ref k), some (.v (.int v)), o] (s.set k (pn (ns.map .int) t g)) = .go .nx [some (.ref k), some (.v (.int v')), o'] (s.set k (pn (ns.map .int) t' g'))
  | [], i, v, t, g, o, h, _, _, h1, h2 => ⟨v, t, g, o, ⟨h1, by simpa using h2⟩, ⟨by omega, by simp⟩, h, rfl⟩
  | x :: r, i, v, t, g, o, h, ht, hi, h1, h2 => by
    rw [List.length_cons] at ht hi
    obtain ⟨q, t1, g1, hq, ht1, hp, e⟩ := draw (n := n) h (by omega) (m := 10000000) (by decide) bd7.of_le
    have hbd : Bd 2000 v := (bd_of h1 h2).mono (by omega)
    have hlt : v * 10000000 + q < 2 ^ (24 * (i + 1)) := by
      rw [show 24 * (i + 1) = 24 * i + 24 by omega, Int.pow_add]
      have : (2 : Int) ^ 24 = 16777216 := by decide
      rw [this]
      omega
    obtain ⟨v', t', g', o', h3, h4, h5, h6⟩ := num_loop hb (n0 := n0) (xs := r) (i := i + 1) (v := v * 10000000 + q) (o := some (.v x)) hp (by omega) (by omega) (by omega) hlt
    refine ⟨v', t', g', o', ?_, ?_, h5, ?_⟩
    · rw [List.length_cons, show i + (r.length + 1) = i + 1 + r.length by omega]
      exact h3
    · rw [List.length_cons]
      omega
    · subst hb
      unfold forL
      simp [asg, powG, bin_mulB, hbd, bd7, e]
      exact h6
theorem number_ok (h : Pe k s ns t g) (ht : t < 9900) : ∃ v t' g', v.natAbs < 10 ^ 60 ∧ (t ≤ t' ∧ t' ≤ t + 13) ∧ Pe k s ns t' g' ∧
    callN tab (n + 3) 10 [.ref k] (s.set k (pn (ns.map .int) t g)) = .ok (.v (.int v)) (s.set k (pn (ns.map .int) t' g')) := by
  obtain ⟨c, t1, g1, hc, ht1, hp1, e1⟩ := pick (n := n) h (by omega) (xs := [.int 0, .int 1, .int 1, .int 1, .int 2, .int 9]) (by simp) (by simp)
  obtain ⟨m, rfl, hm⟩ : ∃ m : Nat, c = .int m ∧ m ≤ 9 := by
    simp at hc
    rcases hc with rfl | rfl | rfl | rfl
    · exact ⟨0, rfl, by decide⟩
    · exact ⟨1, rfl, by decide⟩
    · exact ⟨2, rfl, by decide⟩
    · exact ⟨9, rfl, by decide⟩
  have hrl : (rngL 0 m).length = m := rngL_len _ _
  obtain ⟨v, t2, g2, o, hv, ht2, hp2, e2⟩ := num_loop (n := n + 1) (n0 := s.length) rfl (xs := rngL 0 m) (i := 0) (v := 0) (o := none) hp1 (by omega) (by omega) (by decide) (by decide)
  rw [hrl] at hv ht2
  have b3 : Bd 8000 (3 : Int) := (bd_of (k := 64) (by decide) (by decide)).mono (by decide)
  have b24 : Bd 8000 (24 : Int) := (bd_of (k := 64) (by decide) (by decide)).mono (by decide)
  have b2 : Bd 8000 (2 : Int) := (bd_of (k := 64) (by decide) (by decide)).mono (by decide)
  obtain ⟨r3, t3, g3, hr3, ht3, hp3, e3⟩ := draw (n := n + 1) hp2 (by omega) (m := 3) (by decide) b3
  obtain ⟨r4, t4, g4, hr4, ht4, hp4, e4⟩ := draw (n := n + 1) hp3 (by omega) (m := 24) (by decide) b24
  obtain ⟨r5, t5, g5, hr5, ht5, hp5, e5⟩ := draw (n := n + 1) hp4 (by omega) (m := 2) (by decide) b2
  have hm6 : ∀ s' : PS, kRng [.v (.int (m : Int))] s' = .ok (.v (.lst (rngL 0 m))) s' := fun s' => kRng_n (by omega)
  -- what is given back, for each value of the number ahead of the last remainder
  have fin_ : ∀ w : Int, ∃ u : Int, u.natAbs < 10 ^ 60 ∧ ∀ o1, fin false s.length (exSs tab (callN tab (n + 2)) s.length [
      (.set 1 (.op .mod (.bi .int true [(.var 1)]) (.op .pow (.cst (.int 10)) (.cst (.int 60))))),
      (.ret (.ite (.cmp .eq (.call 8 [(.var 0), (.cst (.int 2))]) (.cst (.int 0))) (.var 1) (.neg (.var 1))))] [some (.ref k), some (.v (.int w)), o1] (s.set k (pn (ns.map .int) t4 g4))) = .ok (.v (.int u)) (s.set k (pn (ns.map .int) t5 g5)) := by
    intro w
    have hw := mod_pos (i := w) (j := 1000000000000000000000000000000000000000000000000000000000000) (by decide)
    generalize hu : w % 1000000000000000000000000000000000000000000000000000000000000 = u at hw
    by_cases z : r5 = 0
    · refine ⟨u, by omega, fun o1 => ?_⟩
      simp [powG, bin_mod, hu, e5, cmp_eq, eqD_int, z]
    · refine ⟨-u, by omega, fun o1 => ?_⟩
      simp [powG, bin_mod, hu, e5, cmp_eq, eqD_int, z]
  by_cases z4 : r4 = 0
  · obtain ⟨u, hu, e6⟩ := fin_ (10 ^ 60 - 1)
    refine ⟨u, t5, g5, hu, ⟨by omega, by omega⟩, hp5, ?_⟩
    have e6' := e6 o
    rw [call_run a_l_number rfl]
    by_cases z3 : r3 = 0
    · simp [d_l_number, e1, hm6, e2, e3, e4, cmp_eq, eqD_int, z3, z4, powG, bin_mod] at e6' ⊢
      exact e6'
    · simp [d_l_number, e1, hm6, e2, e3, e4, cmp_eq, eqD_int, z3, z4, powG, bin_mod] at e6' ⊢
      exact e6'
  · by_cases z3 : r3 = 0
    · obtain ⟨u, hu, e6⟩ := fin_ (v % 12)
      refine ⟨u, t5, g5, hu, ⟨by omega, by omega⟩, hp5, ?_⟩
      have e6' := e6 o
      rw [call_run a_l_number rfl]
      simp [d_l_number, e1, hm6, e2, e3, e4, cmp_eq, eqD_int, z3, z4, powG, bin_mod] at e6' ⊢
      exact e6'
    · obtain ⟨u, hu, e6⟩ := fin_ v
      refine ⟨u, t5, g5, hu, ⟨by omega, by omega⟩, hp5, ?_⟩
      have e6' := e6 o
      rw [call_run a_l_number rfl]
      simp [d_l_number, e1, hm6, e2, e3, e4, cmp_eq, eqD_int, z3, z4, powG, bin_mod] at e6' ⊢
      exact e6'
end

/-! ### Euclid's loop -/
theorem common_loop {C : Calls} {n0 : Nat} {s : PS} {body : List S} (hb : body = [(.ite (.cmp .eq (.var 1) (.cst (.int 0))) [.brk] []), (.par 0 1 (.var 1) (.op .mod (.bi .int true [(.var 0)]) (.var 1)))]) :
    ∀ {xs : List PV} {m a b : Nat} {o : Option SV}, Eu m a b → m < xs.length →
    ∃ z o', forL (.one 2) (kBody tab C n0 body) xs [some (.v (.int a)), some (.v (.int b)), o] s = .go .nx [some (.v (.int (Nat.gcd a b : Nat))), z, o'] s
  | [], m, a, b, o, _, h => by simp at h
  | x :: r, m, a, b, o, h, hl => by
    by_cases z : b = 0
    · subst z
      refine ⟨some (.v (.int 0)), some (.v x), ?_⟩
      subst hb
      unfold forL
      simp [asg, cmp_eq, eqD_int]
    · cases m with
      | zero => exact absurd h z
      | succ m =>
        rcases h with h | h
        · exact absurd h z
        · obtain ⟨z', o', e⟩ := common_loop hb (xs := r) (o := some (.v x)) h (by simp at hl; omega)
          have hz : ((b : Int)) ≠ 0 := by omega
          have hz2 : (0 : Int) < (b : Int) := by omega
          have e0 : ((a : Int) % (b : Int)) = ((a % b : Nat) : Int) := by omega
          have eg : Nat.gcd a b = Nat.gcd b (a % b) := by
            rw [Nat.gcd_comm a b, Nat.gcd_rec b a, Nat.gcd_comm]
          refine ⟨z', o', ?_⟩
          subst hb
          unfold forL
          simp [asg, cmp_eq, eqD_int, z, bin_mod hz2]
          rw [e0, eg]
          exact e
section
variable {n : Nat} {s : PS} {a b : Int}
theorem common_ok (hb : b.natAbs < 2 ^ 599) : callN tab (n + 1) 11 [.v (.int a), .v (.int b)] s = .ok (.v (.int (Int.gcd a b : Nat))) s := by
  rw [call_run a_l_common rfl]
  have ea : (if a < 0 then -a else a) = (a.natAbs : Int) := by split <;> omega
  have eb : (if b < 0 then -b else b) = (b.natAbs : Int) := by split <;> omega
  have h1 := eu_pow 599 a.natAbs b.natAbs hb
  have hl : (rngL 0 1200).length = 1200 := rngL_len _ _
  obtain ⟨z, o, e⟩ := common_loop (C := callN tab n) (n0 := s.length) (s := s) rfl (xs := rngL 0 1200) (o := none) h1 (by rw [hl]; decide)
  have h12 : ∀ s' : PS, kRng [.v (.int 1200)] s' = .ok (.v (.lst (rngL 0 1200))) s' := fun s' => kRng_n (m := 1200) (by decide)
  simp [d_l_common, ea, eb, h12]
  rw [e]
  simp
  rfl
end
end K01
set_option Elab.async false
set_option linter.all false
set_option maxRecDepth 100000
set_option maxHeartbeats 2000000
set_option exponentiation.threshold 20000
namespace K01
open Vm Vm.Q PySem
section
variable {n : Nat} {s : PS} {a b : Int}
theorem bdn {k : Nat} {i : Int} (h : i.natAbs < 2 ^ k) : Bd k i := h
theorem low_ok (hb : b ≠ 0) (hn : b.natAbs < 2 ^ 599) : callN tab (n + 2) 12 [.v (.int a), .v (.int b)] s = .ok (.v (.tup [.int (nr a b).1, .int (nr a b).2])) s := by
  rw [call_run a_l_low rfl]
  have h1 : log2i (gc a b) < 9000 := Nat.lt_of_lt_of_le (((bdn hn).le (gc_le hb)).log (by decide)) (by decide)
  have h2 := gc_ne (a := a) hb
  unfold gc at h1 h2
  unfold nr gc
  by_cases hn' : b < 0
  · rw [if_pos hn'] at h1 h2 ⊢
    simp [d_l_low, common_ok hn, hn', bin_fdiv h2 h1]
  · rw [if_neg hn'] at h1 h2 ⊢
    simp [d_l_low, common_ok hn, hn', bin_fdiv h2 h1]
theorem rtx_pl : Pl (rtx a b) := by
  unfold rtx
  split
  · exact intText_pl a
  · intro c hc
    rcases List.mem_append.mp hc with hc | hc
    · exact intText_pl a c hc
    · rcases List.mem_cons.mp hc with rfl | hc
      · decide
      · exact intText_pl b c hc
theorem rtx_len (ha : Bd 1900 a) (hb : Bd 1900 b) : (rtx a b).length ≤ 1203 := by
  have h1 := ha.text
  have h2 := hb.text
  unfold rtx
  split
  · omega
  · simp; omega
theorem text_ok (ha : Bd 1900 a) (hb : Bd 1900 b) : callN tab (n + 1) 13 [.v (.tup [.int a, .int b])] s = .ok (.v (.str (rtx a b))) s := by
  rw [call_run a_l_text rfl]
  have h1 := ha.text
  have h2 := hb.text
  have h4 : bin2 tab (callN tab n) .add (.v (.str (intText a))) (.v (.str [47])) s = .ok (.v (.str (intText a ++ [47]))) s := bin_cat (by simp; omega)
  have h5 : bin2 tab (callN tab n) .add (.v (.str (intText a ++ [47]))) (.v (.str (intText b))) s = .ok (.v (.str (intText a ++ [47] ++ intText b))) s := bin_cat (by simp; omega)
  simp at h5
  by_cases h : b = 1
  · simp [d_l_text, cmp_eq, eqD_int, h, strB ha, rtx]
  · simp [d_l_text, cmp_eq, eqD_int, h, strB ha, strB hb, h4, h5, rtx]
theorem is_ok (ha : Bd 1900 a) (hb : Bd 1900 b) : callN tab (n + 3) 14 [.v (rat a b), .v (.tup [.int a, .int b])] s = .ok (.v (.bl true)) s := by
  rw [call_run a_l_is rfl]
  obtain ⟨t1, e1, p1⟩ := shown_tup (xs := [.int a, .int b]) (by simp [atom, ha, hb]) (by simp)
  obtain ⟨t2, e2, p2⟩ := shown_tup (xs := [.int (if a < 0 then -1 else if 0 < a then 1 else 0), .bl (decide (b = 1))]) (by
    intro x hx
    simp at hx
    rcases hx with rfl | rfl
    · show Bd 1900 _
      have : ∀ z : Int, z.natAbs < 2 → Bd 1900 z := fun z hz => Nat.lt_of_lt_of_le hz (by decide +kernel)
      refine this _ ?_
      split
      · decide
      · split <;> decide
    · trivial) (by simp)
  have q1 := eqD_str p1 p1
  have q2 := eqD_str p2 p2
  have q3 := eqD_str (rtx_pl (a := a) (b := b)) (rtx_pl (a := a) (b := b))
  simp at q1 q2 q3
  have hs : (if 0 < a then (1 : Int) else if a < 0 then -1 else 0) = (if a < 0 then -1 else if 0 < a then 1 else 0) := by
    split
    · rw [if_neg (by omega)]
    · rfl
  rcases Int.lt_trichotomy a 0 with z | z | z
  · have z2 : ¬ 0 < a := by omega
    have z3 : a ≠ 0 := by omega
    simp [z, z2] at e2
    simp [d_l_is, e1, q1, cmp_ne, z, z2, z3, cmp_eq, eqD_int, eqD_bl, sign_ok, whole_ok, e2, q2, bool_ok, str_ok ha hb, repr_ok ha hb, text_ok ha hb, q3]
  · subst z
    simp at e2
    simp [d_l_is, e1, q1, cmp_ne, cmp_eq, eqD_int, eqD_bl, sign_ok, whole_ok, e2, q2, bool_ok, str_ok ha hb, repr_ok ha hb, text_ok ha hb, q3]
  · have z2 : ¬ a < 0 := by omega
    have z3 : a ≠ 0 := by omega
    simp [z, z2] at e2
    simp [d_l_is, e1, q1, cmp_ne, z, z2, z3, cmp_eq, eqD_int, eqD_bl, sign_ok, whole_ok, e2, q2, bool_ok, str_ok ha hb, repr_ok ha hb, text_ok ha hb, q3]
end
end K01
set_option Elab.async false
set_option linter.all false
set_option maxRecDepth 100000
set_option maxHeartbeats 2000000
set_option exponentiation.threshold 20000
namespace K01
open Vm Vm.Q PySem
abbrev dg : List Nat := [48, 49, 50, 51, 52, 53, 54, 55, 56, 57]
/-- no digit -/
def nd (c : Nat) : Bool := !decide (c ∈ dg)
def plain (w : List Nat) : List Nat := if w.take 1 = [45] then w.drop 1 else w
/-- what a word writes -/
def wholeV (w : List Nat) : Option Int :=
  if plain w = [] ∨ 60 < (plain w).length ∨ (plain w).any nd = true then none
  else if (plain w).head? = some 48 ∧ w ≠ [48] then none
  else some (if w.take 1 = [45] then -(NumText.digitsVal (plain w) : Int) else (NumText.digitsVal (plain w) : Int))
def oI : Option Int → PV
  | none => .non
  | some i => .int i
@[simp] theorem oI_none : oI none = .non := (rfl)
@[simp] theorem oI_some {i : Int} : oI (some i) = .int i := (rfl)
theorem digs {p : List Nat} (h : ¬ p.any nd = true) : NumText.AllDigits p := by
  intro c hc
  rw [List.any_eq_true] at h
  have : c ∈ dg := by
    apply Classical.byContradiction
    intro z
    exact h ⟨c, hc, by unfold nd; rw [decide_eq_false z]; rfl⟩
  simp at this
  omega
theorem foldl_lt : ∀ (cs : List Nat) (acc : Nat), NumText.AllDigits cs → cs.foldl (fun acc c => acc * 10 + (c - 48)) acc < (acc + 1) * 10 ^ cs.length
  | [], acc, _ => by simp
  | c :: cs, acc, h => by
    rw [List.foldl_cons, List.length_cons, Nat.pow_succ]
    have h1 := h.head
    have ih := foldl_lt cs (acc * 10 + (c - 48)) h.tail
    have h2 : acc * 10 + (c - 48) + 1 ≤ (acc + 1) * 10 := by omega
    have h3 : (acc * 10 + (c - 48) + 1) * 10 ^ cs.length ≤ (acc + 1) * 10 * 10 ^ cs.length := Nat.mul_le_mul_right _ h2
    rw [Nat.mul_assoc, Nat.mul_comm 10] at h3
    omega
theorem dval_lt {cs : List Nat} (h : NumText.AllDigits cs) (hl : cs.length ≤ 60) : NumText.digitsVal cs < 10 ^ 60 := by
  have := foldl_lt cs 0 h
  rw [Nat.zero_add, Nat.one_mul] at this
  exact Nat.lt_of_lt_of_le this (Nat.pow_le_pow_right (by decide) hl)
theorem wholeV_lt {w : List Nat} {i : Int} (h : wholeV w = some i) : i.natAbs < 10 ^ 60 := by
  unfold wholeV at h
  split at h
  · cases h
  · rename_i h1
    simp only [not_or] at h1
    split at h
    · cases h
    · have := dval_lt (digs h1.2.2) (by omega)
      cases h
      split
      · rw [Int.natAbs_neg]; exact this
      · exact this
/-- what int gives of such a word -/
theorem intText_whole {w : List Nat} {i : Int} (h : wholeV w = some i) : intText? (txt w) = some i ∧ w.length ≤ 640 := by
  unfold wholeV at h
  split at h
  · cases h
  · rename_i h1
    simp only [not_or] at h1
    obtain ⟨h1, h2, h3⟩ := h1
    split at h
    · cases h
    · have hd := digs h3
      cases h
      unfold plain at h1 h2 hd ⊢
      by_cases hm : w.take 1 = [45]
      · rw [if_pos hm] at h1 h2 hd
        rw [if_pos hm, if_pos hm]
        cases w with
        | nil => simp at hm
        | cons c r =>
          simp at hm
          subst hm
          simp at h1 h2 hd ⊢
          have hl : (txt (45 :: r)).length ≤ 4300 := by show (45 :: r).length ≤ 4300; simp; omega
          exact ⟨intText_neg (x := txt (45 :: r)) rfl hd h1 hl, by omega⟩
      · rw [if_neg hm] at h1 h2 hd
        rw [if_neg hm, if_neg hm]
        have hl : (txt w).length ≤ 4300 := by show w.length ≤ 4300; omega
        exact ⟨intText_digits (x := txt w) hd h1 hl, by omega⟩
section
variable {C : Calls} {s : PS} {p y : List Nat} {a o : Option SV} {n : Nat}
theorem any_gen (hl : p.length ≤ 90000) : evE tab C (.lc true (.one 2) (.var 1) [] (.cmp .notin (.var 2) (.cst (.str y)))) [a, some (.v (.str p)), o] s = .ok (.v (.lst (p.map fun c => .bl (!decide (c ∈ y))))) s := by
  have := lc_pure (T := tab) (C := C) (σ := [a, some (.v (.str p)), o]) (s := s) (s1 := s) (t := .one 2) (it := .var 1) (cs := []) (e := .cmp .notin (.var 2) (.cst (.str y))) (v := .v (.str p)) (xs := p.map fun c => .str [c])
    (p := fun _ => true) (f := fun x => match x with
      | .str [c] => .bl (!decide (c ∈ y))
      | _ => .non) (by simp) rfl (by simp; omega) (fun x hx => by
      obtain ⟨c, _, rfl⟩ := List.mem_map.mp hx
      refine ⟨[a, some (.v (.str p)), some (.v (.str [c]))], rfl, fun u => ⟨by simp, fun _ => by simp⟩⟩)
  rw [this, List.filter_eq_self.mpr (fun _ _ => rfl), List.map_map]
  rfl
theorem any_ok (hl : p.length ≤ 90000) : evE tab C (.lc true (.one 2) (.var 1) [] (.cmp .notin (.var 2) (.cst (.str dg)))) [a, some (.v (.str p)), o] s = .ok (.v (.lst (p.map fun c => .bl (nd c)))) s := any_gen hl
theorem odd_gen (hl : p.length ≤ 90000) : evE tab C (.lc true (.one 2) (.var 1) [(.cmp .notin (.var 2) (.cst (.str y)))] (.var 2)) [a, some (.v (.str p)), o] s = .ok (.v (.lst ((p.filter fun c => !decide (c ∈ y)).map fun c => .str [c]))) s := by
  have := lc_pure (T := tab) (C := C) (σ := [a, some (.v (.str p)), o]) (s := s) (s1 := s) (t := .one 2) (it := .var 1) (cs := [(.cmp .notin (.var 2) (.cst (.str y)))]) (e := .var 2) (v := .v (.str p)) (xs := p.map fun c => .str [c])
    (p := fun x => match x with
      | .str [c] => !decide (c ∈ y)
      | _ => false) (f := id) (by simp) rfl (by simp; omega) (fun x hx => by
      obtain ⟨c, _, rfl⟩ := List.mem_map.mp hx
      refine ⟨[a, some (.v (.str p)), some (.v (.str [c]))], rfl, fun u => ⟨by simp [cs_one], fun _ => by simp⟩⟩)
  rw [this, List.map_id, List.filter_map]
  rfl
theorem odd_ok (hl : p.length ≤ 90000) : evE tab C (.lc true (.one 2) (.var 1) [(.cmp .notin (.var 2) (.cst (.str dg)))] (.var 2)) [a, some (.v (.str p)), o] s = .ok (.v (.lst ((p.filter nd).map fun c => .str [c]))) s := odd_gen hl
end
section
variable {s : PS} {w : List Nat} {n : Nat}
theorem plain_len : (plain w).length ≤ w.length := by
  unfold plain
  split
  · simp
  · exact Nat.le_refl _
theorem plain_pl (h : Pl w) : Pl (plain w) := by
  unfold plain
  split
  · exact fun c hc => h c (List.mem_of_mem_drop hc)
  · exact h
theorem cut1 : Vm.cut w none (some 1) = w.take 1 := cut_take w 1
theorem cut2 : Vm.cut w (some 1) none = w.drop 1 := cut_drop w 1
theorem take_pl (h : Pl w) : Pl (w.take 1) := fun c hc => h c (List.mem_of_mem_take hc)
theorem pl45 : Pl [45] := by decide
theorem pl48 : Pl [48] := by decide
theorem pl0 : Pl [] := by decide
theorem e48 : eqD (.str [48]) (.str [48]) = some true := by simpa using eqD_str pl48 pl48
theorem idx0 {c : Nat} {r : List Nat} : idx2 (.v (.str (c :: r))) (.v (.int 0)) s = .ok (.v (.str [c])) s := idx_str (by decide) rfl
theorem numin_ok (h : Pl w) (hl : w.length ≤ 90000) : callN tab (n + 1) 1 [.v (.str w)] s = .ok (.v (oI (wholeV w))) s := by
  rw [call_run a_number_in rfl]
  have e1 := eqD_str (take_pl h) pl45
  have e2 := eqD_str (plain_pl h) pl0
  have e4 := eqD_str h pl48
  have hl' : (plain w).length ≤ 90000 := Nat.le_trans plain_len hl
  -- behind the plain part
  have key : ∀ o, fin false s.length (exSs tab (callN tab n) s.length d_number_in.body.tail [some (.v (.str w)), some (.v (.str (plain w))), o] s) = .ok (.v (oI (wholeV w))) s := by
    intro o
    by_cases z1 : plain w = []
    · rw [decide_eq_true z1] at e2
      have hv : wholeV w = none := by unfold wholeV; rw [if_pos (.inl z1)]
      simp [d_number_in, cmp_eq, e2, hv]
    · by_cases z2 : 60 < (plain w).length
      · have z2' : (60 : Int) < ((plain w).length : Int) := by omega
        simp [d_number_in, cmp_eq, e2, z1, z2, z2', wholeV]
      · have z2' : ¬ (60 : Int) < ((plain w).length : Int) := by omega
        cases z3 : (plain w).any nd with
        | true => simp [d_number_in, cmp_eq, e2, z1, z2, z2', any_ok hl', anyV_map, z3, wholeV]
        | false =>
          obtain ⟨c, r, hc⟩ : ∃ c r, plain w = c :: r := by
            cases hp : plain w with
            | nil => exact absurd hp z1
            | cons c r => exact ⟨c, r, rfl⟩
          have e3 : eqD (.str [c]) (.str [48]) = some (decide ([c] = [48])) := eqD_str (fun d hd => plain_pl h d (by rw [hc]; simp at hd; simp [hd])) pl48
          have ix : ∀ s' : PS, idx2 (.v (.str (plain w))) (.v (.int 0)) s' = .ok (.v (.str [c])) s' := fun s' => by rw [hc]; exact idx0
          have hh : (plain w).head? = some c := by rw [hc]; rfl
          by_cases z4 : c = 48 ∧ w ≠ [48]
          · simp [d_number_in, cmp_eq, cmp_ne, e2, z1, z2, z2', any_ok hl', anyV_map, z3, ix, e3, e48, e4, z4.1, z4.2, wholeV, hh]
          · have hv : ∃ i, wholeV w = some i := by
              unfold wholeV
              rw [if_neg (by simp only [not_or]; exact ⟨z1, z2, by rw [z3]; exact fun q => by cases q⟩), if_neg (by rw [hh]; simpa using z4)]
              exact ⟨_, rfl⟩
            obtain ⟨i, hi⟩ := hv
            obtain ⟨q1, q2⟩ := intText_whole hi
            rw [hi]
            by_cases z5 : c = 48
            · have z6 : w = [48] := Classical.byContradiction fun q => z4 ⟨z5, q⟩
              rw [decide_eq_true z6] at e4
              simp [d_number_in, cmp_eq, cmp_ne, e2, z1, z2, z2', any_ok hl', anyV_map, z3, ix, e3, e48, e4, z5, bi_intS q2 q1]
            · simp [d_number_in, cmp_eq, cmp_ne, e2, z1, z2, z2', any_ok hl', anyV_map, z3, ix, e3, e48, e4, z5, bi_intS q2 q1]
  by_cases hm : w.take 1 = [45]
  · have : plain w = w.drop 1 := if_pos hm
    rw [this] at key
    have k := key none
    rw [decide_eq_true hm] at e1
    simp [d_number_in, cmp_eq, cut1, cut2, e1] at k ⊢
    exact k
  · have : plain w = w := if_neg hm
    rw [this] at key
    have k := key none
    rw [decide_eq_false hm] at e1
    simp [d_number_in, cmp_eq, cut1, cut2, e1] at k ⊢
    exact k
theorem whole2_ok (h : Pl w) (hl : w.length ≤ 90000) : callN tab (n + 1) 15 [.v (.str w)] s = .ok (.v (oI (wholeV w))) s := by
  rw [call_run a_l_whole rfl]
  have e1 := eqD_str (take_pl h) pl45
  have e2 := eqD_str (plain_pl h) pl0
  have e4 := eqD_str h pl48
  have hl' : (plain w).length ≤ 90000 := Nat.le_trans plain_len hl
  have e5 : eqD (.lst (((plain w).filter nd).map fun c => .str [c])) (.lst []) = some (((plain w).filter nd).map fun c => PV.str [c]).isEmpty := eqD_nil fun x hx => by
    obtain ⟨c, hc, rfl⟩ := List.mem_map.mp hx
    refine fl_str fun d hd => ?_
    rw [List.mem_singleton.mp hd]
    exact plain_pl h c (List.mem_filter.mp hc).1
  have e6 : (((plain w).filter nd).map fun c => PV.str [c]).isEmpty = !(plain w).any nd := by
    rw [Bool.eq_iff_iff]
    simp
  rw [e6] at e5
  -- behind the plain part
  have key : ∀ o, fin false s.length (exSs tab (callN tab n) s.length d_l_whole.body.tail [some (.v (.str w)), some (.v (.str (plain w))), o] s) = .ok (.v (oI (wholeV w))) s := by
    intro o
    by_cases z1 : plain w = []
    · rw [decide_eq_true z1] at e2
      have hv : wholeV w = none := by unfold wholeV; rw [if_pos (.inl z1)]
      simp [d_l_whole, cmp_eq, e2, hv]
    · by_cases z2 : 60 < (plain w).length
      · have z2' : (60 : Int) < ((plain w).length : Int) := by omega
        simp [d_l_whole, cmp_eq, e2, z1, z2, z2', wholeV]
      · have z2' : ¬ (60 : Int) < ((plain w).length : Int) := by omega
        cases z3 : (plain w).any nd with
        | true =>
          rw [z3] at e5
          simp [d_l_whole, cmp_eq, cmp_ne, e2, z1, z2, z2', odd_ok hl', e5, z3, wholeV]
        | false =>
          rw [z3] at e5
          obtain ⟨c, r, hc⟩ : ∃ c r, plain w = c :: r := by
            cases hp : plain w with
            | nil => exact absurd hp z1
            | cons c r => exact ⟨c, r, rfl⟩
          have e3 : eqD (.str [c]) (.str [48]) = some (decide ([c] = [48])) := eqD_str (fun d hd => plain_pl h d (by rw [hc]; simp at hd; simp [hd])) pl48
          have ix : ∀ s' : PS, idx2 (.v (.str (plain w))) (.v (.int 0)) s' = .ok (.v (.str [c])) s' := fun s' => by rw [hc]; exact idx0
          have hh : (plain w).head? = some c := by rw [hc]; rfl
          by_cases z4 : c = 48 ∧ w ≠ [48]
          · simp [d_l_whole, cmp_eq, cmp_ne, e2, z1, z2, z2', odd_ok hl', e5, z3, ix, e3, e48, e4, z4.1, z4.2, wholeV, hh]
          · have hv : ∃ i, wholeV w = some i := by
              unfold wholeV
              rw [if_neg (by simp only [not_or]; exact ⟨z1, z2, by rw [z3]; exact fun q => by cases q⟩), if_neg (by rw [hh]; simpa using z4)]
              exact ⟨_, rfl⟩
            obtain ⟨i, hi⟩ := hv
            obtain ⟨q1, q2⟩ := intText_whole hi
            rw [hi]
            by_cases z5 : c = 48
            · have z6 : w = [48] := Classical.byContradiction fun q => z4 ⟨z5, q⟩
              rw [decide_eq_true z6] at e4
              simp [d_l_whole, cmp_eq, cmp_ne, e2, z1, z2, z2', odd_ok hl', e5, z3, ix, e3, e48, e4, z5, bi_intS q2 q1]
            · simp [d_l_whole, cmp_eq, cmp_ne, e2, z1, z2, z2', odd_ok hl', e5, z3, ix, e3, e48, e4, z5, bi_intS q2 q1]
  by_cases hm : w.take 1 = [45]
  · have : plain w = w.drop 1 := if_pos hm
    rw [this] at key
    have k := key none
    rw [decide_eq_true hm] at e1
    simp [d_l_whole, cmp_eq, cut1, cut2, e1] at k ⊢
    exact k
  · have : plain w = w := if_neg hm
    rw [this] at key
    have k := key none
    rw [decide_eq_false hm] at e1
    simp [d_l_whole, cmp_eq, cut1, cut2, e1] at k ⊢
    exact k
end
end K01
set_option Elab.async false
set_option linter.all false
set_option maxRecDepth 100000
set_option maxHeartbeats 2000000
set_option exponentiation.threshold 20000
namespace K01
open Vm Vm.Q PySem
/-! ### a text cut at one sign -/
theorem spl1 {c d : Nat} {acc r : List Nat} : TL.spl [c] 0 acc (d :: r) = if d = c then acc :: TL.spl [c] 0 [] r else TL.spl [c] 0 (acc ++ [d]) r := by
  by_cases h : d = c
  · subst h
    rw [if_pos rfl, TL.spl_hit (by unfold TL.pre; simp)]
    rfl
  · rw [if_neg h, TL.spl_miss (by unfold TL.pre; simp [h])]
theorem spl_ne {c : Nat} : ∀ {w acc : List Nat}, TL.spl [c] 0 acc w ≠ []
  | [], acc => by rw [TL.spl_nil]; simp
  | d :: r, acc => by
    rw [spl1]
    split
    · simp
    · exact spl_ne
theorem spl_len {c : Nat} : ∀ {w acc : List Nat}, (TL.spl [c] 0 acc w).length ≤ w.length + 1
  | [], acc => by rw [TL.spl_nil]; simp
  | d :: r, acc => by
    rw [spl1]
    split
    · have := spl_len (c := c) (w := r) (acc := [])
      simp; omega
    · have := spl_len (c := c) (w := r) (acc := acc ++ [d])
      simp; omega
theorem spl_part {c : Nat} : ∀ {w acc : List Nat}, ∀ p ∈ TL.spl [c] 0 acc w, p.length ≤ acc.length + w.length ∧ ∀ x ∈ p, x ∈ acc ∨ x ∈ w
  | [], acc => by
    intro p hp
    rw [TL.spl_nil, List.mem_singleton] at hp
    subst hp
    exact ⟨by simp, fun x hx => .inl hx⟩
  | d :: r, acc => by
    intro p hp
    rw [spl1] at hp
    split at hp
    · rcases List.mem_cons.mp hp with rfl | hp
      · exact ⟨by simp, fun x hx => .inl hx⟩
      · have := spl_part (c := c) (w := r) (acc := []) p hp
        refine ⟨by simp at this ⊢; omega, fun x hx => ?_⟩
        rcases this.2 x hx with h | h
        · cases h
        · exact .inr (List.mem_cons_of_mem _ h)
    · have := spl_part (c := c) (w := r) (acc := acc ++ [d]) p hp
      refine ⟨by simp at this ⊢; omega, fun x hx => ?_⟩
      rcases this.2 x hx with h | h
      · rcases List.mem_append.mp h with h | h
        · exact .inl h
        · rw [List.mem_singleton.mp h]; exact .inr List.mem_cons_self
      · exact .inr (List.mem_cons_of_mem _ h)
/-- a text that is neither long nor odd -/
structure Tx (w : List Nat) : Prop where
  pl : Pl w
  len : w.length ≤ 90000
theorem Tx.parts {w : List Nat} (h : Tx w) {c : Nat} : ∀ p ∈ TL.spl [c] 0 [] w, Tx p := fun p hp => by
  have := spl_part p hp
  refine ⟨fun x hx => ?_, by have := h.len; simp at *; omega⟩
  rcases this.2 x hx with z | z
  · cases z
  · exact h.pl x z
/-- the ratio that a word writes -/
def ratioP : List (List Nat) → Option (Int × Int)
  | [p] => (wholeV p).map fun a => (a, 1)
  | [p, q] => match wholeV p, wholeV q with
    | some a, some b => if b < 2 ∨ Int.gcd a b ≠ 1 then none else some (a, b)
    | _, _ => none
  | _ => none
def ratioV (w : List Nat) : Option (Int × Int) := ratioP (TL.spl [47] 0 [] w)
theorem ratioV_nm {w : List Nat} {a b : Int} (h : ratioV w = some (a, b)) : Nm a b ∧ a.natAbs < 10 ^ 60 ∧ b.natAbs < 10 ^ 60 := by
  unfold ratioV at h
  generalize TL.spl [47] 0 [] w = ps at h
  match ps, h with
  | [p], h =>
    unfold ratioP at h
    dsimp only at h
    cases hp : wholeV p with
    | none => rw [hp] at h; cases h
    | some i =>
      rw [hp] at h
      cases h
      exact ⟨Nm.one, wholeV_lt hp, by decide⟩
  | [p, q], h =>
    unfold ratioP at h
    dsimp only at h
    cases hp : wholeV p with
    | none => rw [hp] at h; cases h
    | some i =>
      cases hq : wholeV q with
      | none => rw [hp, hq] at h; cases h
      | some j =>
        rw [hp, hq] at h
        dsimp only at h
        split at h
        · cases h
        · rename_i z
          cases h
          simp only [not_or, ne_eq, Classical.not_not] at z
          exact ⟨⟨by omega, z.2⟩, wholeV_lt hp, wholeV_lt hq⟩
def oR : Option (Int × Int) → PV
  | none => .non
  | some (a, b) => rat a b
def oP : Option (Int × Int) → PV
  | none => .non
  | some (a, b) => .tup [.int a, .int b]
theorem lt60 {i : Int} (h : i.natAbs < 10 ^ 60) : Bd 200 i := Nat.lt_of_lt_of_le h (by decide +kernel)
theorem isn_oI {o : Option Int} : isNon (oI o) = o.isNone := by cases o <;> rfl
section
variable {s : PS} {w : List Nat} {n : Nat}
theorem ratioin_ok (h : Tx w) : callN tab (n + 3) 4 [.v (.str w)] s = .ok (.v (oR (ratioV w))) s := by
  rw [call_run a_ratio_in rfl]
  have hsp : ∀ s' : PS, bm2 .split true (.v (.str w)) [.v (.str [47])] s' = .ok (.v (.lst ((TL.spl [47] 0 [] w).map .str))) s' := fun s' => by
    rw [bm_split (by decide), newL_t, if_pos (by have := spl_len (c := 47) (w := w) (acc := []); have := h.len; simp; omega)]
    have e : (TL.spl [47] 0 [] w).map (fun y => SV.v (.str y)) = ((TL.spl [47] 0 [] w).map PV.str).map SV.v := by rw [List.map_map]; rfl
    rw [e, vs_map]
    rfl
  have hp := h.parts (c := 47)
  have hne := spl_ne (c := 47) (w := w) (acc := [])
  unfold ratioV
  generalize TL.spl [47] 0 [] w = ps at hsp hp hne
  have ix : ∀ (x : PV) (l : List PV) (s' : PS), idx2 (.v (.lst (x :: l))) (.v (.int 0)) s' = .ok (.v x) s' := fun x l s' => idx_lst (by decide) rfl
  have ix1 : ∀ (x y : PV) (l : List PV) (s' : PS), idx2 (.v (.lst (x :: y :: l))) (.v (.int 1)) s' = .ok (.v y) s' := fun x y l s' => idx_lst (by decide) rfl
  match ps, hne, hp, hsp with
  | [], hne, _, _ => exact absurd rfl hne
  | [p], _, hp, hsp =>
    have t1 := hp p (by simp)
    cases hv : wholeV p with
    | none => simp [d_ratio_in, hsp, ix, numin_ok t1.pl t1.len, hv, isNon, ratioP, oR]
    | some i => simp [d_ratio_in, hsp, ix, numin_ok t1.pl t1.len, hv, isNon, ratioP, oR, cmp_eq, eqD_int, new1_ok]
  | [p, q], _, hp, hsp =>
    have t1 := hp p (by simp)
    have t2 := hp q (by simp)
    cases hv : wholeV p with
    | none => simp [d_ratio_in, hsp, ix, numin_ok t1.pl t1.len, hv, isNon, ratioP, oR]
    | some i =>
      cases hq : wholeV q with
      | none => simp [d_ratio_in, hsp, ix, ix1, numin_ok t1.pl t1.len, numin_ok t2.pl t2.len, hv, hq, isNon, ratioP, oR, cmp_eq, eqD_int]
      | some j =>
        by_cases z1 : j < 2
        · simp [d_ratio_in, hsp, ix, ix1, numin_ok t1.pl t1.len, numin_ok t2.pl t2.len, hv, hq, isNon, ratioP, oR, cmp_eq, eqD_int, z1]
        · by_cases z2 : Int.gcd i j = 1
          · have hj := lt60 (wholeV_lt hq)
            have hn := new_ok (n := n) (a := i) (b := j) (s := s) (by omega) (hj.mono (by decide))
            rw [nr_self ⟨by omega, z2⟩] at hn
            simp [d_ratio_in, hsp, ix, ix1, numin_ok t1.pl t1.len, numin_ok t2.pl t2.len, hv, hq, isNon, ratioP, oR, cmp_eq, cmp_ne, eqD_int, z1, z2, hn]
          · have z3 : ¬ ((Int.gcd i j : Nat) : Int) = 1 := by omega
            simp [d_ratio_in, hsp, ix, ix1, numin_ok t1.pl t1.len, numin_ok t2.pl t2.len, hv, hq, isNon, ratioP, oR, cmp_eq, cmp_ne, eqD_int, z1, z2, z3]
  | p :: q :: r :: l, _, hp, hsp =>
    have t1 := hp p (by simp)
    have hl : (2 : Int) < ((l.length : Int) + 1 + 1 + 1) := by omega
    cases hv : wholeV p with
    | none => simp [d_ratio_in, hsp, ix, numin_ok t1.pl t1.len, hv, isNon, ratioP, oR]
    | some i => simp [d_ratio_in, hsp, ix, numin_ok t1.pl t1.len, hv, isNon, ratioP, oR, hl]
/-- the law's own reading -/
theorem pairs_lc {C : Calls} {s : PS} {ps : List (List Nat)} {a b : SV} {o1 o2 : Option SV} (hl : ps.length ≤ 90002) (hC : ∀ p ∈ ps, ∀ u, C 15 [.v (.str p)] u = .ok (.v (oI (wholeV p))) u) :
    evE tab C (.lc true (.one 3) (.var 1) [] (.call 15 [(.var 3)])) [some a, some (.v (.lst (ps.map .str))), o1, o2] s = .ok (.v (.lst (ps.map fun p => oI (wholeV p)))) s := by
  have := lc_pure (T := tab) (C := C) (σ := [some a, some (.v (.lst (ps.map .str))), o1, o2]) (s := s) (s1 := s) (t := .one 3) (it := .var 1) (cs := []) (e := .call 15 [(.var 3)]) (v := .v (.lst (ps.map .str))) (xs := ps.map .str)
    (p := fun _ => true) (f := fun x => match x with
      | .str p => oI (wholeV p)
      | _ => .non) (by simp) rfl (by simp; omega) (fun x hx => by
      obtain ⟨c, hc, rfl⟩ := List.mem_map.mp hx
      exact ⟨[some a, some (.v (.lst (ps.map .str))), o1, some (.v (.str c))], rfl, fun u => ⟨by simp, fun _ => by simp [hC c hc]⟩⟩)
  rw [this, List.filter_eq_self.mpr (fun _ _ => rfl), List.map_map]
  rfl
theorem flat_oI {o : Option Int} : flat (oI o) = true := by cases o <;> rfl
theorem eqF_oI {o : Option Int} : eqF (oI o) .non = o.isNone := by cases o <;> rfl
theorem pair_ok (h : Tx w) : callN tab (n + 3) 16 [.v (.str w)] s = .ok (.v (oP (ratioV w))) s := by
  rw [call_run a_l_pair rfl]
  have hsp : ∀ s' : PS, bm2 .split true (.v (.str w)) [.v (.str [47])] s' = .ok (.v (.lst ((TL.spl [47] 0 [] w).map .str))) s' := fun s' => by
    rw [bm_split (by decide), newL_t, if_pos (by have := spl_len (c := 47) (w := w) (acc := []); have := h.len; simp; omega)]
    have e : (TL.spl [47] 0 [] w).map (fun y => SV.v (.str y)) = ((TL.spl [47] 0 [] w).map PV.str).map SV.v := by rw [List.map_map]; rfl
    rw [e, vs_map]
    rfl
  have hp := h.parts (c := 47)
  have hne := spl_ne (c := 47) (w := w) (acc := [])
  have hln : (TL.spl [47] 0 [] w).length ≤ 90002 := by have := spl_len (c := 47) (w := w) (acc := []); have := h.len; omega
  unfold ratioV
  generalize TL.spl [47] 0 [] w = ps at hsp hp hne hln
  have hlc : ∀ (a : SV) (o1 o2 : Option SV) (s' : PS), evE tab (callN tab (n + 2)) (.lc true (.one 3) (.var 1) [] (.call 15 [(.var 3)])) [some a, some (.v (.lst (ps.map .str))), o1, o2] s' = .ok (.v (.lst (ps.map fun p => oI (wholeV p)))) s' :=
    fun a o1 o2 s' => pairs_lc (b := a) hln fun p hpp u => whole2_ok (hp p hpp).pl (hp p hpp).len
  have hfl : (ps.map fun p => oI (wholeV p)).all flat = true := by
    rw [List.all_eq_true]
    intro x hx
    obtain ⟨p, _, rfl⟩ := List.mem_map.mp hx
    exact flat_oI
  have hin : ∀ s' : PS, cmp2 tab (callN tab (n + 2)) .inn (.v .non) (.v (.lst (ps.map fun p => oI (wholeV p)))) s' = .ok (ps.any fun p => (wholeV p).isNone) s' := fun s' => by
    rw [cmp_inl rfl hfl, List.any_map]
    congr 2
    funext p
    exact eqF_oI
  have ix : ∀ (x : PV) (l : List PV) (s' : PS), idx2 (.v (.lst (x :: l))) (.v (.int 0)) s' = .ok (.v x) s' := fun x l s' => idx_lst (by decide) rfl
  have ix1 : ∀ (x y : PV) (l : List PV) (s' : PS), idx2 (.v (.lst (x :: y :: l))) (.v (.int 1)) s' = .ok (.v y) s' := fun x y l s' => idx_lst (by decide) rfl
  match ps, hne, hp, hsp, hlc, hin with
  | [], hne, _, _, _, _ => exact absurd rfl hne
  | [p], _, hp, hsp, hlc, hin =>
    simp at hsp hlc hin
    cases hv : wholeV p with
    | none =>
      simp [hv] at hlc hin
      simp [d_l_pair, hsp, hlc, hin, hv, ratioP, oP]
    | some i =>
      simp [hv] at hlc hin
      simp [d_l_pair, hsp, hlc, hin, hv, ratioP, oP, cmp_eq, eqD_int, ix]
  | [p, q], _, hp, hsp, hlc, hin =>
    simp at hsp hlc hin
    cases hv : wholeV p with
    | none =>
      simp [hv] at hlc hin
      simp [d_l_pair, hsp, hlc, hin, hv, ratioP, oP]
    | some i =>
      cases hq : wholeV q with
      | none =>
        simp [hv, hq] at hlc hin
        simp [d_l_pair, hsp, hlc, hin, hv, hq, ratioP, oP]
      | some j =>
        simp [hv, hq] at hlc hin
        have hj := wholeV_lt hq
        have hc : ∀ s' : PS, callN tab (n + 2) 11 [.v (.int i), .v (.int j)] s' = .ok (.v (.int (Int.gcd i j : Nat))) s' := fun s' => common_ok (Nat.lt_of_lt_of_le hj (by decide +kernel))
        by_cases z1 : j < 2
        · simp [d_l_pair, hsp, hlc, hin, hv, hq, ratioP, oP, cmp_eq, eqD_int, ix, ix1, z1]
        · by_cases z2 : Int.gcd i j = 1
          · simp [d_l_pair, hsp, hlc, hin, hv, hq, ratioP, oP, cmp_eq, cmp_ne, eqD_int, ix, ix1, z1, hc, z2]
          · have z3 : ¬ ((Int.gcd i j : Nat) : Int) = 1 := by omega
            simp [d_l_pair, hsp, hlc, hin, hv, hq, ratioP, oP, cmp_eq, cmp_ne, eqD_int, ix, ix1, z1, hc, z2, z3]
  | p :: q :: r :: l, _, hp, hsp, hlc, hin =>
    have hl : (2 : Int) < ((l.length : Int) + 1 + 1 + 1) := by omega
    simp at hsp hlc hin
    by_cases z : ((p :: q :: r :: l).any fun p => (wholeV p).isNone) = true
    · simp at z
      simp [d_l_pair, hsp, hlc, hin, z, ratioP, oP]
    · simp at z
      simp [d_l_pair, hsp, hlc, hin, z, ratioP, oP, hl]
end
end K01
set_option Elab.async false
set_option linter.all false
set_option maxRecDepth 100000
set_option maxHeartbeats 2000000
set_option exponentiation.threshold 20000
namespace K01
open Vm Vm.Q PySem
/-- a scan's cell -/
abbrev sn (ws : List (List Nat)) (k : Int) : PO := .ins 3 [.v (.int 0), .v (.tup (ws.map .str)), .v (.int k)]
section
variable {s : PS} {w : List Nat} {n : Nat} {ws : List (List Nat)} {k : Int}
theorem over_ok' : callN tab (n + 1) 24 [.ref s.length] (s ++ [sn ws k]) = .ok (.v (.bl (decide ((ws.length : Int) ≤ k)))) (s ++ [sn ws k]) := by
  rw [call_run a_Scan_is_over rfl]
  simp [d_Scan_is_over]
theorem refuse_ok : callN tab (n + 1) 23 [.ref s.length, .v .non] (s ++ [sn ws k]) = .ex ⟨2, [.int 0, .int k]⟩ (s ++ [sn ws k]) := by
  rw [call_run a_Scan_refuse rfl]
  simp [d_Scan_refuse, isNon]
theorem finish_ok : callN tab (n + 2) 25 [.ref s.length] (s ++ [sn ws k]) = if (ws.length : Int) ≤ k then .ok (.v .non) (s ++ [sn ws k]) else .ex ⟨2, [.int 0, .int k]⟩ (s ++ [sn ws k]) := by
  rw [call_run a_Scan_finish rfl]
  by_cases h : (ws.length : Int) ≤ k
  · simp [d_Scan_finish, over_ok', h]
  · simp [d_Scan_finish, over_ok', refuse_ok, h]
theorem take_none {p : List Nat} {l : List (List Nat)} (hp : Tx p) (h : ratioV p = none) : callN tab (n + 4) 5 [.ref s.length] (s ++ [sn (p :: l) 0]) = .ex ⟨2, [.int 0, .int 0]⟩ (s ++ [sn (p :: l) 0]) := by
  rw [call_run a_take_ratio rfl]
  have hr := refuse_ok (n := n + 2) (s := s) (ws := p :: l) (k := 0)
  have ho := over_ok' (n := n + 2) (s := s) (ws := p :: l) (k := 0)
  have hl : ¬ (((p :: l).length : Int) ≤ 0) := by simp
  rw [decide_eq_false hl] at ho
  simp [sn] at hr ho
  simp [d_take_ratio, ho, ratioin_ok hp, h, oR, isNon, hr]
theorem take_some {p : List Nat} {l : List (List Nat)} {a b : Int} (hp : Tx p) (h : ratioV p = some (a, b)) : callN tab (n + 4) 5 [.ref s.length] (s ++ [sn (p :: l) 0]) = .ok (.v (rat a b)) (s ++ [sn (p :: l) 1]) := by
  rw [call_run a_take_ratio rfl]
  have ho := over_ok' (n := n + 2) (s := s) (ws := p :: l) (k := 0)
  have hl : ¬ (((p :: l).length : Int) ≤ 0) := by simp
  rw [decide_eq_false hl] at ho
  simp [sn] at ho
  simp [d_take_ratio, ho, ratioin_ok hp, h, oR, isNon]
theorem scan_ok (h : Tx w) : make tab (callN tab (n + 1)) 3 [.v (.str w)] s = .ok (.ref s.length) (s ++ [sn (TL.spl [32] 0 [] w) 0]) := by
  refine make_ref c_Scan rfl rfl rfl ?_
  have hsp : ∀ s' : PS, bm2 .split true (.v (.str w)) [.v (.str [32])] s' = .ok (.v (.lst ((TL.spl [32] 0 [] w).map .str))) s' := fun s' => by
    rw [bm_split (by decide), newL_t, if_pos (by have := spl_len (c := 32) (w := w) (acc := []); have := h.len; simp; omega)]
    have e : (TL.spl [32] 0 [] w).map (fun y => SV.v (.str y)) = ((TL.spl [32] 0 [] w).map PV.str).map SV.v := by rw [List.map_map]; rfl
    rw [e, vs_map]
    rfl
  simp
  rw [call_run a_Scan_init rfl]
  simp [d_Scan_init, hsp]
theorem scan_no {x : PV} (h : OkV x) (h2 : ∀ w, x ≠ .str w) : make tab (callN tab (n + 1)) 3 [.v x] s = .ex ⟨2, [.int 0, .int 0]⟩ s := by
  refine make_ex c_Scan rfl rfl (t := [.ins 3 []]) ?_
  have hy : ∀ s' : PS, isTy tab (.v x) s' .str = some false := fun s' => by
    cases x <;> simp [OkV] at h <;> try simp
    exact absurd rfl (h2 _)
  simp
  rw [call_run a_Scan_init rfl]
  simp [d_Scan_init, hy]
theorem read_no {x : PV} (h : OkV x) (h2 : ∀ w, x ≠ .str w) : callN tab (n + 5) 28 [.v x] s = .ex ⟨2, [.int 0, .int 0]⟩ s := by
  rw [call_run a_Ratio_read rfl]
  simp [d_Ratio_read, scan_no h h2]
theorem read_none {p : List Nat} {l : List (List Nat)} (h : Tx w) (hw : TL.spl [32] 0 [] w = p :: l) (hr : ratioV p = none) : callN tab (n + 5) 28 [.v (.str w)] s = .ex ⟨2, [.int 0, .int 0]⟩ s := by
  rw [call_run a_Ratio_read rfl]
  have hp : Tx p := h.parts (c := 32) p (by rw [hw]; simp)
  have hs := scan_ok (n := n + 3) (s := s) h
  have ht := take_none (n := n) (s := s) (l := l) hp hr
  rw [hw] at hs
  simp [sn] at hs ht
  simp [d_Ratio_read, hs, ht]
theorem read_one {p : List Nat} {a b : Int} (h : Tx w) (hw : TL.spl [32] 0 [] w = [p]) (hr : ratioV p = some (a, b)) : callN tab (n + 5) 28 [.v (.str w)] s = .ok (.v (rat a b)) s := by
  rw [call_run a_Ratio_read rfl]
  have hp : Tx p := h.parts (c := 32) p (by rw [hw]; simp)
  have hs := scan_ok (n := n + 3) (s := s) h
  have ht := take_some (n := n) (s := s) (l := []) hp hr
  have hf := finish_ok (n := n + 2) (s := s) (ws := [p]) (k := 1)
  rw [hw] at hs
  simp [sn] at hs ht hf
  simp [d_Ratio_read, hs, ht, hf]
theorem read_two {p q : List Nat} {l : List (List Nat)} {a b : Int} (h : Tx w) (hw : TL.spl [32] 0 [] w = p :: q :: l) (hr : ratioV p = some (a, b)) : callN tab (n + 5) 28 [.v (.str w)] s = .ex ⟨2, [.int 0, .int 1]⟩ s := by
  rw [call_run a_Ratio_read rfl]
  have hp : Tx p := h.parts (c := 32) p (by rw [hw]; simp)
  have hs := scan_ok (n := n + 3) (s := s) h
  have ht := take_some (n := n) (s := s) (l := q :: l) hp hr
  have hf := finish_ok (n := n + 2) (s := s) (ws := p :: q :: l) (k := 1)
  have hl : ¬ (((p :: q :: l).length : Int) ≤ 1) := by simp; omega
  rw [if_neg hl] at hf
  rw [hw] at hs
  simp [sn] at hs ht hf
  simp [d_Ratio_read, hs, ht, hf]
theorem is60 {a b : Int} (ha : a.natAbs < 10 ^ 60) (hb : b.natAbs < 10 ^ 60) : callN tab (n + 3) 14 [.v (rat a b), .v (.tup [.int a, .int b])] s = .ok (.v (.bl true)) s :=
  is_ok ((lt60 ha).mono (by decide)) ((lt60 hb).mono (by decide))
theorem small_atom {i : Int} (h : i.natAbs < 2) : Bd 1900 i := Nat.lt_of_lt_of_le h (by decide +kernel)
/-- what the law reads -/
theorem readright_str (h : Tx w) : callN tab (n + 6) 17 [.v (.str w)] s = .ok (.v (.bl true)) s := by
  rw [call_run a_l_read_right rfl]
  have hsp : ∀ s' : PS, bm2 .split true (.v (.str w)) [.v (.str [32])] s' = .ok (.v (.lst ((TL.spl [32] 0 [] w).map .str))) s' := fun s' => by
    rw [bm_split (by decide), newL_t, if_pos (by have := spl_len (c := 32) (w := w) (acc := []); have := h.len; simp; omega)]
    have e : (TL.spl [32] 0 [] w).map (fun y => SV.v (.str y)) = ((TL.spl [32] 0 [] w).map PV.str).map SV.v := by rw [List.map_map]; rfl
    rw [e, vs_map]
    rfl
  have ix : ∀ (x : PV) (l : List PV) (s' : PS), idx2 (.v (.lst (x :: l))) (.v (.int 0)) s' = .ok (.v x) s' := fun x l s' => idx_lst (by decide) rfl
  obtain ⟨t0, e0, p0⟩ := shown_tup (xs := [.int 0, .int 0]) (by simp [atom, small_atom]) (by simp)
  obtain ⟨t1, e1, p1⟩ := shown_tup (xs := [.int 0, .int 1]) (by simp [atom, small_atom]) (by simp)
  have q0 := eqD_str p0 p0
  have q1 := eqD_str p1 p1
  simp at q0 q1
  have hne := spl_ne (c := 32) (w := w) (acc := [])
  cases hw : TL.spl [32] 0 [] w with
  | nil => exact absurd hw hne
  | cons p l =>
    have hp : Tx p := h.parts (c := 32) p (by rw [hw]; simp)
    rw [hw] at hsp
    cases hr : ratioV p with
    | none =>
      simp [d_l_read_right, hsp, ix, pair_ok hp, hr, oP, isNon, read_none h hw hr, evH, evHs, e0, cmp_eq, q0]
    | some ab =>
      obtain ⟨a, b⟩ := ab
      obtain ⟨z1, z2, z3⟩ := ratioV_nm hr
      cases l with
      | nil => simp [d_l_read_right, hsp, ix, pair_ok hp, hr, oP, isNon, read_one h hw hr, is60 z2 z3]
      | cons q l =>
        have hl : (1 : Int) < ((l.length : Int) + 1 + 1) := by omega
        simp [d_l_read_right, hsp, ix, pair_ok hp, hr, oP, isNon, hl, read_two h hw hr, evH, evHs, e1, cmp_eq, q1]
theorem readright_no {x : PV} (h : OkV x) (h2 : ∀ w, x ≠ .str w) : callN tab (n + 6) 17 [.v x] s = .ok (.v (.bl true)) s := by
  rw [call_run a_l_read_right rfl]
  obtain ⟨t0, e0, p0⟩ := shown_tup (xs := [.int 0, .int 0]) (by simp [atom, small_atom]) (by simp)
  have q0 := eqD_str p0 p0
  simp at q0
  have hy : ∀ s' : PS, isTy tab (.v x) s' .str = some false := fun s' => by
    cases x <;> simp [OkV] at h <;> try simp
    exact absurd rfl (h2 _)
  have ix : ∀ (x : PV) (l : List PV) (s' : PS), idx2 (.v (.lst (x :: l))) (.v (.int 0)) s' = .ok (.v x) s' := fun x l s' => idx_lst (by decide) rfl
  have hr : ratioV [] = none := by
    unfold ratioV
    rw [TL.spl_nil]
    show (wholeV []).map (fun a => (a, (1 : Int))) = none
    unfold wholeV plain
    simp
  have hp : Tx [] := ⟨pl0, by simp⟩
  simp [d_l_read_right, hy, ix, pair_ok hp, hr, oP, isNon, read_no h h2, evH, evHs, e0, cmp_eq, q0]
end
end K01
set_option Elab.async false
set_option linter.all false
set_option maxRecDepth 100000
set_option maxHeartbeats 2000000
set_option exponentiation.threshold 20000
namespace K01
open Vm Vm.Q PySem
/-- the sum of two, in lowest terms -/
abbrev addN (p q : Int × Int) : Int × Int := nr (p.1 * q.2 + q.1 * p.2) (p.2 * q.2)
/-- values and their pairs -/
def Vals' : List PV → List (Int × Int) → Prop
  | [], [] => True
  | x :: xs, p :: ps => Val x p.1 p.2 ∧ Vals' xs ps
  | _, _ => False
/-- all sums on the way are small -/
def SumOk : Int × Int → List (Int × Int) → Prop
  | _, [] => True
  | t, p :: ps => t.2 ≠ 0 ∧ p.2 ≠ 0 ∧ Bd 2000 t.1 ∧ Bd 2000 t.2 ∧ Bd 2000 p.1 ∧ Bd 2000 p.2 ∧ SumOk (addN t p) ps
section
variable {s : PS} {n : Nat} {x : PV} {xs : List PV} {ps : List (Int × Int)}
theorem vals_len : ∀ {xs : List PV} {ps : List (Int × Int)}, Vals' xs ps → xs.length = ps.length
  | [], [], _ => rfl
  | x :: xs, p :: ps, h => by rw [List.length_cons, List.length_cons, vals_len h.2]
  | [], _ :: _, h => h.elim
  | _ :: _, [], h => h.elim
theorem vals_mem : ∀ {xs : List PV} {ps : List (Int × Int)}, Vals' xs ps → ∀ x ∈ xs, ∃ c d, Val x c d
  | [], [], _, x, h => by cases h
  | y :: xs, p :: ps, h, x, hx => by
    rcases List.mem_cons.mp hx with rfl | hx
    · exact ⟨_, _, h.1⟩
    · exact vals_mem h.2 x hx
  | [], _ :: _, h, _, _ => h.elim
  | _ :: _, [], h, _, _ => h.elim
theorem val_okR {c d : Int} (h : Val x c d) : okR 4 x = true := by cases h <;> rfl
def isVal : PV → Bool
  | .int _ => true
  | .ins _ _ => true
  | _ => false
theorem val_is {c d : Int} (h : Val x c d) : isVal x = true := by cases h <;> rfl
theorem no_is (h : No x) : isVal x = false := by
  obtain ⟨h1, h2, h3⟩ := h
  cases x <;> simp [OkV] at h1 <;> try rfl
  · cases h2
  · subst h1; exact absurd rfl (h3 _)
theorem added_loop {n0 : Nat} {a : SV} : ∀ {xs : List PV} {ps : List (Int × Int)} {t : Int × Int} {o : Option SV}, Vals' xs ps → SumOk t ps →
    ∃ o', forL (.one 2) (kBody tab (callN tab (n + 4)) n0 [(.set 1 (.op .add (.var 1) (.var 2)))]) xs [some a, some (.v (rat t.1 t.2)), o] s = .go .nx [some a, some (.v (rat (ps.foldl addN t).1 (ps.foldl addN t).2)), o'] s
  | [], [], t, o, _, _ => ⟨o, rfl⟩
  | x :: xs, p :: ps, t, o, h, hs => by
    obtain ⟨h1, h2, h3, h4, h5, h6, h7⟩ := hs
    obtain ⟨o', e⟩ := added_loop (n0 := n0) (a := a) (o := some (.v x)) h.2 h7
    refine ⟨o', ?_⟩
    have ha := add_ok (n := n) (s := s) (a := t.1) (b := t.2) h.1 h1 h2 h3 h4 h5 h6
    have hk := val_okR h.1
    unfold forL
    simp [asg, bin_own hk, ha]
    exact e
  | [], _ :: _, _, _, h, _ => h.elim
  | _ :: _, [], _, _, h, _ => h.elim
/-- the items that a list or a tuple holds -/
def Seq (x : PV) (xs : List PV) : Prop := x = .lst xs ∨ x = .tup xs
theorem isr_lc {C : Calls} {a : PV} {o1 o2 : Option SV} (ha : Seq a xs) (hl : xs.length ≤ 1000) {q : PV → Bool} (hq : ∀ x ∈ xs, ∀ u, C 2 [.v x] u = .ok (.v (.bl (q x))) u) :
    evE tab C (.lc true (.one 2) (.var 0) [] (.call 2 [(.var 2)])) [some (.v a), o1, o2] s = .ok (.v (.lst (xs.map fun x => .bl (q x)))) s := by
  have hi : itemsOf (.v a) = some xs := by rcases ha with rfl | rfl <;> rfl
  have := lc_pure (T := tab) (C := C) (σ := [some (.v a), o1, o2]) (s := s) (s1 := s) (t := .one 2) (it := .var 0) (cs := []) (e := .call 2 [(.var 2)]) (v := .v a) (xs := xs)
    (p := fun _ => true) (f := fun x => .bl (q x)) (by simp) hi (by simp; omega) (fun x hx => by
      exact ⟨[some (.v a), o1, some (.v x)], rfl, fun u => ⟨by simp, fun _ => by simp [hq x hx]⟩⟩)
  rw [this, List.filter_eq_self.mpr (fun _ _ => rfl)]
theorem added_ok {a : PV} (ha : Seq a xs) (hl : xs.length ≤ 1000) (h : Vals' xs ps) (hs : SumOk (0, 1) ps) : callN tab (n + 5) 6 [.v a] s = .ok (.v (rat (ps.foldl addN (0, 1)).1 (ps.foldl addN (0, 1)).2)) s := by
  rw [call_run a_added rfl]
  have hlc : ∀ (o1 o2 : Option SV), evE tab (callN tab (n + 4)) (.lc true (.one 2) (.var 0) [] (.call 2 [(.var 2)])) [some (.v a), o1, o2] s = .ok (.v (.lst (xs.map fun x => .bl true))) s :=
    fun o1 o2 => isr_lc (q := fun _ => true) ha hl fun x hx u => by
      obtain ⟨c, d, hv⟩ := vals_mem h x hx
      exact isr_val (n := n + 2) hv
  have hall : allV (xs.map fun x => PV.bl true) = some true := by
    have := allV_map (g := fun _ : PV => true) (p := xs)
    rw [this]
    simp
  obtain ⟨o', e⟩ := added_loop (n := n) (s := s) (n0 := s.length) (a := .v a) (o := none) h hs
  have hi : itemsOf (.v a) = some xs := by rcases ha with rfl | rfl <;> rfl
  rcases ha with rfl | rfl
  · simp [d_added, hlc, hall, new1_ok] at e ⊢
    rw [e]
    simp
  · simp [d_added, hlc, hall, new1_ok] at e ⊢
    rw [e]
    simp
theorem all_no {q : PV → Bool} (h : ∃ x ∈ xs, q x = false) : allV (xs.map fun x => PV.bl (q x)) = some false := by
  rw [allV_map]
  congr 1
  rw [Bool.eq_false_iff]
  intro z
  rw [List.all_eq_true] at z
  obtain ⟨x, h1, h2⟩ := h
  rw [z x h1] at h2
  cases h2
abbrev eRatios : PX := ⟨1, [.str [114, 97, 116, 105, 111, 115]]⟩
/-- a list in which one is none -/
theorem added_bad {a : PV} (ha : Seq a xs) (hl : xs.length ≤ 1000) (h : ∀ x ∈ xs, (∃ c d, Val x c d) ∨ No x) (hn : ∃ x ∈ xs, No x) : callN tab (n + 5) 6 [.v a] s = .ex eRatios s := by
  rw [call_run a_added rfl]
  obtain ⟨q, hq, hq2⟩ : ∃ q : PV → Bool, (∀ x ∈ xs, ∀ u, callN tab (n + 4) 2 [.v x] u = .ok (.v (.bl (q x))) u) ∧ ∃ x ∈ xs, q x = false := by
    refine ⟨isVal, fun x hx u => ?_, ?_⟩
    · rcases h x hx with hv | hv
      · obtain ⟨c, d, hv⟩ := hv
        rw [val_is hv]
        exact isr_val (n := n + 2) hv
      · rw [no_is hv]
        exact isr_no' (n := n + 2) hv
    · obtain ⟨x, hx, hv⟩ := hn
      exact ⟨x, hx, no_is hv⟩
  have hlc : ∀ (o1 o2 : Option SV), evE tab (callN tab (n + 4)) (.lc true (.one 2) (.var 0) [] (.call 2 [(.var 2)])) [some (.v a), o1, o2] s = .ok (.v (.lst (xs.map fun x => .bl (q x)))) s :=
    fun o1 o2 => isr_lc ha hl hq
  have hall := all_no hq2
  rcases ha with rfl | rfl <;> simp [d_added, hlc, hall]
/-- no list, no tuple -/
theorem added_no (h : ∀ s' : PS, isTy tab (.v x) s' .list = some false) (h2 : ∀ s' : PS, isTy tab (.v x) s' .tuple = some false) : callN tab (n + 5) 6 [.v x] s = .ex eRatios s := by
  rw [call_run a_added rfl]
  simp [d_added, h, h2]
end
end K01
set_option Elab.async false
set_option linter.all false
set_option maxRecDepth 100000
set_option maxHeartbeats 4000000
set_option exponentiation.threshold 20000
namespace K01
open Vm Vm.Q PySem
abbrev sOther : List Nat := [111, 116, 104, 101, 114]
abbrev sZero : List Nat := [122, 101, 114, 111]
abbrev sValue : List Nat := [118, 97, 108, 117, 101]
abbrev sTop : List Nat := [116, 111, 112]
abbrev sBottom : List Nat := [98, 111, 116, 116, 111, 109]
abbrev sRatios : List Nat := [114, 97, 116, 105, 111, 115]
theorem no_okR {x : PV} (h : No x) : okR 4 x = true := by
  obtain ⟨h1, h2, h3⟩ := h
  cases x <;> simp [OkV] at h1 <;> try rfl
  subst h1; exact absurd rfl (h3 _)
section
variable {s : PS} {n : Nat} {x : PV} {a b c d : Int}
theorem ref0 (h : No x) : callN tab (n + 6) 19 [.v (.int 0), .v (rat a b), .v x] s = .ok (.v (.str sOther)) s := by
  rw [call_run a_l_refused rfl]
  simp [d_l_refused, cmp_eq, eqD_int, bin_own (no_okR h), add_no h, evH, evHs]
theorem ref1 (h : No x) : callN tab (n + 6) 19 [.v (.int 1), .v (rat a b), .v x] s = .ok (.v (.str sOther)) s := by
  rw [call_run a_l_refused rfl]
  simp [d_l_refused, cmp_eq, eqD_int, bin_own (no_okR h), sub_no h, evH, evHs]
theorem ref2 (h : No x) : callN tab (n + 6) 19 [.v (.int 2), .v (rat a b), .v x] s = .ok (.v (.str sOther)) s := by
  rw [call_run a_l_refused rfl]
  simp [d_l_refused, cmp_eq, eqD_int, bin_own (no_okR h), mul_no h, evH, evHs]
theorem ref3 (h : No x) : callN tab (n + 6) 19 [.v (.int 3), .v (rat a b), .v x] s = .ok (.v (.str sOther)) s := by
  rw [call_run a_l_refused rfl]
  simp [d_l_refused, cmp_eq, eqD_int, over_no h, evH, evHs]
theorem ref3z (h : Val x 0 d) : callN tab (n + 6) 19 [.v (.int 3), .v (rat a b), .v x] s = .ok (.v (.str sZero)) s := by
  rw [call_run a_l_refused rfl]
  simp [d_l_refused, cmp_eq, eqD_int, over_0 h, evH, evHs]
theorem ref4 (h : No x) : callN tab (n + 6) 19 [.v (.int 4), .v (rat a b), .v x] s = .ok (.v (.str sOther)) s := by
  rw [call_run a_l_refused rfl]
  simp [d_l_refused, cmp_eq, eqD_int, comp_no h, evH, evHs]
theorem ref5 (h : No x) : callN tab (n + 6) 19 [.v (.int 5), .v (rat a b), .v x] s = .ok (.v (.str sOther)) s := by
  rw [call_run a_l_refused rfl]
  simp [d_l_refused, cmp_eq, eqD_int, below_no h, evH, evHs]
theorem ref6 (h : No x) : callN tab (n + 6) 19 [.v (.int 6), .v (rat a b), .v x] s = .ok (.v (.str sValue)) s := by
  rw [call_run a_l_refused rfl]
  simp [d_l_refused, cmp_eq, eqD_int, of_no h, evH, evHs]
theorem ref7 (h : No x) : callN tab (n + 6) 19 [.v (.int 7), .v (rat a b), .v x] s = .ok (.v (.str sTop)) s := by
  rw [call_run a_l_refused rfl]
  have := newBad1 (n := n + 3) (s := s) (y := x) h.1 h.2.1
  simp [d_l_refused, cmp_eq, eqD_int, this, evH, evHs]
theorem ref8 (h : OkV x) (h2 : isI x = false ∨ x = .int 0) : callN tab (n + 6) 19 [.v (.int 8), .v (rat a b), .v x] s = .ok (.v (.str sBottom)) s := by
  rw [call_run a_l_refused rfl]
  have := newBad2 (n := n + 3) (s := s) (a := 7) h h2
  simp [d_l_refused, cmp_eq, eqD_int, this, evH, evHs]
theorem ref9 (h : No x) : callN tab (n + 6) 19 [.v (.int 9), .v (rat a b), .v x] s = .ok (.v (.str sRatios)) s := by
  rw [call_run a_l_refused rfl]
  have := added_bad (n := n) (s := s) (a := .lst [.int 1, rat a b, x]) (.inl rfl) (by simp) (by
    intro y hy
    simp at hy
    rcases hy with rfl | rfl | rfl
    · exact .inl ⟨_, _, .int 1⟩
    · exact .inl ⟨_, _, .rat a b⟩
    · exact .inr h) ⟨x, by simp, h⟩
  simp [d_l_refused, cmp_eq, eqD_int, this, evH, evHs]
theorem ref10 (h : ∀ s' : PS, callN tab (n + 5) 6 [.v x] s' = .ex eRatios s') : callN tab (n + 6) 19 [.v (.int 10), .v (rat a b), .v x] s = .ok (.v (.str sRatios)) s := by
  rw [call_run a_l_refused rfl]
  simp [d_l_refused, cmp_eq, eqD_int, h, evH, evHs]
/-- equal in lowest terms -/
theorem nm_eq (h : Nm a b) (h' : Nm c d) : a * d - c * b = 0 ↔ a = c ∧ b = d := by
  constructor
  · intro e
    have e : a * d = c * b := by omega
    have hb := h.1
    have hd := h'.1
    have dd : ∀ a b c d : Int, Int.gcd a b = 1 → a * d = c * b → b ∣ d := by
      intro a b c d g e
      have h1 : b.natAbs ∣ a.natAbs * d.natAbs := by
        rw [← Int.natAbs_mul, e, Int.natAbs_mul]
        exact Nat.dvd_mul_left _ _
      have h2 : Nat.Coprime b.natAbs a.natAbs := by
        show Nat.gcd b.natAbs a.natAbs = 1
        rw [Nat.gcd_comm]
        exact g
      exact Int.natAbs_dvd_natAbs.mp (h2.dvd_of_dvd_mul_left h1)
    have d1 : b ∣ d := dd a b c d h.2 e
    have d2 : d ∣ b := dd c d a b h'.2 e.symm
    have hbd : b = d := Int.dvd_antisymm (by omega) (by omega) d1 d2
    subst hbd
    exact ⟨Int.eq_of_mul_eq_mul_right (by omega) e, rfl⟩
  · rintro ⟨rfl, rfl⟩
    omega
/-- equality, as it is asked -/
theorem eq_ask (hv : Val x c d) (h : Nm a b) (h' : Nm c d) : cmp2 tab (callN tab (n + 2)) .eq (.v (rat a b)) (.v x) s = .ok (decide (a * d - c * b = 0)) s := by
  have hk := val_okR hv
  rw [cmp_own hk]
  have key := nm_eq h h'
  cases hv with
  | int _ =>
    have e := eq_int (n := n) (s := s) (a := a) (b := b) (c := c)
    simp [e]
    have : (b = 1 ∧ a = c) ↔ a - c * b = 0 := by
      rw [show a - c * b = a * 1 - c * b by omega, key]
      exact ⟨fun z => ⟨z.2, z.1⟩, fun z => ⟨z.2, z.1⟩⟩
    by_cases z : a - c * b = 0
    · have := this.mpr z
      simp [z, this.1, this.2]
    · have q : ¬ (b = 1 ∧ a = c) := fun y => z (this.mp y)
      simp [z]
      exact fun y1 y2 => q ⟨y1, y2⟩
  | rat _ _ =>
    have e := eq_rat (n := n) (s := s) (a := a) (b := b) (c := c) (d := d)
    simp [e]
    by_cases z : a * d - c * b = 0
    · have := key.mp z
      simp [z, this.1, this.2]
    · have q : ¬ (a = c ∧ b = d) := fun y => z (key.mpr y)
      simp [z]
      exact fun y1 y2 => q ⟨y1, y2⟩
theorem sgn_small {i : Int} : Bd 1900 (sgn i) := by
  refine small_atom ?_
  unfold sgn
  split
  · decide
  · split <;> decide
theorem pairs_ok (hv : Val x c d) (h : Nm a b) (h' : Nm c d) (ha : Bd 200 a) (hb : Bd 200 b) (hc : Bd 200 c) (hd : Bd 200 d) :
    callN tab (n + 7) 20 [.v (rat a b), .v (.tup [.int a, .int b]), .v x, .v (.tup [.int c, .int d])] s = .ok (.v (.bl true)) s := by
  rw [call_run a_l_pairs_right rfl]
  have A : Bd 2000 a := ha.mono (by decide)
  have B' : Bd 2000 b := hb.mono (by decide)
  have C' : Bd 2000 c := hc.mono (by decide)
  have D' : Bd 2000 d := hd.mono (by decide)
  have hb0 : b ≠ 0 := by have := h.1; omega
  have hd0 : d ≠ 0 := by have := h'.1; omega
  have hbd0 := ne_mul hb0 hd0
  have hn1 : (b * d).natAbs < 2 ^ 599 := (hb.mul hd).mono (by decide)
  have hn2 : (b * c).natAbs < 2 ^ 599 := (hb.mul hc).mono (by decide)
  have hk := val_okR hv
  have b1 : Bd 1900 (a * d + c * b) := ((ha.mul hd).add (hc.mul hb)).mono (by decide)
  have b2 : Bd 1900 (a * d - c * b) := ((ha.mul hd).sub (hc.mul hb)).mono (by decide)
  have b3 : Bd 1900 (b * d) := (hb.mul hd).mono (by decide)
  have b4 : Bd 1900 (a * c) := (ha.mul hc).mono (by decide)
  have b5 : Bd 1900 (a * d) := (ha.mul hd).mono (by decide)
  have b6 : Bd 1900 (b * c) := (hb.mul hc).mono (by decide)
  have i1 := is_ok (n := n + 3) (s := s) (nr_bd1 hbd0 b1) (nr_bd2 (a := a * d + c * b) hbd0 b3)
  have i2 := is_ok (n := n + 3) (s := s) (nr_bd1 hbd0 b2) (nr_bd2 (a := a * d - c * b) hbd0 b3)
  have i3 := is_ok (n := n + 3) (s := s) (nr_bd1 hbd0 b4) (nr_bd2 (a := a * c) hbd0 b3)
  have l1 := low_ok (n := n + 4) (s := s) (a := a * d + c * b) hbd0 hn1
  have l2 := low_ok (n := n + 4) (s := s) (a := a * d - c * b) hbd0 hn1
  have l3 := low_ok (n := n + 4) (s := s) (a := a * c) hbd0 hn1
  have o1 := add_ok (n := n + 2) (s := s) hv hb0 hd0 A B' C' D'
  have o2 := sub_ok (n := n + 2) (s := s) hv hb0 hd0 A B' C' D'
  have o3 := mul_ok (n := n + 2) (s := s) hv hb0 hd0 A B' C' D'
  have cm := comp_ok (n := n + 2) (s := s) hv A B' C' D'
  have bl := below_ok (n := n + 1) (s := s) hv A B' C' D'
  have eq := eq_ask (n := n + 4) (s := s) hv h h'
  obtain ⟨t, e, p⟩ := shown_tup (xs := [.int (sgn (a * d - c * b)), .bl (decide (a * d - c * b < 0)), .bl (decide (a * d - c * b = 0))]) (by
    intro y hy
    simp only [List.mem_cons, List.not_mem_nil, or_false] at hy
    rcases hy with rfl | rfl | rfl
    · exact sgn_small
    · trivial
    · trivial) (by simp)
  have q := eqD_str p p
  rw [decide_eq_true rfl] at q
  -- the law's own order
  have hsg : (if a * d - c * b < 0 then (-1 : Int) else if 0 < a * d - c * b then 1 else 0) = sgn (a * d - c * b) := rfl
  have hs0 : (sgn (a * d - c * b) < 0) = (a * d - c * b < 0) := by
    unfold sgn
    split
    · simp; assumption
    · split <;> simp <;> omega
  have hs1 : (sgn (a * d - c * b) = 0) = (a * d - c * b = 0) := by
    unfold sgn
    split
    · simp; omega
    · split <;> simp <;> omega
  generalize hw : a * d - c * b = w at *
  have hif : ∀ (C : Calls) (σ : Sl) (s' : PS), σ[4]? = some (some (.v (.int w))) → evE tab C (.ite (.cmp .lt (.var 4) (.cst (.int 0))) (.neg (.cst (.int 1))) (.ite (.cmp .gt (.var 4) (.cst (.int 0))) (.cst (.int 1)) (.cst (.int 0)))) σ s' = .ok (.v (.int (sgn w))) s' := by
    intro C σ s' hσ
    unfold sgn
    by_cases z : w < 0
    · simp [hσ, z]
    · by_cases z2 : 0 < w
      · simp [hσ, z, z2]
      · simp [hσ, z, z2]
  simp only [Nat.add_assoc, Nat.reduceAdd] at i1 i2 i3 l1 l2 l3 o1 o2 o3 cm bl eq
  have q0 : eqD (.str sZero) (.str sZero) = some true := by
    have := eqD_str (x := sZero) (y := sZero) (by decide) (by decide)
    rw [decide_eq_true rfl] at this
    exact this
  -- each order for itself
  obtain ⟨k, kl, kg, k0, hk1, hk2, hk3, hk4⟩ : ∃ (k : Int) (kl kg k0 : Bool), sgn w = k ∧ decide (w < 0) = kl ∧ decide (0 < w) = kg ∧ decide (w = 0) = k0 ∧ (k = -1 ∧ kl = true ∧ k0 = false ∨ k = 1 ∧ kl = false ∧ kg = true ∧ k0 = false ∨ k = 0 ∧ kl = false ∧ kg = false ∧ k0 = true) := by
    refine ⟨_, _, _, _, rfl, rfl, rfl, rfl, ?_⟩
    unfold sgn
    rcases Int.lt_trichotomy w 0 with z | z | z
    · left; simp [z]; omega
    · right; right; simp [z]
    · right; left; simp [z]; omega
  have hk5 := hk4.1
  have hk4 := hk4.2
  rw [hk1] at cm e
  rw [hk2] at bl e
  rw [hk5] at eq e
  by_cases hc0 : c = 0
  · have hv0 : Val x 0 d := hc0 ▸ hv
    have z := ref3z (n := n) (s := s) (a := a) (b := b) hv0
    have ec : decide (c = 0) = true := decide_eq_true hc0
    rcases hk4 with ⟨rfl, rfl, rfl⟩ | ⟨rfl, rfl, rfl, rfl⟩ | ⟨rfl, rfl, rfl, rfl⟩
    all_goals simp [d_l_pairs_right, bin_own hk, o1, o2, o3, bin_mulB, A, B', C', D', l1, l2, l3, i1, i2, i3, hw, cm, bl, eq, e, eqD_int, cmp_ne, cmp_eq, q, ec, z, q0, hk2, hk3]
  · have ov := over_ok (n := n + 2) (s := s) hv hb0 hc0 A B' C' D'
    have i4 := is_ok (n := n + 3) (s := s) (nr_bd1 (ne_mul hb0 hc0) b5) (nr_bd2 (a := a * d) (ne_mul hb0 hc0) b6)
    have l4 := low_ok (n := n + 4) (s := s) (a := a * d) (ne_mul hb0 hc0) hn2
    simp only [Nat.add_assoc, Nat.reduceAdd] at ov i4 l4
    have ec : decide (c = 0) = false := decide_eq_false hc0
    rcases hk4 with ⟨rfl, rfl, rfl⟩ | ⟨rfl, rfl, rfl, rfl⟩ | ⟨rfl, rfl, rfl, rfl⟩
    all_goals simp [d_l_pairs_right, bin_own hk, o1, o2, o3, bin_mulB, A, B', C', D', l1, l2, l3, i1, i2, i3, hw, cm, bl, eq, e, eqD_int, cmp_ne, cmp_eq, q, ec, ov, i4, l4, hk2, hk3]
end
end K01
set_option Elab.async false
set_option linter.all false
set_option maxRecDepth 100000
set_option maxHeartbeats 4000000
set_option exponentiation.threshold 20000
namespace K01
open Vm Vm.Q PySem
/-- what can be read, or is no text -/
def Rdb (x : PV) : Prop := (∃ w, x = .str w ∧ Tx w) ∨ (OkV x ∧ ∀ w, x ≠ .str w)
theorem rdb_str {w : List Nat} (h : Pl w) (hl : w.length ≤ 90000) : Rdb (.str w) := .inl ⟨w, rfl, h, hl⟩
theorem pl_app {x y : List Nat} (h : Pl x) (h' : Pl y) : Pl (x ++ y) := fun c hc => (List.mem_append.mp hc).elim (h c) (h' c)
theorem pl_take {x : List Nat} {m : Nat} (h : Pl x) : Pl (x.take m) := fun c hc => h c (List.mem_of_mem_take hc)
theorem pl_drop {x : List Nat} {m : Nat} (h : Pl x) : Pl (x.drop m) := fun c hc => h c (List.mem_of_mem_drop hc)
theorem pl_one {c : Nat} (h : c < 128) : Pl [c] := fun d hd => by rw [List.mem_singleton.mp hd]; exact h
theorem pl_rep {m : Nat} : Pl (List.replicate m [48]).flatten := fun c hc => by
  obtain ⟨l, hl, hc⟩ := List.mem_flatten.mp hc
  rw [(List.mem_replicate.mp hl).2, List.mem_singleton] at hc
  subst hc; decide
abbrev signs : List Nat := [32, 33, 34, 35, 36, 38, 39, 40, 41, 42, 43, 44, 45, 46, 47, 48, 49, 50, 51, 52, 53, 54, 55, 56, 57, 58, 59, 60, 61, 62, 63, 64, 65, 66, 67, 68, 69, 70, 71, 72, 73, 74, 75, 76, 77,
    78, 79, 80, 81, 82, 83, 84, 85, 86, 87, 88, 89, 90, 91, 92, 93, 94, 95, 96, 97, 98, 99, 100, 101, 102, 103, 104, 105, 106, 107, 108, 109, 110, 111, 112, 113, 114, 115, 116, 117, 118, 119, 120, 121,
    122, 123, 124, 125, 126, 10]
theorem signs_lt : ∀ c ∈ signs, c < 128 := by decide
section
variable {n k : Nat} {s : PS} {ns : List Int} {t g a b : Int}
theorem b8 {i : Int} (h : 0 ≤ i) (h2 : i < 1000000) : Bd 8000 i := (bd_of (k := 64) h (by omega)).mono (by decide)
/-- behind the sign, the place and the way -/
theorem bent_ok (h : Pe k s ns t g) (ht : t < 9900) (ha : Bd 200 a) (hb : Bd 200 b) : ∃ x t' g', Rdb x ∧ (t ≤ t' ∧ t' ≤ t + 6) ∧ Pe k s ns t' g' ∧
    callN tab (n + 4) 18 [.ref k, .v (.tup [.int a, .int b])] (s.set k (pn (ns.map .int) t g)) = .ok (.v x) (s.set k (pn (ns.map .int) t' g')) := by
  have A : Bd 1900 a := ha.mono (by decide)
  have B' : Bd 1900 b := hb.mono (by decide)
  have hw := rtx_len A B'
  have hp := rtx_pl (a := a) (b := b)
  have htx : ∀ s', callN tab (n + 3) 13 [.v (.tup [.int a, .int b])] s' = .ok (.v (.str (rtx a b))) s' := fun s' => text_ok A B'
  generalize rtx a b = w at *
  -- the sign
  obtain ⟨r1, t1, g1, hr1, ht1, hp1, e1⟩ := draw (n := n + 2) h (by omega) (m := 2) (by decide) (b8 (by decide) (by decide))
  obtain ⟨c, t2, g2, hc, ht2, hp2, e2⟩ : ∃ c t2 g2, c < 128 ∧ (t1 ≤ t2 ∧ t2 ≤ t1 + 1) ∧ Pe k s ns t2 g2 ∧
      (if r1 = 0 then callN tab (n + 3) 9 [.ref k, .v (.str signs)] (s.set k (pn (ns.map .int) t1 g1)) else callN tab (n + 3) 9 [.ref k, .v (.str [48, 47, 45, 43, 32, 49, 57])] (s.set k (pn (ns.map .int) t1 g1))) = .ok (.v (.str [c])) (s.set k (pn (ns.map .int) t2 g2)) := by
    by_cases z : r1 = 0
    · obtain ⟨c, t2, g2, hc, q⟩ := pickS (n := n + 1) hp1 (by omega) (w := signs) (by decide) (by decide)
      refine ⟨c, t2, g2, signs_lt c hc, q.1, q.2.1, ?_⟩
      rw [if_pos z]; exact q.2.2
    · obtain ⟨c, t2, g2, hc, q⟩ := pickS (n := n + 1) hp1 (by omega) (w := [48, 47, 45, 43, 32, 49, 57]) (by decide) (by decide)
      refine ⟨c, t2, g2, by simp at hc; omega, q.1, q.2.1, ?_⟩
      rw [if_neg z]; exact q.2.2
  have hq : Pl [c] := pl_one hc
  obtain ⟨r3, t3, g3, hr3, ht3, hp3, e3⟩ := draw (n := n + 2) hp2 (by omega) (m := (w.length : Int) + 1) (by omega) (b8 (by omega) (by omega))
  obtain ⟨r4, t4, g4, hr4, ht4, hp4, e4⟩ := draw (n := n + 2) hp3 (by omega) (m := 9) (by decide) (b8 (by decide) (by decide))
  obtain ⟨m, rfl⟩ : ∃ m : Nat, r3 = m := ⟨r3.toNat, by omega⟩
  have l1 : (w.take m).length ≤ 1203 := by simp; omega
  have l2 : (w.drop m).length ≤ 1203 := by simp; omega
  have l3 : (w.drop (m + 1)).length ≤ 1203 := by simp; omega
  have em : ((m : Int) + 1) = ((m + 1 : Nat) : Int) := by omega
  have cat : ∀ (x y : List Nat) (s' : PS), x.length ≤ 40000 → y.length ≤ 40000 → bin2 tab (callN tab (n + 3)) .add (.v (.str x)) (.v (.str y)) s' = .ok (.v (.str (x ++ y))) s' := fun x y s' h1 h2 => bin_cat (by unfold lim; omega)
  -- the whole, up to the way
  have start : ∀ (r : Res SV), fin false s.length (exSs tab (callN tab (n + 3)) s.length (d_l_bent.body.drop 5) [some (.ref k), some (.v (.tup [.int a, .int b])), some (.v (.str w)), some (.v (.str signs)), some (.v (.str [c])), some (.v (.int m)), some (.v (.int r4)), none] (s.set k (pn (ns.map .int) t4 g4))) = r →
      callN tab (n + 4) 18 [.ref k, .v (.tup [.int a, .int b])] (s.set k (pn (ns.map .int) t g)) = r := by
    rintro r rfl
    rw [call_run a_l_bent rfl]
    by_cases z : r1 = 0
    · rw [if_pos z] at e2
      simp [d_l_bent, htx, e1, cmp_eq, eqD_int, z, e2, e3, e4]
    · rw [if_neg z] at e2
      simp [d_l_bent, htx, e1, cmp_eq, eqD_int, z, e2, e3, e4]
  have hway : r4 = 0 ∨ r4 = 1 ∨ r4 = 2 ∨ r4 = 3 ∨ r4 = 4 ∨ r4 = 5 ∨ r4 = 6 ∨ r4 = 7 ∨ r4 = 8 := by omega
  have ct : Vm.cut w none (some (m : Int)) = w.take m := cut_take w m
  have cd : Vm.cut w (some (m : Int)) none = w.drop m := cut_drop w m
  have cd1 : Vm.cut w (some ((m : Int) + 1)) none = w.drop (m + 1) := by rw [em]; exact cut_drop w (m + 1)
  have lq : [c].length ≤ 40000 := by simp
  have p1 : Pl (w.take m) := pl_take hp
  have p2 : Pl (w.drop m) := pl_drop hp
  have p3 : Pl (w.drop (m + 1)) := pl_drop hp
  have base : (t ≤ t4 ∧ t4 ≤ t + 6) := ⟨by omega, by omega⟩
  -- ways 0, 1, 2
  have way0 : r4 < 3 → ∃ x t' g', Rdb x ∧ (t ≤ t' ∧ t' ≤ t + 6) ∧ Pe k s ns t' g' ∧ callN tab (n + 4) 18 [.ref k, .v (.tup [.int a, .int b])] (s.set k (pn (ns.map .int) t g)) = .ok (.v x) (s.set k (pn (ns.map .int) t' g')) := fun z => by
    refine ⟨.str (w.take m ++ [c] ++ w.drop m), t4, g4, rdb_str (pl_app (pl_app p1 hq) p2) (by simp at *; omega), base, hp4, start _ ?_⟩
    have c1 := fun s' => cat (w.take m) [c] s' (by omega) lq
    have c2 := fun s' => cat (w.take m ++ [c]) (w.drop m) s' (by simp at *; omega) (by omega)
    simp [d_l_bent, z, ct, cd, c1]
    simp at c2
    simp [c2]
  rcases hway with rfl | rfl | rfl | rfl | rfl | rfl | rfl | rfl | rfl
  · exact way0 (by decide)
  · exact way0 (by decide)
  · exact way0 (by decide)
  · refine ⟨.str (w.take m ++ w.drop (m + 1)), t4, g4, rdb_str (pl_app p1 p3) (by simp at *; omega), base, hp4, start _ ?_⟩
    have c1 := fun s' => cat (w.take m) (w.drop (m + 1)) s' (by omega) (by omega)
    simp [d_l_bent, ct, cd1, c1, cmp_eq, eqD_int]
  · refine ⟨.str (w.take m ++ [c] ++ w.drop (m + 1)), t4, g4, rdb_str (pl_app (pl_app p1 hq) p3) (by simp at *; omega), base, hp4, start _ ?_⟩
    have c1 := fun s' => cat (w.take m) [c] s' (by omega) lq
    have c2 := fun s' => cat (w.take m ++ [c]) (w.drop (m + 1)) s' (by simp at *; omega) (by omega)
    simp [d_l_bent, ct, cd1, c1, cmp_eq, eqD_int]
    simp at c2
    simp [c2]
  · obtain ⟨r5, t5, g5, hr5, ht5, hp5, e5⟩ := draw (n := n + 2) hp4 (by omega) (m := 4) (by decide) (b8 (by decide) (by decide))
    have h3 : Bd 4 (1 + r5) := bd_of (by omega) (by omega)
    have x1 : Bd 1900 (a * (1 + r5)) := (ha.mul h3).mono (by decide)
    have x2 : Bd 1900 (b * (1 + r5)) := (hb.mul h3).mono (by decide)
    have y1 := x1.text
    have y2 := x2.text
    have c1 := fun s' => cat (intText (a * (1 + r5))) [47] s' (by omega) (by simp)
    have c2 := fun s' => cat (intText (a * (1 + r5)) ++ [47]) (intText (b * (1 + r5))) s' (by simp; omega) (by omega)
    simp at c2
    refine ⟨.str (intText (a * (1 + r5)) ++ 47 :: intText (b * (1 + r5))), t5, g5, rdb_str (pl_app (intText_pl _) (pl_app (pl_one (c := 47) (by decide)) (intText_pl _))) (by simp; omega), ⟨by omega, by omega⟩, hp5, start _ ?_⟩
    simp [d_l_bent, cmp_eq, eqD_int, e5, bin_mulB, ha.mono (show 200 ≤ 2000 by decide), hb.mono (show 200 ≤ 2000 by decide), h3.mono (show 4 ≤ 2000 by decide), strB x1, strB x2, c1, c2]
  · have c1 := fun s' => cat [47] w s' (by simp) (by omega)
    have c2 := fun s' => cat [32] w s' (by simp) (by omega)
    simp at c1 c2
    obtain ⟨y, t5, g5, hy, ht5, hp5, e5⟩ := pick (n := n + 1) hp4 (by omega) (xs := [.str [32], .str [32, 49], .str (47 :: w), .str (32 :: w)]) (by simp) (by simp)
    obtain ⟨v, rfl, hv, hvl⟩ : ∃ v, y = .str v ∧ Pl v ∧ v.length ≤ 1300 := by
      simp at hy
      rcases hy with rfl | rfl | rfl | rfl
      · exact ⟨_, rfl, by decide, by simp⟩
      · exact ⟨_, rfl, by decide, by simp⟩
      · exact ⟨_, rfl, pl_app (x := [47]) (pl_one (by decide)) hp, by simp; omega⟩
      · exact ⟨_, rfl, pl_app (x := [32]) (pl_one (by decide)) hp, by simp; omega⟩
    have c3 := fun s' => cat w v s' (by omega) (by omega)
    refine ⟨.str (w ++ v), t5, g5, rdb_str (pl_app hp hv) (by simp; omega), ⟨by omega, by omega⟩, hp5, start _ ?_⟩
    simp [d_l_bent, cmp_eq, eqD_int, c1, c2, e5, c3]
  · obtain ⟨y, t5, g5, hy, ht5, hp5, e5⟩ := pick (n := n + 1) hp4 (by omega) (xs := [.str [49], .str [45, 49], .str [49, 47, 49]]) (by simp) (by simp)
    obtain ⟨v, rfl, hv, hvl⟩ : ∃ v, y = .str v ∧ Pl v ∧ v.length ≤ 3 := by
      simp at hy
      rcases hy with rfl | rfl | rfl
      · exact ⟨_, rfl, by decide, by simp⟩
      · exact ⟨_, rfl, by decide, by simp⟩
      · exact ⟨_, rfl, by decide, by simp⟩
    obtain ⟨y2, t6, g6, hy2, ht6, hp6, e6⟩ := pick (n := n + 1) hp5 (by omega) (xs := [.int 58, .int 59, .int 60, .int 61, .int 70]) (by simp) (by simp)
    obtain ⟨q, rfl, hq2⟩ : ∃ q : Nat, y2 = .int q ∧ q ≤ 70 := by
      simp at hy2
      rcases hy2 with rfl | rfl | rfl | rfl | rfl
      · exact ⟨58, rfl, by decide⟩
      · exact ⟨59, rfl, by decide⟩
      · exact ⟨60, rfl, by decide⟩
      · exact ⟨61, rfl, by decide⟩
      · exact ⟨70, rfl, by decide⟩
    have hrep : ∀ s' : PS, bin2 tab (callN tab (n + 3)) .mul (.v (.str [48])) (.v (.int (q : Int))) s' = .ok (.v (.str (List.replicate q [48]).flatten)) s' := fun s' => by
      have := bin_rep (T := tab) (C := callN tab (n + 3)) (s := s') (x := [48]) (i := (q : Int)) (by omega) (by omega) (by simp; omega)
      rw [Int.toNat_natCast] at this
      exact this
    have hrl : ((List.replicate q [48]).flatten).length ≤ 70 := by rw [flat_len]; simp; omega
    have c3 := fun s' => cat v (List.replicate q [48]).flatten s' (by omega) (by omega)
    have hpr : Pl (List.replicate q [48]).flatten := pl_rep
    generalize (List.replicate q [48]).flatten = z at hrep hrl c3 hpr
    refine ⟨.str (v ++ z), t6, g6, rdb_str (pl_app hv hpr) (by simp; omega), ⟨by omega, by omega⟩, hp6, start _ ?_⟩
    simp [d_l_bent, cmp_eq, eqD_int, e5, e6, hrep, c3]
  · obtain ⟨y, t5, g5, hy, ht5, hp5, e5⟩ := pick (n := n + 1) hp4 (by omega) (xs := [.non, .int 5, .bl true, .tup [.str [49]], .lst [.str [49]], .tup [.int a, .int b], .str []]) (by simp) (by simp)
    refine ⟨y, t5, g5, ?_, ⟨by omega, by omega⟩, hp5, start _ ?_⟩
    · simp at hy
      rcases hy with rfl | rfl | rfl | rfl | rfl | rfl | rfl
      · exact .inr ⟨trivial, fun _ => by simp⟩
      · exact .inr ⟨trivial, fun _ => by simp⟩
      · exact .inr ⟨trivial, fun _ => by simp⟩
      · exact .inr ⟨trivial, fun _ => by simp⟩
      · exact .inr ⟨trivial, fun _ => by simp⟩
      · exact .inr ⟨trivial, fun _ => by simp⟩
      · exact rdb_str (by decide) (by simp)
    · simp [d_l_bent, cmp_eq, eqD_int, e5]
end
end K01
set_option Elab.async false
set_option linter.all false
set_option maxRecDepth 100000
set_option maxHeartbeats 4000000
set_option exponentiation.threshold 20000
namespace K01
open Vm Vm.Q PySem
/-- a made ratio beside its pair -/
abbrev En (p : Int × Int) : PV := .tup [rat p.1 p.2, .tup [.int p.1, .int p.2]]
structure Gd (p : Int × Int) : Prop where
  nm : Nm p.1 p.2
  t : p.1.natAbs < 10 ^ 60
  b : p.2.natAbs < 10 ^ 60
theorem Gd.t2 {p : Int × Int} (h : Gd p) : Bd 200 p.1 := lt60 h.t
theorem Gd.b2 {p : Int × Int} (h : Gd p) : Bd 200 p.2 := lt60 h.b
theorem nr_le {a b : Int} (h : b ≠ 0) : (nr a b).1.natAbs ≤ a.natAbs ∧ (nr a b).2.natAbs ≤ b.natAbs := by
  obtain ⟨e1, e2⟩ := nr_eq (a := a) h
  have hg : 0 < (gc a b).natAbs := by have := gc_ne (a := a) h; omega
  have q1 : a.natAbs = (nr a b).1.natAbs * (gc a b).natAbs := by rw [← Int.natAbs_mul, ← e1]
  have q2 : b.natAbs = (nr a b).2.natAbs * (gc a b).natAbs := by rw [← Int.natAbs_mul, ← e2]
  exact ⟨by rw [q1]; exact Nat.le_mul_of_pos_right _ hg, by rw [q2]; exact Nat.le_mul_of_pos_right _ hg⟩
theorem gd_nr {a b : Int} (h : b ≠ 0) (ha : a.natAbs < 10 ^ 60) (hb : b.natAbs < 10 ^ 60) : Gd (nr a b) :=
  ⟨nr_nm h, Nat.lt_of_le_of_lt (nr_le h).1 ha, Nat.lt_of_le_of_lt (nr_le h).2 hb⟩
def turnB : List S := match d_law.body.drop 2 with
  | .loop _ _ b :: _ => b
  | _ => []
section
variable {n : Nat} {ns : List Int} {t g : Int} {zs : List SV}
/-- the store while the ratios are made -/
abbrev st2 (ns : List Int) (t g : Int) (zs : List SV) : PS := [pn (ns.map .int) t g, .lst zs]
theorem pe2 (hl : ns.length ≤ 1000) (ht : 0 ≤ t) (hg : 0 ≤ g) : Pe 0 [.lst [], .lst zs] ns t g := ⟨by simp, hl, ht, hg⟩
theorem turn_ok (hl : ns.length ≤ 1000) (ht : 0 ≤ t) (hg : 0 ≤ g) (ht2 : t < 9000) (hz : zs.length ≤ 100) (x0 : Option SV) (o3 o4 o5 o6 o7 o8 o9 o10 o11 o12 o13 o14 o15 o16 o17 o18 : Option SV) :
    ∃ (p : Int × Int) (v b t' g' : Int), Gd p ∧ (t ≤ t' ∧ t' ≤ t + 40) ∧ 0 ≤ g' ∧
      exSs tab (callN tab (n + 7)) 0 turnB [x0, some (.ref 0), some (.ref 1), o3, o4, o5, o6, o7, o8, o9, o10, o11, o12, o13, o14, o15, o16, o17, o18] (st2 ns t g zs) =
        .go .nx [x0, some (.ref 0), some (.ref 1), o3, o4, o5, o6, o7, o8, o9, o10, o11, some (.v (.int b)), o13, o14, o15, some (.v (.tup [.int p.1, .int p.2])), some (.v (.int v)), some (.v (rat p.1 p.2))] (st2 ns t' g' (zs ++ [.v (En p)])) := by
  obtain ⟨v, t1, g1, hv, ht1, hp1, e1⟩ := number_ok (n := n + 4) (pe2 (zs := zs) hl ht hg) (by omega)
  obtain ⟨c, t2, g2, hc, ht2', hp2, e2⟩ := number_ok (n := n + 4) hp1 (by omega)
  obtain ⟨r, t3, g3, hr, ht3, hp3, e3⟩ := draw (n := n + 6) hp2 (by omega) (m := 9) (by decide) (b8 (by decide) (by decide))
  replace e1 : callN tab (n + 7) 10 [.ref 0] (st2 ns t g zs) = .ok (.v (.int v)) (st2 ns t1 g1 zs) := e1
  replace e2 : callN tab (n + 7) 10 [.ref 0] (st2 ns t1 g1 zs) = .ok (.v (.int c)) (st2 ns t2 g2 zs) := e2
  replace e3 : callN tab (n + 7) 8 [.ref 0, .v (.int 9)] (st2 ns t2 g2 zs) = .ok (.v (.int r)) (st2 ns t3 g3 zs) := e3
  -- the bottom
  obtain ⟨b, t4, g4, hb0, hb, ht4, hp4, e4⟩ : ∃ b t4 g4, b ≠ 0 ∧ b.natAbs < 10 ^ 60 ∧ (t2 ≤ t4 ∧ t4 ≤ t2 + 1) ∧ Pe 0 [.lst [], .lst zs] ns t4 g4 ∧
      (c = 0 ∧ b = 1 + r ∧ t4 = t3 ∧ g4 = g3 ∨ c ≠ 0 ∧ b = c ∧ t4 = t2 ∧ g4 = g2) := by
    by_cases z : c = 0
    · exact ⟨1 + r, t3, g3, by omega, by omega, ht3, hp3, .inl ⟨z, rfl, rfl, rfl⟩⟩
    · exact ⟨c, t2, g2, z, hc, ⟨by omega, by omega⟩, hp2, .inr ⟨z, rfl, rfl, rfl⟩⟩
  have hgd := gd_nr (a := v) hb0 hv hb
  generalize hp : nr v b = p at hgd
  obtain ⟨p1, p2⟩ := p
  have e5 : ∀ s' : PS, callN tab (n + 7) 12 [.v (.int v), .v (.int b)] s' = .ok (.v (.tup [.int p1, .int p2])) s' := fun s' => by
    have := low_ok (n := n + 5) (s := s') (a := v) hb0 (Nat.lt_of_lt_of_le hb (by decide +kernel))
    rw [hp] at this
    exact this
  have e6 : ∀ s' : PS, make tab (callN tab (n + 7)) 4 [.v (.int v), .v (.int b)] s' = .ok (.v (rat p1 p2)) s' := fun s' => by
    have := new_ok (n := n + 5) (s := s') (a := v) hb0 ((lt60 hb).mono (by decide))
    rw [hp] at this
    exact this
  have A : Bd 1900 p1 := hgd.t2.mono (by decide)
  have B' : Bd 1900 p2 := hgd.b2.mono (by decide)
  have hnm : Nm p1 p2 := hgd.nm
  have e7 : ∀ s' : PS, callN tab (n + 7) 14 [.v (rat p1 p2), .v (.tup [.int p1, .int p2])] s' = .ok (.v (.bl true)) s' := fun s' => is_ok (n := n + 4) A B'
  have e8 : ∀ s' : PS, makeF tab (callN tab (n + 7)) 4 [.v (.int p1), .v (.int p2)] s' = .ok (.v (rat p1 p2)) s' := fun s' => by
    have := newK_ok (n := n + 5) (s := s') (a := p1) (b := p2) (by have := hnm.1; omega) (hgd.b2.mono (by decide))
    rw [nr_self hnm] at this
    exact this
  have e9 : ∀ s' : PS, cmp2 tab (callN tab (n + 7)) .eq (.v (rat p1 p2)) (.v (rat p1 p2)) s' = .ok true s' := fun s' => by
    have := eq_ask (n := n + 5) (s := s') (.rat p1 p2) hnm hnm
    rw [decide_eq_true (by omega)] at this
    exact this
  have e10 : ∀ s' : PS, make tab (callN tab (n + 7)) 4 [.v (.int v)] s' = .ok (.v (rat v 1)) s' := fun s' => new1_ok (n := n + 5)
  have e11 : ∀ s' : PS, callN tab (n + 7) 14 [.v (rat v 1), .v (.tup [.int v, .int 1])] s' = .ok (.v (.bl true)) s' := fun s' => is60 (n := n + 4) hv (by decide)
  have e12 : ∀ s' : PS, callN tab (n + 7) 34 [.v (rat p1 p2)] s' = .ok (.v (rat (-p1) p2)) s' := fun s' => neg_ok (n := n + 4) hnm (hgd.b2.mono (by decide))
  have e13 : ∀ s' : PS, callN tab (n + 7) 14 [.v (rat (-p1) p2), .v (.tup [.int (-p1), .int p2])] s' = .ok (.v (.bl true)) s' := fun s' => is_ok (n := n + 4) A.neg B'
  have e14 : ∀ s' : PS, callN tab (n + 7) 35 [.v (rat p1 p2)] s' = .ok (.v (rat (if p1 < 0 then -p1 else p1) p2)) s' := fun s' => abs_ok (n := n + 4) hnm (hgd.b2.mono (by decide))
  have e15 : ∀ s' : PS, callN tab (n + 7) 14 [.v (rat (if p1 < 0 then -p1 else p1) p2), .v (.tup [.int (if p1 < 0 then -p1 else p1), .int p2])] s' = .ok (.v (.bl true)) s' := fun s' => is_ok (n := n + 4) (bd_abs A) B'
  have e16 : ∀ s' : PS, callN tab (n + 7) 27 [.v (rat p1 p2)] s' = .ok (.v (rat p1 p2)) s' := fun s' => of_val (n := n + 3) (.rat p1 p2)
  have e17 : ∀ s' : PS, callN tab (n + 7) 27 [.v (.int v)] s' = .ok (.v (rat v 1)) s' := fun s' => of_val (n := n + 3) (.int v)
  have e18 : ∀ s' : PS, callN tab (n + 7) 13 [.v (.tup [.int p1, .int p2])] s' = .ok (.v (.str (rtx p1 p2))) s' := fun s' => text_ok (n := n + 6) A B'
  have e19 : ∀ s' : PS, callN tab (n + 7) 17 [.v (.str (rtx p1 p2))] s' = .ok (.v (.bl true)) s' := fun s' => readright_str (n := n + 1) ⟨rtx_pl, by have := rtx_len A B'; omega⟩
  obtain ⟨y, t5, g5, hy, ht5, hp5, e20⟩ := bent_ok (n := n + 3) hp4 (by omega) hgd.t2 hgd.b2
  replace e20 : callN tab (n + 7) 18 [.ref 0, .v (.tup [.int p1, .int p2])] (st2 ns t4 g4 zs) = .ok (.v y) (st2 ns t5 g5 zs) := e20
  have e21 : ∀ s' : PS, callN tab (n + 7) 17 [.v y] s' = .ok (.v (.bl true)) s' := fun s' => by
    rcases hy with ⟨w, rfl, hw⟩ | ⟨h1, h2⟩
    · exact readright_str (n := n + 1) hw
    · exact readright_no (n := n + 1) h1 h2
  have e22 : bmOk .append (.ref 1) (st2 ns t5 g5 zs) = true := bmOk_app (zs := zs) rfl
  have e23 : bm2 .append true (.ref 1) [.v (En (p1, p2))] (st2 ns t5 g5 zs) = .ok (.v .non) (st2 ns t5 g5 (zs ++ [.v (En (p1, p2))])) := bm_app (zs := zs) rfl (by unfold lim; omega)
  refine ⟨(p1, p2), v, b, t5, g5, hgd, ⟨by omega, by omega⟩, hp5.g0, ?_⟩
  generalize hr1 : rtx p1 p2 = w at *
  generalize hab : (if p1 < 0 then -p1 else p1) = q at *
  rcases e4 with ⟨z, z2, z3, z4⟩ | ⟨z, z2, z3, z4⟩
  · have zc : decide (c = 0) = true := decide_eq_true z
    subst z2; subst z3; subst z4
    simp [turnB, d_law, e1, e2, e3, e5, e6, e7, e8, e9, e10, e11, e12, e13, e14, e15, e16, e17, e18, e19, e20, e21, e22, e23, cmp_ne, eqD_int, zc, hab, Vm.putAt]
  · have zc : decide (c = 0) = false := decide_eq_false z
    subst z2; subst z3; subst z4
    simp [turnB, d_law, e1, e2, e3, e5, e6, e7, e8, e9, e10, e11, e12, e13, e14, e15, e16, e17, e18, e19, e20, e21, e22, e23, cmp_ne, eqD_int, zc, hab, Vm.putAt]
end
end K01
set_option Elab.async false
set_option linter.all false
set_option maxRecDepth 100000
set_option maxHeartbeats 8000000
set_option exponentiation.threshold 20000
namespace K01
open Vm Vm.Q PySem
/-- a value beside its pair -/
abbrev Ev (x : PV) (p : Int × Int) : PV := .tup [x, .tup [.int p.1, .int p.2]]
def pd : List (Int × Int) → Nat
  | [] => 1
  | p :: r => p.2.natAbs * pd r
/-- all is small enough -/
structure SmOk (k : Nat) (t : Int × Int) (ps : List (Int × Int)) : Prop where
  t0 : t.2 ≠ 0
  n0 : ∀ p ∈ ps, p.2 ≠ 0
  b1 : Bd k t.1
  b2 : Bd k t.2
  bp : ∀ p ∈ ps, Bd 200 p.1 ∧ Bd 200 p.2
  pr : t.2.natAbs * pd ps < 2 ^ 599
  few : k + 201 * ps.length ≤ 1800
theorem pd_pos : ∀ {ps : List (Int × Int)}, (∀ p ∈ ps, p.2 ≠ 0) → 0 < pd ps
  | [], _ => by simp [pd]
  | p :: r, h => by
    have h1 := h p List.mem_cons_self
    have h2 := pd_pos fun q hq => h q (List.mem_cons_of_mem _ hq)
    exact Nat.mul_pos (by omega) h2
theorem SmOk.step {k : Nat} {t p : Int × Int} {ps : List (Int × Int)} (h : SmOk k t (p :: ps)) : SmOk (k + 201) (addN t p) ps ∧ (t.2 * p.2).natAbs < 2 ^ 599 := by
  have hp0 := h.n0 p List.mem_cons_self
  have hpb := h.bp p List.mem_cons_self
  have hm := Int.mul_ne_zero h.t0 hp0
  have hpp := pd_pos fun q hq => h.n0 q (List.mem_cons_of_mem _ hq)
  have hpr := h.pr
  rw [pd] at hpr
  have e : t.2.natAbs * (p.2.natAbs * pd ps) = (t.2 * p.2).natAbs * pd ps := by rw [Int.natAbs_mul, Nat.mul_assoc]
  rw [e] at hpr
  have hle := nr_le (a := t.1 * p.2 + p.1 * t.2) hm
  refine ⟨⟨?_, fun q hq => h.n0 q (List.mem_cons_of_mem _ hq), ?_, ?_, fun q hq => h.bp q (List.mem_cons_of_mem _ hq), ?_, ?_⟩, ?_⟩
  · exact Int.ne_of_gt (nr_nm (a := t.1 * p.2 + p.1 * t.2) hm).1
  · exact nr_bd1 hm (((h.b1.mul hpb.2).add ((hpb.1.mul h.b2).mono (by omega))).mono (by omega))
  · exact nr_bd2 hm ((h.b2.mul hpb.2).mono (by omega))
  · exact Nat.lt_of_le_of_lt (Nat.mul_le_mul_right _ hle.2) hpr
  · have := h.few
    rw [List.length_cons] at this
    omega
  · exact Nat.lt_of_le_of_lt (Nat.le_mul_of_pos_right _ hpp) hpr
theorem SmOk.sum : ∀ {ps : List (Int × Int)} {k : Nat} {t : Int × Int}, SmOk k t ps → SumOk t ps
  | [], _, _, _ => trivial
  | p :: ps, k, t, h => by
    have hf := h.few
    have hpb := h.bp p List.mem_cons_self
    exact ⟨h.t0, h.n0 p List.mem_cons_self, h.b1.mono (by omega), h.b2.mono (by omega), hpb.1.mono (by decide), hpb.2.mono (by decide), h.step.1.sum⟩
theorem SmOk.last : ∀ {ps : List (Int × Int)} {k : Nat} {t : Int × Int}, SmOk k t ps → Bd 1900 (ps.foldl addN t).1 ∧ Bd 1900 (ps.foldl addN t).2
  | [], k, t, h => ⟨h.b1.mono (by have := h.few; omega), h.b2.mono (by have := h.few; omega)⟩
  | p :: ps, k, t, h => h.step.1.last
/-- values beside their pairs -/
inductive Evs : List PV → List PV → List (Int × Int) → Prop
  | nil : Evs [] [] []
  | cons {x : PV} {p : Int × Int} {es xs : List PV} {ps : List (Int × Int)} (h : Val x p.1 p.2) (r : Evs es xs ps) : Evs (Ev x p :: es) (x :: xs) (p :: ps)
theorem Evs.vals {es xs : List PV} {ps : List (Int × Int)} (h : Evs es xs ps) : Vals' xs ps := by
  induction h with
  | nil => trivial
  | cons h _ ih => exact ⟨h, ih⟩
theorem Evs.len {es xs : List PV} {ps : List (Int × Int)} (h : Evs es xs ps) : es.length = ps.length ∧ xs.length = ps.length := by
  induction h with
  | nil => exact ⟨rfl, rfl⟩
  | cons h _ ih => simp [ih]
section
variable {n n0 : Nat} {s : PS}
/-- the law's own sum -/
theorem total_loop {body : List S} (hb : body = [(.set 6 (.call 12 [(.op .add (.op .mul (.idx (.var 6) (.cst (.int 0))) (.idx (.var 16) (.cst (.int 1)))) (.op .mul (.idx (.var 16) (.cst (.int 0))) (.idx (.var 6) (.cst (.int 1))))),
    (.op .mul (.idx (.var 6) (.cst (.int 1))) (.idx (.var 16) (.cst (.int 1))))]))]) {x0 x1 x2 x3 x4 x5 x7 x8 x9 x10 x11 x12 x13 x14 x17 x18 : Option SV} :
    ∀ {es xs : List PV} {ps : List (Int × Int)} {k : Nat} {t : Int × Int} {o15 o16 : Option SV}, Evs es xs ps → SmOk k t ps →
    ∃ q15 q16, forL (.many [15, 16]) (kBody tab (callN tab (n + 2)) n0 body) es [x0, x1, x2, x3, x4, x5, some (.v (.tup [.int t.1, .int t.2])), x7, x8, x9, x10, x11, x12, x13, x14, o15, o16, x17, x18] s =
      .go .nx [x0, x1, x2, x3, x4, x5, some (.v (.tup [.int (ps.foldl addN t).1, .int (ps.foldl addN t).2])), x7, x8, x9, x10, x11, x12, x13, x14, q15, q16, x17, x18] s
  | [], [], [], k, t, o15, o16, _, _ => ⟨o15, o16, rfl⟩
  | _ :: _, _ :: _, p :: ps, k, t, o15, o16, .cons h r, hs => by
    obtain ⟨hs', hn⟩ := hs.step
    obtain ⟨q15, q16, e⟩ := total_loop hb (k := k + 201) (t := addN t p) (o15 := some (.v _)) (o16 := some (.v (.tup [.int p.1, .int p.2]))) r hs'
    refine ⟨q15, q16, ?_⟩
    have hf := hs.few
    have hpb := hs.bp p List.mem_cons_self
    have l := low_ok (n := n) (s := s) (a := t.1 * p.2 + p.1 * t.2) (Int.mul_ne_zero hs.t0 (hs.n0 p List.mem_cons_self)) hn
    subst hb
    unfold forL
    simp [asg, bin_mulB, hs.b1.mono (show k ≤ 2000 by omega), hs.b2.mono (show k ≤ 2000 by omega), hpb.1.mono (show 200 ≤ 2000 by decide), hpb.2.mono (show 200 ≤ 2000 by decide), l]
    exact e
/-- the values alone -/
theorem listed_lc {C : Calls} {it : E} {σ : Sl} {es xs : List PV} {ps : List (Int × Int)} (h : Evs es xs ps) (hl : es.length ≤ 1000) (hi : evE tab C it σ s = .ok (.v (.lst es)) s) (hσ : σ.length = 19) :
    evE tab C (.lc true (.many [15, 16]) it [] (.var 15)) σ s = .ok (.v (.lst xs)) s := by
  have key : ∀ x ∈ es, ∃ y p, x = Ev y p := by
    intro x hx
    clear hl hi
    induction h with
    | nil => cases hx
    | cons h r ih =>
      rcases List.mem_cons.mp hx with rfl | hx
      · exact ⟨_, _, rfl⟩
      · exact ih hx
  have := lc_pure (T := tab) (C := C) (σ := σ) (s := s) (s1 := s) (t := .many [15, 16]) (it := it) (cs := []) (e := .var 15) (v := .v (.lst es)) (xs := es)
    (p := fun _ => true) (f := fun x => match x with
      | .tup (y :: _) => y
      | _ => .non) hi rfl (by simp; omega) (fun x hx => by
      obtain ⟨y, p, rfl⟩ := key x hx
      exact ⟨(σ.set 15 (some (.v y))).set 16 (some (.v (.tup [.int p.1, .int p.2]))), rfl, fun u => ⟨by simp, fun _ => by simp [hσ]⟩⟩)
  rw [this, List.filter_eq_self.mpr (fun _ _ => rfl)]
  congr 3
  clear this key hi hl
  induction h with
  | nil => rfl
  | cons h r ih => rw [List.map_cons, ih]
end
end K01
set_option Elab.async false
set_option linter.all false
set_option maxRecDepth 100000
set_option maxHeartbeats 16000000
set_option exponentiation.threshold 20000
namespace K01
open Vm Vm.Q PySem
theorem Evs.take {es xs : List PV} {ps : List (Int × Int)} (h : Evs es xs ps) : ∀ m, Evs (es.take m) (xs.take m) (ps.take m) := by
  induction h with
  | nil => intro m; simp; exact .nil
  | cons h r ih =>
    intro m
    cases m with
    | zero => exact .nil
    | succ m => exact .cons h (ih m)
theorem pd_take : ∀ {ps : List (Int × Int)} (m : Nat), (∀ p ∈ ps, p.2 ≠ 0) → pd (ps.take m) ≤ pd ps
  | [], m, _ => by simp
  | p :: r, 0, h => by
    have := pd_pos h
    simp only [List.take_zero, pd] at this ⊢
    exact this
  | p :: r, m + 1, h => Nat.mul_le_mul_left _ (pd_take m fun q hq => h q (List.mem_cons_of_mem _ hq))
theorem no_str {w : List Nat} : No (.str w) := ⟨trivial, rfl, fun _ => by simp⟩
abbrev dueL : List (List Nat) := [sOther, sOther, sOther, sOther, sOther, sOther, sValue, sTop, sBottom, sRatios]
theorem eqD_self {u : List Nat} (h : Pl u) : eqD (.str u) (.str u) = some true := by
  have := eqD_str h h
  rw [decide_eq_true rfl] at this
  exact this
section
variable {n : Nat} {s : PS} {a b : Int} {x : PV}
theorem ref_way {r : Int} (h : No x) (hr : 0 ≤ r ∧ r < 10) : ∃ u, dueL[r.toNat]? = some u ∧ Pl u ∧ ∀ s' : PS, callN tab (n + 6) 19 [.v (.int r), .v (rat a b), .v x] s' = .ok (.v (.str u)) s' := by
  have : r = 0 ∨ r = 1 ∨ r = 2 ∨ r = 3 ∨ r = 4 ∨ r = 5 ∨ r = 6 ∨ r = 7 ∨ r = 8 ∨ r = 9 := by omega
  rcases this with rfl | rfl | rfl | rfl | rfl | rfl | rfl | rfl | rfl | rfl
  · exact ⟨sOther, rfl, by decide, fun _ => ref0 h⟩
  · exact ⟨sOther, rfl, by decide, fun _ => ref1 h⟩
  · exact ⟨sOther, rfl, by decide, fun _ => ref2 h⟩
  · exact ⟨sOther, rfl, by decide, fun _ => ref3 h⟩
  · exact ⟨sOther, rfl, by decide, fun _ => ref4 h⟩
  · exact ⟨sOther, rfl, by decide, fun _ => ref5 h⟩
  · exact ⟨sValue, rfl, by decide, fun _ => ref6 h⟩
  · exact ⟨sTop, rfl, by decide, fun _ => ref7 h⟩
  · exact ⟨sBottom, rfl, by decide, fun _ => ref8 h.1 (.inl h.2.1)⟩
  · exact ⟨sRatios, rfl, by decide, fun _ => ref9 h⟩
theorem eq_no2 (h : No x) : cmp2 tab (callN tab (n + 2)) .eq (.v (rat a b)) (.v x) s = .ok false s := by
  rw [cmp_own (no_okR h)]
  simp [eq_no h]
end
abbrev st1 (ns : List Int) (t g : Int) : PS := [pn (ns.map .int) t g]
theorem pe1 {ns : List Int} {t g : Int} (hl : ns.length ≤ 1000) (ht : 0 ≤ t) (hg : 0 ≤ g) : Pe 0 [.lst []] ns t g := ⟨by simp, hl, ht, hg⟩
theorem rest_ok {n : Nat} {ns : List Int} {t g : Int} {p1 p2 p3 : Int × Int} (hl : ns.length ≤ 1000) (ht : 0 ≤ t) (hg : 0 ≤ g) (ht2 : t < 9000) (h1 : Gd p1) (h2 : Gd p2) (h3 : Gd p3) (x0 o3 o4 o5 o6 o7 o8 o9 o10 o11 o12 o13 o14 o15 o16 o17 o18 : Option SV) :
    fin false 0 (exSs tab (callN tab (n + 7)) 0 (d_law.body.drop 4) [x0, some (.ref 0), some (.v (.lst [En p1, En p2, En p3])), o3, o4, o5, o6, o7, o8, o9, o10, o11, o12, o13, o14, o15, o16, o17, o18] (st1 ns t g)) = .ok (.v (.bl true)) [] := by
  obtain ⟨v, t1, g1, hv, ht1, hp1, e1⟩ := number_ok (n := n + 4) (pe1 hl ht hg) (by omega)
  replace e1 : callN tab (n + 7) 10 [.ref 0] (st1 ns t g) = .ok (.v (.int v)) (st1 ns t1 g1) := e1
  -- one, other
  obtain ⟨y, t2, g2, hy, ht2', hp2, e2⟩ := pick (n := n + 5) hp1 (by omega) (xs := [En p1, En p2, En p3]) (by simp) (by simp)
  replace e2 : callN tab (n + 7) 9 [.ref 0, .v (.lst [En p1, En p2, En p3])] (st1 ns t1 g1) = .ok (.v y) (st1 ns t2 g2) := e2
  obtain ⟨p, rfl, hp⟩ : ∃ p, y = En p ∧ Gd p := by
    simp only [List.mem_cons, List.not_mem_nil, or_false] at hy
    rcases hy with rfl | rfl | rfl
    · exact ⟨p1, rfl, h1⟩
    · exact ⟨p2, rfl, h2⟩
    · exact ⟨p3, rfl, h3⟩
  obtain ⟨z, t3, g3, hz, ht3, hp3, e3⟩ := pick (n := n + 5) hp2 (by omega) (xs := [En p1, En p2, En p3, Ev (.int v) (v, 1)]) (by simp) (by simp)
  replace e3 : callN tab (n + 7) 9 [.ref 0, .v (.lst [En p1, En p2, En p3, Ev (.int v) (v, 1)])] (st1 ns t2 g2) = .ok (.v z) (st1 ns t3 g3) := e3
  have hgv : Gd (v, 1) := ⟨Nm.one, hv, by show (1 : Int).natAbs < 10 ^ 60; decide⟩
  obtain ⟨x, q, rfl, hxv, hq⟩ : ∃ x q, z = Ev x q ∧ Val x q.1 q.2 ∧ Gd q := by
    simp only [List.mem_cons, List.not_mem_nil, or_false] at hz
    rcases hz with rfl | rfl | rfl | rfl
    · exact ⟨_, p1, rfl, .rat _ _, h1⟩
    · exact ⟨_, p2, rfl, .rat _ _, h2⟩
    · exact ⟨_, p3, rfl, .rat _ _, h3⟩
    · exact ⟨_, (v, 1), rfl, .int v, hgv⟩
  have e4 : ∀ s' : PS, callN tab (n + 7) 20 [.v (rat p.1 p.2), .v (.tup [.int p.1, .int p.2]), .v x, .v (.tup [.int q.1, .int q.2])] s' = .ok (.v (.bl true)) s' := fun s' => pairs_ok hxv hp.nm hq.nm hp.t2 hp.b2 hq.t2 hq.b2
  have e5 : ∀ s' : PS, callN tab (n + 7) 20 [.v (rat p.1 p.2), .v (.tup [.int p.1, .int p.2]), .v (.int v), .v (.tup [.int v, .int 1])] s' = .ok (.v (.bl true)) s' := fun s' => pairs_ok (.int v) hp.nm Nm.one hp.t2 hp.b2 hgv.t2 hgv.b2
  have e6 : ∀ s' : PS, callN tab (n + 7) 20 [.v (rat p.1 p.2), .v (.tup [.int p.1, .int p.2]), .v (rat p.1 p.2), .v (.tup [.int p.1, .int p.2])] s' = .ok (.v (.bl true)) s' := fun s' => pairs_ok (.rat _ _) hp.nm hp.nm hp.t2 hp.b2 hp.t2 hp.b2
  -- one times the first
  have hp0 : p.2 ≠ 0 := Int.ne_of_gt hp.nm.1
  have h10 : p1.2 ≠ 0 := Int.ne_of_gt h1.nm.1
  have h20 : p2.2 ≠ 0 := Int.ne_of_gt h2.nm.1
  have h30 : p3.2 ≠ 0 := Int.ne_of_gt h3.nm.1
  have e7 : ∀ s' : PS, callN tab (n + 7) 33 [.v (rat p.1 p.2), .v (rat p1.1 p1.2)] s' = .ok (.v (rat (nr (p.1 * p1.1) (p.2 * p1.2)).1 (nr (p.1 * p1.1) (p.2 * p1.2)).2)) s' := fun s' =>
    mul_ok (n := n + 3) (.rat _ _) hp0 h10 (hp.t2.mono (by decide)) (hp.b2.mono (by decide)) (h1.t2.mono (by decide)) (h1.b2.mono (by decide))
  have b1 : Bd 1900 (nr (p.1 * p1.1) (p.2 * p1.2)).1 := nr_bd1 (ne_mul hp0 h10) ((hp.t2.mul h1.t2).mono (by decide))
  have b2 : Bd 1900 (nr (p.1 * p1.1) (p.2 * p1.2)).2 := nr_bd2 (a := p.1 * p1.1) (ne_mul hp0 h10) ((hp.b2.mul h1.b2).mono (by decide))
  generalize nr (p.1 * p1.1) (p.2 * p1.2) = m1 at *
  have e8 : ∀ s' : PS, callN tab (n + 7) 38 [.v (rat m1.1 m1.2)] s' = .ok (.v (.str (rtx m1.1 m1.2))) s' := fun s' => str_ok (n := n + 6) b1 b2
  have e9 : ∀ s' : PS, callN tab (n + 7) 17 [.v (.str (rtx m1.1 m1.2))] s' = .ok (.v (.bl true)) s' := fun s' => readright_str (n := n + 1) ⟨rtx_pl, by have := rtx_len b1 b2; omega⟩
  generalize rtx m1.1 m1.2 = tx at *
  -- the sum
  obtain ⟨r, t4, g4, hr, ht4, hp4, e10⟩ := draw (n := n + 6) hp3 (by omega) (m := 5) (by decide) (b8 (by decide) (by decide))
  replace e10 : callN tab (n + 7) 8 [.ref 0, .v (.int 5)] (st1 ns t3 g3) = .ok (.v (.int r)) (st1 ns t4 g4) := e10
  obtain ⟨m, rfl⟩ : ∃ m : Nat, r = m := ⟨r.toNat, by omega⟩
  have hev : Evs [En p1, En p2, En p3, Ev (.int v) (v, 1)] [rat p1.1 p1.2, rat p2.1 p2.2, rat p3.1 p3.2, .int v] [p1, p2, p3, (v, 1)] := .cons (.rat _ _) (.cons (.rat _ _) (.cons (.rat _ _) (.cons (.int v) .nil)))
  have hsm : SmOk 1 (0, 1) ([p1, p2, p3, (v, 1)].take m) := by
    have hall : ∀ q ∈ [p1, p2, p3, (v, 1)], q.2 ≠ 0 ∧ Bd 200 q.1 ∧ Bd 200 q.2 := by
      intro q hq
      simp only [List.mem_cons, List.not_mem_nil, or_false] at hq
      rcases hq with rfl | rfl | rfl | rfl
      · exact ⟨h10, h1.t2, h1.b2⟩
      · exact ⟨h20, h2.t2, h2.b2⟩
      · exact ⟨h30, h3.t2, h3.b2⟩
      · exact ⟨by show (1 : Int) ≠ 0; decide, hgv.t2, hgv.b2⟩
    refine ⟨by decide, fun q hq => (hall q (List.mem_of_mem_take hq)).1, by unfold Bd; decide, by unfold Bd; decide, fun q hq => (hall q (List.mem_of_mem_take hq)).2, ?_, ?_⟩
    · have hle := pd_take (ps := [p1, p2, p3, (v, 1)]) m fun q hq => (hall q hq).1
      have e : pd [p1, p2, p3, (v, 1)] = p1.2.natAbs * (p2.2.natAbs * p3.2.natAbs) := by simp [pd]
      have l1 : p2.2.natAbs * p3.2.natAbs < 10 ^ 60 * 10 ^ 60 := Nat.mul_lt_mul'' h2.b h3.b
      have l2 : p1.2.natAbs * (p2.2.natAbs * p3.2.natAbs) < 10 ^ 60 * (10 ^ 60 * 10 ^ 60) := Nat.mul_lt_mul'' h1.b l1
      have l3 : (10 : Nat) ^ 60 * (10 ^ 60 * 10 ^ 60) < 2 ^ 599 := by decide +kernel
      rw [e] at hle
      show 1 * _ < _
      rw [Nat.one_mul]
      exact Nat.lt_of_le_of_lt hle (Nat.lt_trans l2 l3)
    · have : ([p1, p2, p3, (v, 1)].take m).length ≤ 4 := List.length_take_le' _ _
      omega
  have hevm := hev.take m
  have hcut : Vm.cut [En p1, En p2, En p3, Ev (.int v) (v, 1)] none (some (m : Int)) = [En p1, En p2, En p3, Ev (.int v) (v, 1)].take m := cut_take _ m
  have hlen := hevm.len
  have hlen4 : ([p1, p2, p3, (v, 1)].take m).length ≤ 4 := List.length_take_le' _ _
  have hlst := hsm.last
  have hsum := hsm.sum
  generalize [En p1, En p2, En p3, Ev (.int v) (v, 1)].take m = es at *
  generalize [rat p1.1 p1.2, rat p2.1 p2.2, rat p3.1 p3.2, PV.int v].take m = xs at *
  generalize [p1, p2, p3, (v, (1 : Int))].take m = ps at *
  have esl : es.length ≤ 100000 := by omega
  obtain ⟨q15, q16, e11⟩ := total_loop (n := n + 5) (n0 := 0) (s := st1 ns t4 g4) rfl (x0 := x0) (x1 := some (.ref 0)) (x2 := some (.v (.lst [En p1, En p2, En p3]))) (x3 := o3) (x4 := some (.v (.int v))) (x5 := some (.v (.lst [En p1, En p2, En p3, Ev (.int v) (v, 1)]))) (x7 := some (.v (.int (m : Int)))) (x8 := o8) (x9 := o9) (x10 := o10) (x11 := o11) (x12 := o12) (x13 := some (.v (En p))) (x14 := some (.v (Ev x q))) (x17 := o17) (x18 := o18) (o15 := o15) (o16 := o16) hevm hsm
  have e12 : ∀ s' : PS, callN tab (n + 7) 6 [.v (.lst xs)] s' = .ok (.v (rat (ps.foldl addN (0, 1)).1 (ps.foldl addN (0, 1)).2)) s' := fun s' => added_ok (n := n + 2) (.inl rfl) (by omega) hevm.vals hsum
  have e13 : ∀ s' : PS, callN tab (n + 7) 6 [.v (.tup xs)] s' = .ok (.v (rat (ps.foldl addN (0, 1)).1 (ps.foldl addN (0, 1)).2)) s' := fun s' => added_ok (n := n + 2) (.inr rfl) (by omega) hevm.vals hsum
  have e14 : ∀ s' : PS, callN tab (n + 7) 14 [.v (rat (ps.foldl addN (0, 1)).1 (ps.foldl addN (0, 1)).2), .v (.tup [.int (ps.foldl addN (0, 1)).1, .int (ps.foldl addN (0, 1)).2])] s' = .ok (.v (.bl true)) s' := fun s' => is_ok (n := n + 4) hlst.1 hlst.2
  generalize ps.foldl addN (0, 1) = T at *
  -- what is refused
  obtain ⟨y, t5, g5, hy, ht5, hp5, e15⟩ := pick (n := n + 5) hp4 (by omega) (xs := [.non, .bl true, .bl false, .str [49], .str [49, 47, 50], .tup [.int 1, .int 2], .lst [.lst [.int 1]], .dct [] []]) (by simp) (by simp)
  replace e15 : callN tab (n + 7) 9 [.ref 0, .v (.lst [.non, .bl true, .bl false, .str [49], .str [49, 47, 50], .tup [.int 1, .int 2], .lst [.lst [.int 1]], .dct [] []])] (st1 ns t4 g4) = .ok (.v y) (st1 ns t5 g5) := e15
  have hno : No y := by
    simp only [List.mem_cons, List.not_mem_nil, or_false] at hy
    rcases hy with rfl | rfl | rfl | rfl | rfl | rfl | rfl | rfl <;> exact ⟨trivial, rfl, fun _ => by simp⟩
  obtain ⟨r, t6, g6, hr2, ht6, hp6, e16⟩ := draw (n := n + 6) hp5 (by omega) (m := 10) (by decide) (b8 (by decide) (by decide))
  replace e16 : callN tab (n + 7) 8 [.ref 0, .v (.int 10)] (st1 ns t5 g5) = .ok (.v (.int r)) (st1 ns t6 g6) := e16
  obtain ⟨u, hu, hup, e17⟩ := ref_way (n := n + 1) (a := p.1) (b := p.2) hno hr2
  have e18 : ∀ s' : PS, idx2 (.v (.lst [.str sOther, .str sOther, .str sOther, .str sOther, .str sOther, .str sOther, .str sValue, .str sTop, .str sBottom, .str sRatios])) (.v (.int r)) s' = .ok (.v (.str u)) s' := fun s' =>
    idx_lst (xs := dueL.map .str) hr2.1 (by rw [List.getElem?_map, hu]; rfl)
  have e19 := eqD_self hup
  have e20 : ∀ s' : PS, callN tab (n + 7) 19 [.v (.int 8), .v (rat p.1 p.2), .v (.int 0)] s' = .ok (.v (.str sBottom)) s' := fun s' => ref8 (n := n + 1) trivial (.inr rfl)
  have e21 : eqD (.str sBottom) (.str sBottom) = some true := eqD_self (by decide)
  have e22 : ∀ s' : PS, cmp2 tab (callN tab (n + 7)) .eq (.v (rat p.1 p.2)) (.v y) s' = .ok false s' := fun s' => eq_no2 (n := n + 5) hno
  have e23 : ∀ s' : PS, callN tab (n + 7) 13 [.v (.tup [.int p.1, .int p.2])] s' = .ok (.v (.str (rtx p.1 p.2))) s' := fun s' => text_ok (n := n + 6) (hp.t2.mono (by decide)) (hp.b2.mono (by decide))
  have e24 : ∀ (w : List Nat) (s' : PS), cmp2 tab (callN tab (n + 7)) .eq (.v (rat p.1 p.2)) (.v (.str w)) s' = .ok false s' := fun w s' => eq_no2 (n := n + 5) no_str
  obtain ⟨y2, t7, g7, hy2, ht7, hp7, e25⟩ := pick (n := n + 5) hp6 (by omega) (xs := [.non, .int 5, .str [49, 50], rat p.1 p.2, .dct [] [], .lst [rat p.1 p.2, .str [49]]]) (by simp) (by simp)
  replace e25 : callN tab (n + 7) 9 [.ref 0, .v (.lst [.non, .int 5, .str [49, 50], rat p.1 p.2, .dct [] [], .lst [rat p.1 p.2, .str [49]]])] (st1 ns t6 g6) = .ok (.v y2) (st1 ns t7 g7) := e25
  have e26 : ∀ s' : PS, callN tab (n + 6) 6 [.v y2] s' = .ex eRatios s' := fun s' => by
    simp only [List.mem_cons, List.not_mem_nil, or_false] at hy2
    rcases hy2 with rfl | rfl | rfl | rfl | rfl | rfl
    · exact added_no (n := n + 1) (fun _ => by simp) (fun _ => by simp)
    · exact added_no (n := n + 1) (fun _ => by simp) (fun _ => by simp)
    · exact added_no (n := n + 1) (fun _ => by simp) (fun _ => by simp)
    · exact added_no (n := n + 1) (fun _ => by simp) (fun _ => by simp)
    · exact added_no (n := n + 1) (fun _ => by simp) (fun _ => by simp)
    · refine added_bad (n := n + 1) (.inl rfl) (by simp) (fun w hw => ?_) ⟨.str [49], by simp, no_str⟩
      simp only [List.mem_cons, List.not_mem_nil, or_false] at hw
      rcases hw with rfl | rfl
      · exact .inl ⟨_, _, .rat _ _⟩
      · exact .inr no_str
  have e27 : ∀ s' : PS, callN tab (n + 7) 19 [.v (.int 10), .v (rat p.1 p.2), .v y2] s' = .ok (.v (.str sRatios)) s' := fun s' => ref10 (n := n + 1) e26
  have e28 : eqD (.str sRatios) (.str sRatios) = some true := eqD_self (by decide)
  have e29 : ∀ s' : PS, callN tab (n + 7) 14 [.v (rat p.1 p.2), .v (.tup [.int p.1, .int p.2])] s' = .ok (.v (.bl true)) s' := fun s' => is60 (n := n + 4) hp.t hp.b
  generalize rtx p.1 p.2 = tx2 at *
  have ixl : ∀ (w : PV) (l : List PV) (s' : PS), idx2 (.v (.lst (w :: l))) (.v (.int 0)) s' = .ok (.v w) s' := fun w l s' => idx_lst (by decide) rfl
  have ecat : ∀ s' : PS, bin2 tab (callN tab (n + 7)) .add (.v (.lst [En p1, En p2, En p3])) (.v (.lst [Ev (.int v) (v, 1)])) s' = .ok (.v (.lst [En p1, En p2, En p3, Ev (.int v) (v, 1)])) s' := fun s' => bin_lst (by simp)
  have elc : evE tab (callN tab (n + 7)) (.lc true (.many [15, 16]) (.sl true (.var 5) false true (.cst .non) (.var 7)) [] (.var 15))
      [x0, some (.ref 0), some (.v (.lst [En p1, En p2, En p3])), o3, some (.v (.int v)), some (.v (.lst [En p1, En p2, En p3, Ev (.int v) (v, 1)])), some (.v (.tup [.int T.1, .int T.2])), some (.v (.int (m : Int))), o8, o9, o10, o11, o12, some (.v (En p)), some (.v (Ev x q)), q15, q16, o17, o18] (st1 ns t4 g4) = .ok (.v (.lst xs)) (st1 ns t4 g4) :=
    listed_lc hevm (by omega) (by simp [hcut, esl]) rfl
  have hok : okR 4 (rat p1.1 p1.2) = true := rfl
  simp only [Nat.add_assoc, Nat.reduceAdd] at e11 e17
  simp [d_law, e1, ecat, e2, e3, e4, e5, e6, ixl, bin_own hok, e7, e8, e9, e10, hcut, esl, e11, elc, e12, e13, e14, Vm.putAt, e15, e16, e17, e18, cmp_ne, cmp_eq, eqD_int, e19, e20, e21, e22, e23, e24, e25, e27, e28, e29]
end K01
set_option Elab.async false
set_option linter.all false
set_option maxRecDepth 100000
set_option maxHeartbeats 16000000
set_option exponentiation.threshold 20000
namespace K01
open Vm Vm.Q PySem
theorem pen_ok {n : Nat} {ns : List Int} (hl : ns.length ≤ 63) : callN tab (n + 1) 7 [.v (.clst (ns.map .int))] [] = .ok (.ref 0) (st1 ns 0 0) := by
  rw [call_run a_l_pen rfl]
  have hc : Vm.cut (ns.map PV.int) none (some 63) = ns.map PV.int := by
    have := cut_take (ns.map PV.int) 63
    rw [List.take_of_length_le (by simpa using hl)] at this
    exact this
  have h2 : ns.length ≤ 100000 := by omega
  have hv : vs (List.map (SV.v ∘ PV.int) ns) = some (ns.map PV.int) := by rw [← List.map_map, vs_map]
  simp [d_l_pen, hc, h2, hv]
theorem law_ok {n : Nat} {ns : List Int} (hl : ns.length ≤ 63) : callN tab (n + 8) 21 [.v (.clst (ns.map .int))] [] = .ok (.v (.bl true)) [] := by
  rw [call_run a_law rfl]
  have e0 := pen_ok (n := n + 6) hl
  have hr : ∀ s' : PS, kRng [.v (.int 3)] s' = .ok (.v (.lst [.int 0, .int 1, .int 2])) s' := fun s' => kRng_n (m := 3) (by decide)
  have hl2 : ns.length ≤ 1000 := by omega
  -- three turns
  obtain ⟨p1, v1, b1, t1, g1, h1, ht1, hg1, k1⟩ := turn_ok (n := n) (ns := ns) (t := 0) (g := 0) (zs := []) hl2 (by decide) (by decide) (by decide) (by simp) (some (.v (.clst (ns.map .int)))) (some (.v (.int 0))) none none none none none none none none none none none none none none none
  obtain ⟨p2, v2, b2, t2, g2, h2, ht2, hg2, k2⟩ := turn_ok (n := n) (ns := ns) (t := t1) (g := g1) (zs := [.v (En p1)]) hl2 (by omega) hg1 (by omega) (by simp) (some (.v (.clst (ns.map .int)))) (some (.v (.int 1))) none none none none none none none none (some (.v (.int b1))) none none none (some (.v (.tup [.int p1.1, .int p1.2]))) (some (.v (.int v1))) (some (.v (rat p1.1 p1.2)))
  obtain ⟨p3, v3, b3, t3, g3, h3, ht3, hg3, k3⟩ := turn_ok (n := n) (ns := ns) (t := t2) (g := g2) (zs := [.v (En p1), .v (En p2)]) hl2 (by omega) hg2 (by omega) (by simp) (some (.v (.clst (ns.map .int)))) (some (.v (.int 2))) none none none none none none none none (some (.v (.int b2))) none none none (some (.v (.tup [.int p2.1, .int p2.2]))) (some (.v (.int v2))) (some (.v (rat p2.1 p2.2)))
  have k4 := rest_ok (n := n) (ns := ns) (t := t3) (g := g3) hl2 (by omega) hg3 (by omega) h1 h2 h3 (some (.v (.clst (ns.map .int)))) (some (.v (.int 2))) none none none none none none none none (some (.v (.int b3))) none none none (some (.v (.tup [.int p3.1, .int p3.2]))) (some (.v (.int v3))) (some (.v (rat p3.1 p3.2)))
  have hB : turnB = turnB := rfl
  -- the loop
  have loop : forL (.one 3) (kBody tab (callN tab (n + 7)) 0 turnB) [.int 0, .int 1, .int 2] [some (.v (.clst (ns.map .int))), some (.ref 0), some (.ref 1), none, none, none, none, none, none, none, none, none, none, none, none, none, none, none, none] (st2 ns 0 0 []) =
      .go .nx [some (.v (.clst (ns.map .int))), some (.ref 0), some (.ref 1), some (.v (.int 2)), none, none, none, none, none, none, none, none, some (.v (.int b3)), none, none, none, some (.v (.tup [.int p3.1, .int p3.2])), some (.v (.int v3)), some (.v (rat p3.1 p3.2))] (st2 ns t3 g3 [.v (En p1), .v (En p2), .v (En p3)]) := by
    unfold forL
    simp only [asg, List.set_cons_succ, List.set_cons_zero, kBody_, k1]
    unfold forL
    simp only [asg, List.set_cons_succ, List.set_cons_zero, kBody_, List.nil_append, k2]
    unfold forL
    simp only [asg, List.set_cons_succ, List.set_cons_zero, kBody_, List.cons_append, List.nil_append, k3]
    unfold forL
    rfl
  have frz : frzS 2 0 [some (.v (.clst (ns.map .int))), some (.ref 0), some (.ref 1), some (.v (.int 2)), none, none, none, none, none, none, none, none, some (.v (.int b3)), none, none, none, some (.v (.tup [.int p3.1, .int p3.2])), some (.v (.int v3)), some (.v (rat p3.1 p3.2))] (st2 ns t3 g3 [.v (En p1), .v (En p2), .v (En p3)]) =
      .go .nx [some (.v (.clst (ns.map .int))), some (.ref 0), some (.v (.lst [En p1, En p2, En p3])), some (.v (.int 2)), none, none, none, none, none, none, none, none, some (.v (.int b3)), none, none, none, some (.v (.tup [.int p3.1, .int p3.2])), some (.v (.int v3)), some (.v (rat p3.1 p3.2))] (st1 ns t3 g3) := by
    unfold frzS
    simp
  have body : d_law.body = [.set 1 (.call 7 [.var 0]), .set 2 (.lst false []), .loop (.one 3) (.rng [.cst (.int 3)]) turnB, .frz 2] ++ d_law.body.drop 4 := rfl
  rw [body]
  have hn : d_law.nslot = 19 := rfl
  have he : d_law.esc = false := rfl
  generalize d_law.body.drop 4 = R at *
  generalize turnB = B at *
  simp [hn, he, e0, hr, loop, frz]
  exact k4
end K01
set_option Elab.async false
namespace K01
open Vm Vm.Q PySem PySem.Spec PyProof.Rows
theorem all_ok {P : Program} {w : World} {K : PySem.W.Frag} {mg : Str → Option Value} {fa : Addr} {h : Heap} (X : K.In h) (G : h.Ns mainGlobals mg) (hfa : mg "law" = some (.ref fa))
    (h0 : decide (PySem.W.nsIn K mainGlobals "law" = some (some (.ref ((lay.D K).fa 21)))) = true) (h1 : topB1 K (lay.D K) = true) (h2 : topB2 K (lay.D K) = true) (h3 : topB3 P K (lay.D K) = true) (h4 : topB4 K lay = true) (h5 : topB5 K lay = true) :
    (∀ base : Heap, K.In base → base.Ns mainGlobals mg → Txt P w K mg base (lay.D K)) ∧ (lay.D K).fa 21 = fa ∧ (lay.D K).ps 21 = [("_law_script" : Str)] ∧ (∃ di, (lay.D K).T.defs[21]? = some di ∧ di.npar = 1) ∧
      ∀ ns : List Int, ns.length ≤ 63 → (∀ z ∈ ns, Builtin.Int.intBits z ≤ 1048576) → ∃ s', callN (lay.D K).T 8 21 [.v (.clst (ns.map PV.int))] [] = .ok (.v (.bl true)) s' := by
  refine ⟨fun base _ _ => txt_of_bool X G h1 h2 h3 h4 h5, ?_, rfl, ⟨_, a_law, rfl⟩, fun ns hl _ => ⟨_, law_ok (n := 0) hl⟩⟩
  have e := PySem.W.mg_of X G (of_decide_eq_true h0)
  rw [hfa] at e
  cases e
  rfl
end K01
open PySem PySem.W PyProof.Rows
set_option maxRecDepth 100000 in
set_option maxHeartbeats 0 in
theorem PySem.Challenge.cw_lothall_k01_ratios_by_an_own_walk_holds : PySem.Challenge.rw_lothall_k01_ratios_by_an_own_walk.Holds := by
  w_on; o_law; k_head; (case hw => w_witness2)
  k_fill
  refine Vm.walk_vm (l := PySem.Challenge.rw_lothall_k01_ratios_by_an_own_walk) (n := 63) (x := "_law_script") (m := 8) rfl (by decide) rfl ⟨rfl, by decide, by decide⟩ (fun w h Y => PySem.W.kIn_of Y) K01.lay.D 21 ?F
  case F =>
    intro w mg fa h KX G hmg
    exact K01.all_ok KX G hmg (by kernel_rfl) (by kernel_rfl) (by kernel_rfl) (by kernel_rfl) (by kernel_rfl) (by kernel_rfl)
