import PyProof.Rows.All
import PySem.Challenge.RW_partsbrought_k81_whole_webs_and_rings
import Wide.All
import OpenK.AllK
import Wide.FinOn
import HandS.ForMost
import HandS.IsInst
import HandS.SortOrd
import HandS.CallSlots
import KE.SortData
import KE.DataCmp
import HandS.Style
import HandS.TupLe
import HandS.Deep
import HandS.Conv
import HandS.Zip
import HandS.Defaults
import HandS.HeadEnd
import HandS.Exc
import HandS.WordsExc
import KE.KStateDown
import Lean
import HandS.Base
import HandS.Ends
import HandS.More
import HandS.Words
import HandS.Head0
import HandS.Head1
import HandS.Head2
import HandS.HeadHook1
import HandS.HeadHook2
set_option Elab.async false

section
set_option Elab.async false
set_option linter.all false
set_option maxRecDepth 100000
set_option maxHeartbeats 4000000
/-! McA: the machine: values, store, core language, evaluator -/
namespace Mc
open PySem

/-! ### values -/
/-- d: a tree (never changes); tup, lst: a tuple, a never changed list that holds more than trees; obj: a thing of the store -/
inductive T where
  | d (t : PyData)
  | tup (ts : List T)
  | lst (ts : List T)
  | obj (n : Nat)
inductive Cell where
  | lst (ts : List T)
  | fz (t : PyData)
abbrev Store := List Cell
structure Exn where
  cls : Nat
  args : List T
inductive R (a : Type) where
  | ok (x : a) (S : Store)
  | ex (x : Exn) (S : Store)
  | no
abbrev Sg := List (Option T)
def R.bnd {a b : Type} : R a → (a → Store → R b) → R b
  | .ok x S, k => k x S
  | .ex x S, _ => .ex x S
  | .no, _ => .no
/-- within a comprehension nothing may be raised -/
def R.calm {a : Type} : R a → R a
  | .ex _ _ => .no
  | r => r

def allD : List T → Option (List PyData)
  | [] => some []
  | .d t :: r => match allD r with | some ts => some (t :: ts) | none => none
  | _ :: _ => none
def mkTup (ts : List T) : T := match allD ts with | some ds => .d (.tuple ds) | none => .tup ts
def mkLst (ts : List T) : T := match allD ts with | some ds => .d (.list ds) | none => .lst ts

abbrev tI (i : Int) : T := .d (.int i)
abbrev tB (b : Bool) : T := .d (.bool b)
abbrev tS (s : Str) : T := .d (.str s)
abbrev tN : T := .d .none

/-- a frozen thing is its tree -/
def norm (S : Store) : T → T
  | .obj n => match S[n]? with | some (.fz t) => .d t | _ => .obj n
  | t => t
/-- the items of a list, of a tuple -/
def lstOf (S : Store) : T → Option (List T)
  | .d (.list ds) => some (ds.map .d)
  | .lst ts => some ts
  | .obj n => match S[n]? with | some (.lst ts) => some ts | some (.fz (.list ds)) => some (ds.map .d) | _ => none
  | _ => none
def tupOf : T → Option (List T)
  | .d (.tuple ds) => some (ds.map .d)
  | .tup ts => some ts
  | _ => none
def seqOf (S : Store) (t : T) : Option (List T) := match lstOf S t with | some ts => some ts | none => tupOf t

def mapO {a b : Type} (f : a → Option b) : List a → Option (List b)
  | [] => some []
  | x :: r => match f x with
    | some y => match mapO f r with | some ys => some (y :: ys) | none => none
    | none => none
/-- the tree of a value, things of the store read (k deep) -/
def snap (S : Store) : Nat → T → Option PyData
  | 0, .d t => some t
  | 0, _ => none
  | k + 1, t => match t with
    | .d t => some t
    | .tup ts => (mapO (snap S k) ts).map .tuple
    | .lst ts => (mapO (snap S k) ts).map .list
    | .obj n => match S[n]? with
      | some (.fz t) => some t
      | some (.lst ts) => (mapO (snap S k) ts).map .list
      | none => none
def deep : Nat := 12

/-! ### order of trees -/
def rank : PyData → Nat
  | .none => 0 | .bool _ => 1 | .int _ => 1 | .str _ => 2 | .list _ => 3 | .tuple _ => 4 | .dict _ => 5
def strLt (x y : Str) : Bool := decide (x.cps.toList < y.cps.toList)
mutual
/-- a total order that is Python's where Python has one -/
def ltD : PyData → PyData → Bool
  | .bool a, .bool b => decide ((if a then (1 : Int) else 0) < (if b then 1 else 0))
  | .bool a, .int j => decide ((if a then (1 : Int) else 0) < j)
  | .int i, .bool b => decide (i < (if b then 1 else 0))
  | .int i, .int j => decide (i < j)
  | .str x, .str y => strLt x y
  | .list xs, .list ys => ltDs xs ys
  | .tuple xs, .tuple ys => ltDs xs ys
  | a, b => decide (rank a < rank b)
def ltDs : List PyData → List PyData → Bool
  | [], [] => false
  | [], _ :: _ => true
  | _ :: _, [] => false
  | x :: xs, y :: ys => if PyData.eqv x y then ltDs xs ys else ltD x y
end
/-- sorted, stable (from the right: x goes ahead of its equals) -/
def sortD : List PyData → List PyData
  | [] => []
  | x :: xs => insR x (sortD xs)
where
  insR (x : PyData) : List PyData → List PyData
    | [] => [x]
    | y :: ys => if ltD y x then y :: insR x ys else x :: y :: ys
def notNone : PyData → Bool
  | .none => false
  | _ => true
def isTupNE : PyData → Bool
  | .tuple (_ :: _) => true
  | _ => false
def noTup : PyData → Bool
  | .none => false
  | .tuple _ => false
  | _ => true
def allAl (xs : List PyData) : Bool := xs.all fun x => xs.all fun y => PySem.W.alike x y
def sortable (xs : List PyData) : Bool := allAl xs && (xs.all isTupNE || xs.all noTup)

/-! ### the core language -/
inductive Ty where
  | int | bool | str | list | tuple | dict
  deriving DecidableEq
inductive U1 where
  | neg | nt | len | all | any | abs | repr | sorted | list | tuple | lenset | sortset | sum | isi (cs : List Ty) | isN (neg : Bool)
inductive B2 where
  | add | sub | mul | fdiv | mod | pow | eq | ne | lt | le | gt | ge | is_ (neg : Bool) | in_ | nin | idx | divmod | max2 | min2
mutual
inductive Ex where
  | var (i : Nat)
  | lit (t : PyData)
  | tup (es : Exs)
  | lst (hp : Bool) (es : Exs)
  | u (hp : Bool) (o : U1) (a : Ex)
  | b (hp : Bool) (o : B2) (a b : Ex)
  | ch (o o' : B2) (a b c : Ex)
  | sl (hp : Bool) (a : Ex) (lo hi : Oe)
  | and_ (a b : Ex)
  | or_ (a b : Ex)
  | ite (c : Tx) (a b : Ex)
  | call (md f : Nat) (es : Exs)
  | callK (md f : Nat) (pm : List Nat) (es : Exs)
  | lc (hp : Bool) (vs : List Nat) (g : Tg) (it : It) (c : Tx) (e : Ex)
  | ofIt (hp : Bool) (it : It)
  | app (a b : Ex)
  | ext (a b : Ex)
  | pop (a : Ex)
  | popAt (a b : Ex)
  | index (a b : Ex)
inductive Exs where
  | nil
  | cons (e : Ex) (es : Exs)
inductive Oe where
  | none
  | some (e : Ex)
inductive Tx where
  | tt
  | val (e : Ex)
  | and_ (a b : Tx)
  | or_ (a b : Tx)
  | not_ (a : Tx)
inductive It where
  | seq (e : Ex)
  | rng1 (a : Ex)
  | rng2 (a b : Ex)
  | enum (a : Ex)
  | zip (a b : Ex)
inductive Tg where
  | nm (i : Nat)
  | tup (gs : Tgs)
  | sub (o i : Ex)
inductive Tgs where
  | nil
  | cons (g : Tg) (gs : Tgs)
end
mutual
inductive Sx where
  | asg (g : Tg) (e : Ex)
  | par (i j : Nat) (a b : Ex)
  | exp (e : Ex)
  | ret (e : Ex)
  | retN
  | ite (c : Tx) (a b : Bx)
  | wh (c : Tx) (b : Bx)
  | for_ (g : Tg) (it : It) (b : Bx)
  | brk
  | cont
  | pass
  | stuck
inductive Bx where
  | nil
  | cons (s : Sx) (b : Bx)
end

/-! ### operations -/
inductive O where
  | v (t : T)
  | l (ts : List T)
def fin (hp : Bool) (S : Store) : Option O → R T
  | some (.v t) => .ok t S
  | some (.l ts) => if hp then .ok (.obj S.length) (S ++ [.lst ts]) else .ok (mkLst ts) S
  | none => .no
def line : Nat := 1000000
def isTy : Ty → PyData → Bool
  | .int, .int _ => true
  | .int, .bool _ => true
  | .bool, .bool _ => true
  | .str, .str _ => true
  | .list, .list _ => true
  | .tuple, .tuple _ => true
  | .dict, .dict _ => true
  | _, _ => false
/-- its own shape, for isinstance: content left aside -/
def tyOf (S : Store) : T → PyData
  | .d t => t
  | .tup _ => .tuple []
  | .lst _ => .list []
  | .obj n => match S[n]? with | some (.lst _) => .list [] | some (.fz t) => t | none => .none
def boolsT : List T → Option (List Bool)
  | [] => some []
  | .d (.bool b) :: r => match boolsT r with | some bs => some (b :: bs) | none => none
  | _ :: _ => none
def intsT : List T → Option (List Int)
  | [] => some []
  | .d (.int i) :: r => match intsT r with | some is => some (i :: is) | none => none
  | _ :: _ => none
/-- without equal ones, the first ones kept -/
def dedup : List PyData → List PyData
  | [] => []
  | x :: xs => x :: (dedup xs).filter fun y => !PyData.eqv x y
def dedupI (xs : List Int) : List Int := xs.foldl PyProof.Rows.step_dedup []
def truth (S : Store) (t : T) : Option Bool := match norm S t with
  | .d .none => some false
  | .d (.bool b) => some b
  | .d (.int i) => some (i != 0)
  | .d (.str x) => if x.length ≤ line then some (x.length != 0) else none
  | .d (.list ds) => some (!ds.isEmpty)
  | .d (.tuple ds) => some (!ds.isEmpty)
  | .tup ts => some (!ts.isEmpty)
  | .lst ts => some (!ts.isEmpty)
  | .obj n => match S[n]? with | some (.lst ts) => some (!ts.isEmpty) | _ => none
  | _ => none
def isNone (S : Store) (t : T) : Bool := match norm S t with | .d .none => true | _ => false
def u1 (o : U1) (S : Store) (t : T) : Option O := match o with
  | .neg => match t with | .d (.int i) => some (.v (tI (-i))) | _ => none
  | .nt => match t with | .d (.bool b) => some (.v (tB (!b))) | _ => none
  | .len => match seqOf S t with
    | some ts => some (.v (tI ts.length))
    | none => match t with | .d (.str x) => if x.length ≤ line then some (.v (tI x.length)) else none | _ => none
  | .all => match lstOf S t with | some ts => (boolsT ts).map fun bs => .v (tB (bs.all id)) | none => none
  | .any => match lstOf S t with | some ts => (boolsT ts).map fun bs => .v (tB (bs.any id)) | none => none
  | .abs => match t with | .d (.int i) => some (.v (tI (if i < 0 then -i else i))) | _ => none
  | .repr => match snap S deep t with
    | some p => if p.showable && !p.hasDict && decide (p.depth ≤ 60) && decide (p.shown.length ≤ line) && PyData.canLay0 (.str p.shown) then some (.v (tS p.shown)) else none
    | none => none
  | .sorted => match seqOf S t with
    | some ts => match allD ts with | some ds => if sortable ds && decide ((PyData.list ds).depth ≤ 60) then some (.l ((sortD ds).map .d)) else none | none => none
    | none => none
  | .list => (seqOf S t).map .l
  | .tuple => (seqOf S t).map fun ts => .v (mkTup ts)
  | .lenset => match lstOf S t with
    | some ts => match intsT ts with
      | some is => if is.length ≤ 4000 then some (.v (tI (dedupI is).length)) else none
      | none => none
    | none => none
  | .sortset => match lstOf S t with
    | some ts => match allD ts with | some ds => if sortable ds && decide ((PyData.list ds).depth ≤ 60) then some (.l ((sortD (dedup ds)).map .d)) else none | none => none
    | none => none
  | .sum => match lstOf S t with | some ts => (intsT ts).map fun is => .v (tI is.sum) | none => none
  | .isi cs => some (.v (tB (cs.any fun c => isTy c (tyOf S t))))
  | .isN neg => some (.v (tB (xor neg (isNone S t))))
def small (i : Int) : Bool := decide (-(2 ^ 64) < i) && decide (i < 2 ^ 64)
/-- the place that an index of any sign means -/
def at_ {a : Type} (xs : List a) (i : Int) : Option a :=
  if 0 ≤ i then xs[i.toNat]? else if -(xs.length : Int) ≤ i then xs[(i + xs.length).toNat]? else none
def cmp2 (S : Store) (x y : T) : Option (PyData × PyData) := match snap S deep x, snap S deep y with
  | some a, some b => if min a.depth b.depth ≤ 60 then some (a, b) else none
  | _, _ => none
def ord2 (S : Store) (x y : T) (f : PyData → PyData → Bool) : Option O := match cmp2 S x y with
  | some (a, b) => if PySem.W.alike a b && notNone a then some (.v (tB (f a b))) else none
  | none => none
def inD (S : Store) (x y : T) : Option Bool := match snap S deep x, snap S deep y with
  | some d, some (.list ds) => if d.depth ≤ 60 then some (ds.any fun z => PyData.eqv z d) else none
  | some d, some (.tuple ds) => if d.depth ≤ 60 then some (ds.any fun z => PyData.eqv z d) else none
  | some (.str a), some (.str b) => match a.cps.toList with | [c] => some (b.cps.toList.contains c) | _ => none
  | _, _ => none
def b2 (o : B2) (S : Store) (x y : T) : Option O := match o with
  | .add => match x, y with
    | .d (.int i), .d (.int j) => some (.v (tI (i + j)))
    | .d (.str a), .d (.str b) => if a.length + b.length ≤ line then some (.v (tS (a ++ b))) else none
    | x, y => match lstOf S x, lstOf S y with
      | some xs, some ys => if xs.length + ys.length ≤ line then some (.l (xs ++ ys)) else none
      | _, _ => match tupOf x, tupOf y with
        | some (a :: xs), some ys => if xs.length + 1 + ys.length ≤ line then some (.v (mkTup (a :: xs ++ ys))) else none
        | _, _ => none
  | .sub => match x, y with | .d (.int i), .d (.int j) => some (.v (tI (i - j))) | _, _ => none
  | .mul => match x, y with
    | .d (.int i), .d (.int j) => if small i || small j then some (.v (tI (i * j))) else none
    | _, _ => none
  | .fdiv => match x, y with | .d (.int i), .d (.int j) => if 0 < j && j < 1073741824 then some (.v (tI (i / j))) else none | _, _ => none
  | .mod => match x, y with | .d (.int i), .d (.int j) => if 0 < j then some (.v (tI (i % j))) else none | _, _ => none
  | .pow => match x, y with | .d (.int i), .d (.int j) => if 0 ≤ j && j ≤ 1000 && decide (i.natAbs < 2 ^ 64) then some (.v (tI (i ^ j.toNat))) else none | _, _ => none
  | .eq => (cmp2 S x y).map fun p => .v (tB (PyData.eqv p.1 p.2))
  | .ne => (cmp2 S x y).map fun p => .v (tB (!PyData.eqv p.1 p.2))
  | .lt => ord2 S x y ltD
  | .gt => ord2 S x y fun a b => ltD b a
  | .le => match x, y with | .d (.int i), .d (.int j) => some (.v (tB (decide (i ≤ j)))) | _, _ => none
  | .ge => match x, y with | .d (.int i), .d (.int j) => some (.v (tB (decide (j ≤ i)))) | _, _ => none
  | .is_ neg => match norm S x, y with
    | .d (.bool a), .d (.bool b) => some (.v (tB (xor neg (a == b))))
    | _, _ => none
  | .in_ => (inD S x y).map fun b => .v (tB b)
  | .nin => (inD S x y).map fun b => .v (tB (!b))
  | .idx => match y with
    | .d (.int i) => match seqOf S x with
      | some ts => (at_ ts i).map fun t => .v (norm S t)
      | none => match x with | .d (.str z) => if z.length ≤ line then (at_ z.cps.toList i).map fun c => .v (tS ⟨#[c]⟩) else none | _ => none
    | _ => none
  | .divmod => match x, y with
    | .d (.int i), .d (.int j) => if 0 < j && j < 1073741824 then some (.v (.d (.tuple [.int (i / j), .int (i % j)]))) else none
    | _, _ => none
  | .max2 => match x, y with | .d (.int i), .d (.int j) => some (.v (tI (if j > i then j else i))) | _, _ => none
  | .min2 => match x, y with | .d (.int i), .d (.int j) => some (.v (tI (if j < i then j else i))) | _, _ => none
/-- slices -/
def sIx (n d : Nat) : Option Int → Nat
  | none => d
  | some i => if i < 0 then (i + n).toNat else min i.toNat n
def cut {a : Type} (xs : List a) (lo hi : Option Int) : List a := (xs.drop (sIx xs.length 0 lo)).take (sIx xs.length xs.length hi - sIx xs.length 0 lo)
def sl3 (S : Store) (t : T) (lo hi : Option Int) : Option O := match lstOf S t with
  | some ts => some (.l (cut ts lo hi))
  | none => match tupOf t with | some ts => if (sIx ts.length 0 lo == 0) && (sIx ts.length ts.length hi == ts.length) then none else some (.v (mkTup (cut ts lo hi))) | none => none

/-! ### the evaluator -/
inductive Wk where
  | its (ts : List T)
  | cell (n : Nat)
inductive RS where
  | nx (sg : Sg) (S : Store)
  | rt (t : T) (S : Store)
  | bk (sg : Sg) (S : Store)
  | ct (sg : Sg) (S : Store)
  | ex (x : Exn) (S : Store)
  | no
def wipe (sg : Sg) : List Nat → Sg
  | [] => sg
  | v :: vs => (wipe sg vs).set v none
def FU : Nat := 4000
def rng (lo : Int) : Nat → List T
  | 0 => []
  | n + 1 => tI lo :: rng (lo + 1) n
def enumFrom : Nat → List T → List T
  | _, [] => []
  | i, t :: r => mkTup [tI i, t] :: enumFrom (i + 1) r
def zipT : List T → List T → List T
  | x :: xs, y :: ys => mkTup [x, y] :: zipT xs ys
  | _, _ => []
def consO (o : Option T) (xs : List T) : List T := match o with | some x => x :: xs | none => xs
/-- a comprehension's turns -/
def lcL (body : T → Store → R (Option T)) : List T → Store → R (List T)
  | [], S => .ok [] S
  | t :: r, S => (body t S).bnd fun o S1 => (lcL body r S1).bnd fun xs S2 => .ok (consO o xs) S2
def lcN (body : T → Store → R (Option T)) (n : Nat) : Nat → Nat → Store → R (List T)
  | 0, _, _ => .no
  | k + 1, i, S => match lstOf S (.obj n) with
    | none => .no
    | some ts => match ts[i]? with
      | none => .ok [] S
      | some t => (body t S).bnd fun o S1 => (lcN body n k (i + 1) S1).bnd fun xs S2 => .ok (consO o xs) S2
def lcW (body : T → Store → R (Option T)) : Wk → Store → R (List T)
  | .its ts, S => lcL body ts S
  | .cell n, S => lcN body n FU 0 S
/-- behind a turn -/
def loopK (r : RS) (k : Sg → Store → RS) : RS := match r with
  | .nx sg S => k sg S
  | .ct sg S => k sg S
  | .bk sg S => .nx sg S
  | .rt t S => .rt t S
  | .ex x S => .ex x S
  | .no => .no
/-- behind a statement -/
def seqS (r : RS) (k : Sg → Store → RS) : RS := match r with
  | .nx sg S => k sg S
  | .ct sg S => .ct sg S
  | .bk sg S => .bk sg S
  | .rt t S => .rt t S
  | .ex x S => .ex x S
  | .no => .no
def R.s {a : Type} (r : R a) (k : a → Store → RS) : RS := match r with
  | .ok x S => k x S
  | .ex x S => .ex x S
  | .no => .no
/-- a loop's turns -/
def forL (body : T → Sg → Store → RS) : List T → Sg → Store → RS
  | [], sg, S => .nx sg S
  | t :: r, sg, S => loopK (body t sg S) fun sg1 S1 => forL body r sg1 S1
def forN (body : T → Sg → Store → RS) (n : Nat) : Nat → Nat → Sg → Store → RS
  | 0, _, _, _ => .no
  | k + 1, i, sg, S => match lstOf S (.obj n) with
    | none => .no
    | some ts => match ts[i]? with
      | none => .nx sg S
      | some t => loopK (body t sg S) fun sg1 S1 => forN body n k (i + 1) sg1 S1
def forW (body : T → Sg → Store → RS) : Wk → Sg → Store → RS
  | .its ts, sg, S => forL body ts sg S
  | .cell n, sg, S => forN body n FU 0 sg S
def whN (c : Sg → Store → R Bool) (body : Sg → Store → RS) : Nat → Sg → Store → RS
  | 0, _, _ => .no
  | k + 1, sg, S => (c sg S).s fun b S1 => cond b (loopK (body sg S1) fun sg1 S2 => whN c body k sg1 S2) (.nx sg S1)
/-- freezing: the tree of a value; the things on the way are frozen -/
def frzs (f : T → Store → Option (PyData × Store)) : List T → Store → Option (List PyData × Store)
  | [], S => some ([], S)
  | t :: r, S => match f t S with
    | some (d, S1) => match frzs f r S1 with | some (ds, S2) => some (d :: ds, S2) | none => none
    | none => none
def frz : Nat → T → Store → Option (PyData × Store)
  | 0, .d t, S => some (t, S)
  | 0, _, _ => none
  | k + 1, t, S => match t with
    | .d t => some (t, S)
    | .tup ts => match frzs (frz k) ts S with | some (ds, S1) => some (.tuple ds, S1) | none => none
    | .lst ts => match frzs (frz k) ts S with | some (ds, S1) => some (.list ds, S1) | none => none
    | .obj n => match S[n]? with
      | some (.fz t) => some (t, S)
      | some (.lst ts) => match frzs (frz k) ts S with | some (ds, S1) => some (.list ds, S1.set n (.fz (.list ds))) | none => none
      | none => none
/-- a call: md 0: arguments frozen, a store of its own, the result frozen; else in this store -/
def callM (cf : Nat → List T → Store → R T) (md f : Nat) (ts : List T) (S : Store) : R T :=
  if md = 0 then match frzs (frz deep) ts S with
    | none => .no
    | some (ds, S1) => match cf f (ds.map .d) [] with
      | .ok t S2 => match frz deep t S2 with | some (d, _) => .ok (.d d) S1 | none => .no
      | .ex x _ => match x.args with
        | [] => .ex x S1
        | _ => .no
      | .no => .no
  else cf f ts S
def permL (ts : List T) : List Nat → Option (List T)
  | [] => some []
  | i :: r => match ts[i]? with
    | some t => match permL ts r with | some us => some (t :: us) | none => none
    | none => none

/-! ### what is done with values -/
def asInt (t : T) (S : Store) : R (Option Int) := match t with | .d (.int i) => .ok (some i) S | _ => .no
def asTruth (t : T) (S : Store) : R Bool := match truth S t with | some b => .ok b S | none => .no
def asBool (t : T) (S : Store) : R Bool := match t with | .d (.bool b) => .ok b S | _ => .no
def asTup (n : Nat) (t : T) (S : Store) : R (List T) := match tupOf t with | some ts => if ts.length = n then .ok ts S else .no | none => .no
def Tgs.len : Tgs → Nat
  | .nil => 0
  | .cons _ gs => gs.len + 1
def asVar (t : Option (Option T)) (S : Store) : R T := match t with | some (some t) => .ok (norm S t) S | _ => .no
def permK (ts : List T) (pm : List Nat) (S : Store) : R (List T) := match permL ts pm with | some us => .ok us S | none => .no
def chkL (x : T) (S : Store) : R T := match lstOf S x with | some _ => .ok x S | none => .no
def appK (x y : T) (S : Store) : R T := match x with
  | .obj n => match S[n]? with | some (.lst ts) => if ts.length < line then .ok tN (S.set n (.lst (ts ++ [y]))) else .no | _ => .no
  | _ => .no
def extK (x y : T) (S : Store) : R T := match x with
  | .obj n => match S[n]?, lstOf S y with | some (.lst ts), some us => if ts.length + us.length < line then .ok tN (S.set n (.lst (ts ++ us))) else .no | _, _ => .no
  | _ => .no
def popK (x : T) (S : Store) : R T := match x with
  | .obj n => match S[n]? with
    | some (.lst ts) => match ts[ts.length - 1]? with | some t => .ok (norm S t) (S.set n (.lst ts.dropLast)) | none => .no
    | _ => .no
  | _ => .no
def popAtK (x y : T) (S : Store) : R T := match x, y with
  | .obj n, .d (.int i) => match S[n]? with
    | some (.lst ts) => if 0 ≤ i && i < 1000000 then match ts[i.toNat]? with | some t => .ok (norm S t) (S.set n (.lst (ts.eraseIdx i.toNat))) | none => .no else .no
    | _ => .no
  | _, _ => .no
def indexK (x y : T) (S : Store) : R T := match snap S deep x, snap S deep y with
  | some (.list ds), some d => if d.depth ≤ 60 && (PyData.list ds).depth ≤ 60 then match ds.findIdx? (fun z => PyData.eqv z d) with | some j => .ok (tI j) S | none => .no else .no
  | _, _ => .no
def strT : List Nat → List T
  | [] => []
  | c :: cs => tS ⟨#[c]⟩ :: strT cs
def seqK (t : T) (S : Store) : R Wk := match norm S t with
  | .obj n => match S[n]? with | some (.lst _) => .ok (.cell n) S | _ => .no
  | .d (.str x) => if x.length ≤ line then .ok (.its (strT x.cps.toList)) S else .no
  | .d (.list ds) => .ok (.its (ds.map .d)) S
  | .lst ts => .ok (.its ts) S
  | t => match tupOf t with | some ts => .ok (.its ts) S | none => .no
def rng1K (x : T) (S : Store) : R Wk := match x with
  | .d (.int i) => if i ≤ 1000000 && -1000000 ≤ i then .ok (.its (rng 0 i.toNat)) S else .no
  | _ => .no
def rng2K (x y : T) (S : Store) : R Wk := match x, y with
  | .d (.int i), .d (.int j) => if -1000000 ≤ i && i ≤ 1000000 && -1000000 ≤ j && j ≤ 1000000 then .ok (.its (rng i (j - i).toNat)) S else .no
  | _, _ => .no
/-- a list that never changes -/
def stillL (S : Store) (t : T) : Option (List T) := match norm S t with
  | .d (.list ds) => some (ds.map .d)
  | .lst ts => some ts
  | _ => none
def enumK (x : T) (S : Store) : R Wk := match stillL S x with | some ts => .ok (.its (enumFrom 0 ts)) S | none => .no
def zipK (x y : T) (S : Store) : R Wk := match stillL S x, stillL S y with
  | some xs, some ys => .ok (.its (zipT xs ys)) S
  | _, _ => match tupOf x, tupOf y with
    | some xs, some ys => .ok (.its (zipT xs ys)) S
    | _, _ => .no
def subK (x y t : T) (sg : Sg) (S : Store) : R Sg := match x, y with
  | .obj n, .d (.int k) => match S[n]? with
    | some (.lst ts) => if 0 ≤ k && k < ts.length then .ok sg (S.set n (.lst (ts.set k.toNat t))) else .no
    | _ => .no
  | _, _ => .no
/-- the walker of a list(range(..)) -/
def itsK (w : Wk) (S : Store) : R (List T) := match w with | .its ts => .ok ts S | .cell _ => .no

section
variable (cf : Nat → List T → Store → R T)
mutual
def ev : Ex → Sg → Store → R T
  | .var i, sg, S => asVar sg[i]? S
  | .lit t, _, S => .ok (.d t) S
  | .tup es, sg, S => (evs es sg S).bnd fun ts S1 => .ok (mkTup ts) S1
  | .lst hp es, sg, S => (evs es sg S).bnd fun ts S1 => fin hp S1 (some (.l ts))
  | .u hp o a, sg, S => (ev a sg S).bnd fun t S1 => fin hp S1 (u1 o S1 t)
  | .b hp o a b, sg, S => (ev a sg S).bnd fun x S1 => (ev b sg S1).bnd fun y S2 => fin hp S2 (b2 o S2 x y)
  | .ch o o' a b c, sg, S => (ev a sg S).bnd fun x S1 => (ev b sg S1).bnd fun y S2 => (fin false S2 (b2 o S2 x y)).bnd fun r S3 => (asBool r S3).bnd fun k S4 =>
      cond k ((ev c sg S4).bnd fun z S5 => fin false S5 (b2 o' S5 y z)) (.ok (tB false) S4)
  | .sl hp a lo hi, sg, S => (ev a sg S).bnd fun t S1 => (evO lo sg S1).bnd fun l S2 => (evO hi sg S2).bnd fun h S3 => fin hp S3 (sl3 S3 t l h)
  | .and_ a b, sg, S => (ev a sg S).bnd fun t S1 => (asBool t S1).bnd fun k S2 => cond k (ev b sg S2) (.ok (tB false) S2)
  | .or_ a b, sg, S => (ev a sg S).bnd fun t S1 => (asBool t S1).bnd fun k S2 => cond k (.ok (tB true) S2) (ev b sg S2)
  | .ite c a b, sg, S => (evT c sg S).bnd fun k S1 => cond k (ev a sg S1) (ev b sg S1)
  | .call md f es, sg, S => (evs es sg S).bnd fun ts S1 => callM cf md f ts S1
  | .callK md f pm es, sg, S => (evs es sg S).bnd fun ts S1 => (permK ts pm S1).bnd fun us S2 => callM cf md f us S2
  | .lc hp vs g it c e, sg, S => (evI it sg S).bnd fun w S1 =>
      (lcW (fun t S2 => ((evG g t (wipe sg vs) S2).bnd fun sg1 S3 => (evT c sg1 S3).bnd fun k S4 =>
        cond k ((ev e sg1 S4).bnd fun x S5 => .ok (some x) S5) (.ok none S4)).calm) w S1).bnd fun xs S2 => fin hp S2 (some (.l xs))
  | .ofIt hp it, sg, S => (evI it sg S).bnd fun w S1 => (itsK w S1).bnd fun xs S2 => fin hp S2 (some (.l xs))
  | .app a b, sg, S => (ev a sg S).bnd fun x S1 => (chkL x S1).bnd fun x S2 => (ev b sg S2).bnd fun y S3 => appK x y S3
  | .ext a b, sg, S => (ev a sg S).bnd fun x S1 => (chkL x S1).bnd fun x S2 => (ev b sg S2).bnd fun y S3 => extK x y S3
  | .pop a, sg, S => (ev a sg S).bnd fun x S1 => (chkL x S1).bnd fun x S2 => popK x S2
  | .popAt a b, sg, S => (ev a sg S).bnd fun x S1 => (chkL x S1).bnd fun x S2 => (ev b sg S2).bnd fun y S3 => popAtK x y S3
  | .index a b, sg, S => (ev a sg S).bnd fun x S1 => (chkL x S1).bnd fun x S2 => (ev b sg S2).bnd fun y S3 => indexK x y S3
def evs : Exs → Sg → Store → R (List T)
  | .nil, _, S => .ok [] S
  | .cons e es, sg, S => (ev e sg S).bnd fun t S1 => (evs es sg S1).bnd fun ts S2 => .ok (t :: ts) S2
def evO : Oe → Sg → Store → R (Option Int)
  | .none, _, S => .ok none S
  | .some e, sg, S => (ev e sg S).bnd fun t S1 => asInt t S1
def evT : Tx → Sg → Store → R Bool
  | .tt, _, S => .ok true S
  | .val e, sg, S => (ev e sg S).bnd fun t S1 => asTruth t S1
  | .and_ a b, sg, S => (evT a sg S).bnd fun k S1 => cond k (evT b sg S1) (.ok false S1)
  | .or_ a b, sg, S => (evT a sg S).bnd fun k S1 => cond k (.ok true S1) (evT b sg S1)
  | .not_ a, sg, S => (evT a sg S).bnd fun k S1 => .ok (!k) S1
def evI : It → Sg → Store → R Wk
  | .seq e, sg, S => (ev e sg S).bnd fun t S1 => seqK t S1
  | .rng1 a, sg, S => (ev a sg S).bnd fun x S1 => rng1K x S1
  | .rng2 a b, sg, S => (ev a sg S).bnd fun x S1 => (ev b sg S1).bnd fun y S2 => rng2K x y S2
  | .enum a, sg, S => (ev a sg S).bnd fun x S1 => enumK x S1
  | .zip a b, sg, S => (ev a sg S).bnd fun x S1 => (ev b sg S1).bnd fun y S2 => zipK x y S2
def evG : Tg → T → Sg → Store → R Sg
  | .nm i, t, sg, S => .ok (sg.set i (some t)) S
  | .tup gs, t, sg, S => (asTup gs.len t S).bnd fun ts S1 => evGs gs ts sg S1
  | .sub o i, t, sg, S => (ev o sg S).bnd fun x S1 => (ev i sg S1).bnd fun y S2 => subK x y t sg S2
def evGs : Tgs → List T → Sg → Store → R Sg
  | .nil, [], sg, S => .ok sg S
  | .cons g gs, t :: ts, sg, S => (evG g t sg S).bnd fun sg1 S1 => evGs gs ts sg1 S1
  | _, _, _, _ => .no
end
mutual
def evS : Sx → Sg → Store → RS
  | .asg g e, sg, S => (ev cf e sg S).s fun t S1 => (evG cf g t sg S1).s fun sg1 S2 => .nx sg1 S2
  | .par i j a b, sg, S => (ev cf a sg S).s fun x S1 => (ev cf b sg S1).s fun y S2 => .nx ((sg.set i (some x)).set j (some y)) S2
  | .exp e, sg, S => (ev cf e sg S).s fun _ S1 => .nx sg S1
  | .ret e, sg, S => (ev cf e sg S).s fun t S1 => .rt t S1
  | .retN, _, S => .rt tN S
  | .ite c a b, sg, S => (evT cf c sg S).s fun k S1 => cond k (evB a sg S1) (evB b sg S1)
  | .wh c b, sg, S => whN (fun sg S => evT cf c sg S) (fun sg S => evB b sg S) FU sg S
  | .for_ g it b, sg, S => (evI cf it sg S).s fun w S1 => forW (fun t sg1 S2 => (evG cf g t sg1 S2).s fun sg2 S3 => evB b sg2 S3) w sg S1
  | .brk, sg, S => .bk sg S
  | .cont, sg, S => .ct sg S
  | .pass, sg, S => .nx sg S
  | .stuck, _, _ => .no
def evB : Bx → Sg → Store → RS
  | .nil, sg, S => .nx sg S
  | .cons s b, sg, S => seqS (evS s sg S) fun sg1 S1 => evB b sg1 S1
end
end
/-- a def of the text: how many names, how many parameters, its body -/
structure Fn where
  names : Nat
  pars : Nat
  body : Bx
def start (n : Nat) (ts : List T) : Sg := ts.map some ++ List.replicate (n - ts.length) none
def runF (cf : Nat → List T → Store → R T) (f : Fn) (ts : List T) (S : Store) : R T :=
  if ts.length = f.pars then match evB cf f.body (start f.names ts) S with
    | .nx _ S1 => .ok tN S1
    | .rt t S1 => .ok t S1
    | .ex x S1 => .ex x S1
    | _ => .no
  else .no
def callF (tab : List Fn) : Nat → Nat → List T → Store → R T
  | 0, _, _, _ => .no
  | k + 1, i, ts, S => match tab[i]? with | some f => runF (callF tab k) f ts S | none => .no
end Mc
end

section
set_option Elab.async false
set_option linter.all false
set_option maxRecDepth 100000
set_option maxHeartbeats 4000000
set_option autoImplicit false
/-! McB: what the machine's values, store and slots stand for -/
namespace Mc
open PySem PySem.Spec PyProof.Rows L2

/-- where the store's things stand, and what never changes -/
structure Wd where
  rho : List Addr
  FH : Hp
mutual
/-- a tree, its lists all tracked -/
inductive Dq (K : PySem.W.Frag) (H : Hp) : V → PyData → Prop
  | non : Dq K H .non .none
  | bl (b : Bool) : Dq K H (.bl b) (.bool b)
  | int (i : Int) : Dq K H (.int i) (.int i)
  | str (x : Str) : Dq K H (.str x) (.str x)
  | lst {a : Addr} {xs : List V} {ds : List PyData} : SqL K H a xs → DqAll K H xs ds → Dq K H (.ref a) (.list ds)
  | tup {a : Addr} {xs : List V} {ds : List PyData} : SqT K H a xs → DqAll K H xs ds → Dq K H (.ref a) (.tuple ds)
inductive DqAll (K : PySem.W.Frag) (H : Hp) : List V → List PyData → Prop
  | nil : DqAll K H [] []
  | cons {v : V} {vs : List V} {d : PyData} {ds : List PyData} : Dq K H v d → DqAll K H vs ds → DqAll K H (v :: vs) (d :: ds)
end
mutual
theorem Dq.dp {K : PySem.W.Frag} {H : Hp} : ∀ {v : V} {t : PyData}, Dq K H v t → Dp K H v t
  | _, _, .non => .non
  | _, _, .bl b => .bl b
  | _, _, .int i => .int i
  | _, _, .str x => .str x
  | _, _, .lst q r => .lst q (DqAll.dp r)
  | _, _, .tup q r => .tup q (DqAll.dp r)
theorem DqAll.dp {K : PySem.W.Frag} {H : Hp} : ∀ {vs : List V} {ts : List PyData}, DqAll K H vs ts → DpAll K H vs ts
  | _, _, .nil => .nil
  | _, _, .cons r q => .cons (Dq.dp r) (DqAll.dp q)
end
mutual
inductive Rep (K : PySem.W.Frag) (o : Wd) : T → V → Prop
  | d {t : PyData} {v : V} : Dq K o.FH v t → t.canLay0 = true → Rep K o (.d t) v
  | tup {ts : List T} {a : Addr} {vs : List V} : SqT K o.FH a vs → Reps K o ts vs → Rep K o (.tup ts) (.ref a)
  | lst {ts : List T} {a : Addr} {vs : List V} : SqL K o.FH a vs → Reps K o ts vs → Rep K o (.lst ts) (.ref a)
  | obj {n : Nat} {a : Addr} : o.rho[n]? = some a → Rep K o (.obj n) (.ref a)
inductive Reps (K : PySem.W.Frag) (o : Wd) : List T → List V → Prop
  | nil : Reps K o [] []
  | cons {t : T} {ts : List T} {v : V} {vs : List V} : Rep K o t v → Reps K o ts vs → Reps K o (t :: ts) (v :: vs)
end
def lenOk : HO → Prop
  | .lst xs => xs.length ≤ sizeLine
  | .tup xs => xs.length ≤ sizeLine
  | .frz _ u => lenOk u
  | _ => True
structure HRel (K : PySem.W.Frag) (o : Wd) (S : Store) (H : Hp) : Prop where
  sub : ∀ a u, o.FH a = some u → H a = some u
  fl : ∀ a u, o.FH a = some u → lenOk u
  dom : o.rho.length = S.length
  nd : o.rho.Nodup
  al : ∀ (n : Nat) (a : Addr), o.rho[n]? = some a → ∃ u, H a = some u
  lst : ∀ (n : Nat) (ts : List T) (a : Addr), S[n]? = some (.lst ts) → o.rho[n]? = some a → o.FH a = none ∧ ∃ vs, H a = some (.lst vs) ∧ vs.length ≤ sizeLine ∧ Reps K o ts vs
  fz : ∀ (n : Nat) (t : PyData) (a : Addr), S[n]? = some (.fz t) → o.rho[n]? = some a → Rep K o (.d t) (.ref a)
structure Ext (o : Wd) (H : Hp) (o' : Wd) (H' : Hp) : Prop where
  rho : ∀ (n : Nat) (a : Addr), o.rho[n]? = some a → o'.rho[n]? = some a
  new : ∀ a, a ∈ o'.rho → a ∈ o.rho ∨ H a = none
  fh : ∀ a u, o.FH a = some u → o'.FH a = some u
  fhn : ∀ a u, o'.FH a = some u → o.FH a = some u ∨ H a = none ∨ a ∈ o.rho
  keep : ∀ a u, H a = some u → a ∉ o.rho → H' a = some u
def SRel (K : PySem.W.Frag) (o : Wd) (sg : Sg) (σ : L2.St) : Prop := sg.length = σ.length ∧ ∀ (i : Nat) (t : T), sg[i]? = some (some t) → ∃ v, σ[i]? = some (some v) ∧ Rep K o t v

section
variable {K : PySem.W.Frag} {o o1 o2 : Wd} {H H1 H2 : Hp} {S S1 S2 : Store}
theorem Ext.refl : Ext o H o H := ⟨fun _ _ h => h, fun _ h => .inl h, fun _ _ h => h, fun _ _ h => .inl h, fun _ _ h _ => h⟩
theorem Ext.trans (nd2 : o2.rho.Nodup) (a : Ext o H o1 H1) (b : Ext o1 H1 o2 H2) : Ext o H o2 H2 := by
  have back : ∀ x, H1 x = none → x ∉ o.rho → H x = none := fun x h hn => by
    cases e : H x with
    | none => rfl
    | some u => rw [a.keep x u e hn] at h; cases h
  refine ⟨fun n x h => b.rho n x (a.rho n x h), fun x h => ?_, fun x u h => b.fh x u (a.fh x u h), fun x u h => ?_, fun x u h hn => ?_⟩
  · rcases b.new x h with h1 | h1
    · exact a.new x h1
    · by_cases hx : x ∈ o.rho
      · exact .inl hx
      · exact .inr (back x h1 hx)
  · rcases b.fhn x u h with h1 | h1 | h1
    · exact a.fhn x u h1
    · by_cases hx : x ∈ o.rho
      · exact .inr (.inr hx)
      · exact .inr (.inl (back x h1 hx))
    · rcases a.new x h1 with h2 | h2
      · exact .inr (.inr h2)
      · exact .inr (.inl h2)
  · refine b.keep x u (a.keep x u h hn) fun hx => ?_
    rcases a.new x hx with h2 | h2
    · exact hn h2
    · rw [h] at h2; cases h2

theorem rd_mono {FH FH' : Hp} (h : ∀ a u, FH a = some u → FH' a = some u) {a : Addr} {u : HO} (r : Rd FH a u) : Rd FH' a u := by
  rcases r with r | ⟨o, r⟩
  · exact .inl (h _ _ r)
  · exact .inr ⟨o, h _ _ r⟩
theorem sqL_mono {FH FH' : Hp} (h : ∀ a u, FH a = some u → FH' a = some u) {a : Addr} {xs : List V} (r : SqL K FH a xs) : SqL K FH' a xs := by
  rcases r with r | r
  · exact .inl (rd_mono h r)
  · exact .inr r
theorem sqT_mono {FH FH' : Hp} (h : ∀ a u, FH a = some u → FH' a = some u) {a : Addr} {xs : List V} (r : SqT K FH a xs) : SqT K FH' a xs := by
  rcases r with r | r
  · exact .inl (rd_mono h r)
  · exact .inr r
mutual
theorem dq_mono {FH FH' : Hp} (h : ∀ a u, FH a = some u → FH' a = some u) : ∀ {v : V} {t : PyData}, Dq K FH v t → Dq K FH' v t
  | _, _, .non => .non
  | _, _, .bl b => .bl b
  | _, _, .int i => .int i
  | _, _, .str x => .str x
  | _, _, .lst q r => .lst (sqL_mono h q) (dqAll_mono h r)
  | _, _, .tup q r => .tup (sqT_mono h q) (dqAll_mono h r)
theorem dqAll_mono {FH FH' : Hp} (h : ∀ a u, FH a = some u → FH' a = some u) : ∀ {vs : List V} {ts : List PyData}, DqAll K FH vs ts → DqAll K FH' vs ts
  | _, _, .nil => .nil
  | _, _, .cons r q => .cons (dq_mono h r) (dqAll_mono h q)
end
mutual
theorem Rep.mono (e1 : ∀ (n : Nat) (a : Addr), o.rho[n]? = some a → o1.rho[n]? = some a) (e2 : ∀ a u, o.FH a = some u → o1.FH a = some u) : ∀ {t : T} {v : V}, Rep K o t v → Rep K o1 t v
  | _, _, .d h c => .d (dq_mono e2 h) c
  | _, _, .tup q r => .tup (sqT_mono e2 q) (Reps.mono e1 e2 r)
  | _, _, .lst q r => .lst (sqL_mono e2 q) (Reps.mono e1 e2 r)
  | _, _, .obj h => .obj (e1 _ _ h)
theorem Reps.mono (e1 : ∀ (n : Nat) (a : Addr), o.rho[n]? = some a → o1.rho[n]? = some a) (e2 : ∀ a u, o.FH a = some u → o1.FH a = some u) : ∀ {ts : List T} {vs : List V}, Reps K o ts vs → Reps K o1 ts vs
  | _, _, .nil => .nil
  | _, _, .cons r q => .cons (Rep.mono e1 e2 r) (Reps.mono e1 e2 q)
end
theorem Rep.ext (e : Ext o H o1 H1) {t : T} {v : V} (r : Rep K o t v) : Rep K o1 t v := r.mono e.rho e.fh
theorem Reps.ext (e : Ext o H o1 H1) {ts : List T} {vs : List V} (r : Reps K o ts vs) : Reps K o1 ts vs := r.mono e.rho e.fh
theorem SRel.ext (e : Ext o H o1 H1) {sg : Sg} {σ : L2.St} (r : SRel K o sg σ) : SRel K o1 sg σ := ⟨r.1, fun i t h => let ⟨v, h1, h2⟩ := r.2 i t h; ⟨v, h1, h2.ext e⟩⟩

/-! ### lists of values -/
theorem Reps.length : ∀ {ts : List T} {vs : List V}, Reps K o ts vs → ts.length = vs.length
  | _, _, .nil => rfl
  | _, _, .cons _ q => by simp [Reps.length q]
theorem Reps.append : ∀ {ts us : List T} {vs ws : List V}, Reps K o ts vs → Reps K o us ws → Reps K o (ts ++ us) (vs ++ ws)
  | _, _, _, _, .nil, q => q
  | _, _, _, _, .cons r q, q' => .cons r (Reps.append q q')
theorem Reps.get : ∀ {ts : List T} {vs : List V} {i : Nat} {t : T}, Reps K o ts vs → ts[i]? = some t → ∃ v, vs[i]? = some v ∧ Rep K o t v
  | _, _, _, _, .nil, h => by simp at h
  | _, _, 0, _, .cons r _, h => by simp at h; subst h; exact ⟨_, rfl, r⟩
  | _, _, i + 1, _, .cons _ q, h => by
    obtain ⟨v, h1, h2⟩ := Reps.get (i := i) q (by simpa using h)
    exact ⟨v, by simpa using h1, h2⟩
theorem Reps.getV : ∀ {ts : List T} {vs : List V} {i : Nat} {v : V}, Reps K o ts vs → vs[i]? = some v → ∃ t, ts[i]? = some t ∧ Rep K o t v
  | _, _, _, _, .nil, h => by simp at h
  | _, _, 0, _, .cons r _, h => by simp at h; subst h; exact ⟨_, rfl, r⟩
  | _, _, i + 1, _, .cons _ q, h => by
    obtain ⟨v, h1, h2⟩ := Reps.getV (i := i) q (by simpa using h)
    exact ⟨v, by simpa using h1, h2⟩
theorem Reps.set : ∀ {ts : List T} {vs : List V} {t : T} {v : V} (i : Nat), Rep K o t v → Reps K o ts vs → Reps K o (ts.set i t) (vs.set i v)
  | _, _, _, _, _, _, .nil => .nil
  | _, _, _, _, 0, r, .cons _ q => .cons r q
  | _, _, _, _, i + 1, r, .cons r' q => .cons r' (Reps.set i r q)
theorem Reps.take : ∀ {ts : List T} {vs : List V} (n : Nat), Reps K o ts vs → Reps K o (ts.take n) (vs.take n)
  | _, _, 0, _ => .nil
  | _, _, _ + 1, .nil => .nil
  | _, _, n + 1, .cons r q => .cons r (Reps.take n q)
theorem Reps.drop : ∀ {ts : List T} {vs : List V} (n : Nat), Reps K o ts vs → Reps K o (ts.drop n) (vs.drop n)
  | _, _, 0, q => q
  | _, _, _ + 1, .nil => .nil
  | _, _, n + 1, .cons _ q => Reps.drop n q
theorem Reps.eraseIdx : ∀ {ts : List T} {vs : List V} (n : Nat), Reps K o ts vs → Reps K o (ts.eraseIdx n) (vs.eraseIdx n)
  | _, _, _, .nil => .nil
  | _, _, 0, .cons _ q => q
  | _, _, n + 1, .cons r q => .cons r (Reps.eraseIdx n q)
theorem Reps.dropLast : ∀ {ts : List T} {vs : List V}, Reps K o ts vs → Reps K o ts.dropLast vs.dropLast
  | _, _, .nil => .nil
  | _, _, .cons _ .nil => .nil
  | _, _, .cons r (.cons r' q) => .cons r (Reps.dropLast (.cons r' q))
theorem dqAll_reps : ∀ {ds : List PyData} {vs : List V}, DqAll K o.FH vs ds → PyData.canLayAll0 ds = true → Reps K o (ds.map .d) vs
  | _, _, .nil, _ => .nil
  | _, _, .cons r q, h => by
    simp only [PyData.canLayAll0, Bool.and_eq_true] at h
    exact .cons (.d r h.1) (dqAll_reps q h.2)
theorem Reps.dqAll : ∀ {ts : List T} {ds : List PyData} {vs : List V}, allD ts = some ds → Reps K o ts vs → DqAll K o.FH vs ds ∧ PyData.canLayAll0 ds = true
  | [], _, _, h, r => by cases h; cases r; exact ⟨.nil, by simp [PyData.canLayAll0]⟩
  | .d t :: ts, ds, vs, h, r => by
    cases r with
    | cons r q =>
      unfold allD at h
      split at h
      · rename_i us e
        cases h
        cases r with
        | d r c =>
          obtain ⟨h1, h2⟩ := Reps.dqAll e q
          exact ⟨.cons r h1, by simp only [PyData.canLayAll0, Bool.and_eq_true]; exact ⟨c, h2⟩⟩
      · cases h
  | .tup _ :: _, _, _, h, _ => by simp [allD] at h
  | .lst _ :: _, _, _, h, _ => by simp [allD] at h
  | .obj _ :: _, _, _, h, _ => by simp [allD] at h
theorem rep_mkLst {ts : List T} {a : Addr} {vs : List V} (q : Rd o.FH a (.lst vs)) (r : Reps K o ts vs) : Rep K o (mkLst ts) (.ref a) := by
  unfold mkLst
  split
  · rename_i ds e
    obtain ⟨h1, h2⟩ := r.dqAll e
    exact .d (.lst (.inl q) h1) (by simpa [PyData.canLay0] using h2)
  · exact .lst (.inl q) r
theorem rep_mkTup {ts : List T} {a : Addr} {vs : List V} (q : SqT K o.FH a vs) (r : Reps K o ts vs) : Rep K o (mkTup ts) (.ref a) := by
  unfold mkTup
  split
  · rename_i ds e
    obtain ⟨h1, h2⟩ := r.dqAll e
    exact .d (.tup q h1) (by simpa [PyData.canLay0] using h2)
  · exact .tup q r

/-! ### reading through the store -/
/-- what is read as a list in H: its items -/
theorem rd_lenOk {FH : Hp} (fl : ∀ a u, FH a = some u → lenOk u) {a : Addr} {vs : List V} (h : Rd FH a (.lst vs)) : vs.length ≤ sizeLine := by
  rcases h with h | ⟨o, h⟩
  · exact fl _ _ h
  · exact fl _ _ h
theorem sqT_lenOk {FH : Hp} (fl : ∀ a u, FH a = some u → lenOk u) {a : Addr} {vs : List V} (h : SqT K FH a vs) : vs.length ≤ sizeLine := by
  rcases h with (h | ⟨o, h⟩) | ⟨o, its, n, _, _, _, hz, r⟩
  · exact fl _ _ h
  · exact fl _ _ h
  · have := r.length
    simp only [Array.length_toList] at this
    omega
theorem HRel.at (R : HRel K o S H) {n : Nat} {c : Cell} (h : S[n]? = some c) : ∃ a, o.rho[n]? = some a := by
  have : n < o.rho.length := by rw [R.dom]; exact (List.getElem?_eq_some_iff.mp h).1
  exact ⟨o.rho[n], by simp [this]⟩
theorem Rep.norm (R : HRel K o S H) {t : T} {v : V} (r : Rep K o t v) : Rep K o (norm S t) v := by
  unfold Mc.norm
  split
  · rename_i n
    split
    · rename_i t e
      cases r with
      | obj h => exact R.fz n t _ e h
    · exact r
  · exact r
theorem sqL_lenOk {FH : Hp} (fl : ∀ a u, FH a = some u → lenOk u) {a : Addr} {vs : List V} (h : SqL K FH a vs) : vs.length ≤ sizeLine := by
  rcases h with h | ⟨o, its, n, _, _, _, _, hz, r⟩
  · exact rd_lenOk fl h
  · have := r.length
    simp only [Array.length_toList] at this
    omega
theorem rep_lstOf (R : HRel K o S H) {t : T} {v : V} {ts : List T} (r : Rep K o t v) (h : lstOf S t = some ts) : ∃ a vs, v = .ref a ∧ SqL K H a vs ∧ vs.length ≤ sizeLine ∧ Reps K o ts vs := by
  unfold lstOf at h
  split at h
  · cases h
    cases r with
    | d r c =>
      cases r with
      | lst q r => exact ⟨_, _, rfl, sqL_mono R.sub q, sqL_lenOk R.fl q, dqAll_reps r (by simpa [PyData.canLay0] using c)⟩
  · cases h
    cases r with
    | lst q r => exact ⟨_, _, rfl, sqL_mono R.sub q, sqL_lenOk R.fl q, r⟩
  · rename_i n
    cases r with
    | obj hr =>
      split at h
      · rename_i us e
        cases h
        obtain ⟨_, vs, h1, hz, h2⟩ := R.lst n _ _ e hr
        exact ⟨_, vs, rfl, (.inl (.of h1)), hz, h2⟩
      · rename_i ds e
        cases h
        have q := R.fz n _ _ e hr
        cases q with
        | d r c =>
          cases r with
          | lst q r => exact ⟨_, _, rfl, sqL_mono R.sub q, sqL_lenOk R.fl q, dqAll_reps r (by simpa [PyData.canLay0] using c)⟩
      · cases h
  · cases h
theorem rep_tupOf (R : HRel K o S H) {t : T} {v : V} {ts : List T} (r : Rep K o t v) (h : tupOf t = some ts) : ∃ a vs, v = .ref a ∧ SqT K H a vs ∧ Reps K o ts vs ∧ SqT K o.FH a vs := by
  unfold tupOf at h
  split at h
  · cases h
    cases r with
    | d r c =>
      cases r with
      | tup q r => exact ⟨_, _, rfl, sqT_mono R.sub q, dqAll_reps r (by simpa [PyData.canLay0] using c), q⟩
  · cases h
    cases r with
    | tup q r => exact ⟨_, _, rfl, sqT_mono R.sub q, r, q⟩
  · cases h
theorem rep_seqOf (R : HRel K o S H) {t : T} {v : V} {ts : List T} (r : Rep K o t v) (h : seqOf S t = some ts) : ∃ a vs, v = .ref a ∧ (SqL K H a vs ∨ SqT K H a vs) ∧ vs.length ≤ sizeLine ∧ Reps K o ts vs := by
  unfold seqOf at h
  split at h
  · rename_i us e
    cases h
    obtain ⟨a, vs, h1, h2, h3, h4⟩ := rep_lstOf R r e
    exact ⟨a, vs, h1, .inl h2, h3, h4⟩
  · obtain ⟨a, vs, h1, h2, h3, h4⟩ := rep_tupOf R r h
    exact ⟨a, vs, h1, .inr h2, sqT_lenOk R.fl h4, h3⟩
theorem mapO_dp {f : T → Option PyData} : ∀ {ts : List T} {ds : List PyData} {vs : List V}, (∀ t v d, Rep K o t v → f t = some d → Dp K H v d ∧ d.canLay0 = true) → Reps K o ts vs → mapO f ts = some ds → DpAll K H vs ds ∧ PyData.canLayAll0 ds = true
  | [], ds, vs, _, r, h => by
    cases r
    cases h
    exact ⟨.nil, by simp [PyData.canLayAll0]⟩
  | t :: ts, ds, vs, hf, r, h => by
    cases r with
    | cons r q =>
      unfold mapO at h
      split at h
      · rename_i d e
        split at h
        · rename_i es e2
          cases h
          obtain ⟨h1, h2⟩ := hf _ _ _ r e
          obtain ⟨h3, h4⟩ := mapO_dp hf q e2
          exact ⟨.cons h1 h3, by simp only [PyData.canLayAll0, Bool.and_eq_true]; exact ⟨h2, h4⟩⟩
        · cases h
      · cases h
theorem rep_snap (R : HRel K o S H) : ∀ (k : Nat) (t : T) (v : V) (d : PyData), Rep K o t v → snap S k t = some d → Dp K H v d ∧ d.canLay0 = true := by
  intro k
  induction k with
  | zero =>
    intro t v d r h
    cases t with
    | d t =>
      simp only [snap, Option.some.injEq] at h
      subst h
      cases r with
      | d r c => exact ⟨(dq_mono R.sub r).dp, c⟩
    | _ => simp [snap] at h
  | succ k ih =>
    intro t v d r h
    unfold snap at h
    cases r with
    | d r c =>
      simp only [Option.some.injEq] at h
      subst h
      exact ⟨(dq_mono R.sub r).dp, c⟩
    | tup q r =>
      simp only [Option.map_eq_some_iff] at h
      obtain ⟨ds, e, rfl⟩ := h
      obtain ⟨h1, h2⟩ := mapO_dp ih r e
      exact ⟨.tup (sqT_mono R.sub q) h1, by simpa [PyData.canLay0] using h2⟩
    | lst q r =>
      simp only [Option.map_eq_some_iff] at h
      obtain ⟨ds, e, rfl⟩ := h
      obtain ⟨h1, h2⟩ := mapO_dp ih r e
      exact ⟨.lst (sqL_mono R.sub q) h1, by simpa [PyData.canLay0] using h2⟩
    | @obj n a hr =>
      simp only at h
      split at h
      · rename_i t e
        cases h
        have q := R.fz n _ _ e hr
        cases q with
        | d r c => exact ⟨(dq_mono R.sub r).dp, c⟩
      · rename_i ts e
        simp only [Option.map_eq_some_iff] at h
        obtain ⟨ds, e2, rfl⟩ := h
        obtain ⟨_, vs, h1, _, h2⟩ := R.lst n _ _ e hr
        obtain ⟨h3, h4⟩ := mapO_dp ih h2 e2
        exact ⟨.lst (.of h1) h3, by simpa [PyData.canLay0] using h4⟩
      · cases h
end
end Mc
end

section
set_option Elab.async false
set_option linter.all false
set_option maxRecDepth 100000
set_option maxHeartbeats 4000000
set_option autoImplicit false
/-! McC: wishes, readings by the machine, names, displays, tests -/
namespace Mc
open PySem PySem.Spec PyProof.Rows L2

/-- what is wanted of an exception -/
structure Wsh where
  p : Wd → Hp → Exn → Store → Prop
  mono : ∀ (o : Wd) (H : Hp) (o1 : Wd) (H1 : Hp) (x : Exn) (S : Store), Ext o H o1 H1 → p o H x S → p o1 H1 x S
def Post (K : PySem.W.Frag) (W : Wsh) {a b : Type} (rel : Wd → a → b → Prop) (o : Wd) (H : Hp) (r : R a) (Q : b → Hp → Prop) : Prop := match r with
  | .ok t S' => ∀ (o' : Wd) (v : b) (H' : Hp), Ext o H o' H' → HRel K o' S' H' → rel o' t v → Q v H'
  | .ex x S' => W.p o H x S'
  | .no => False
def mtG (K : PySem.W.Frag) (W : Wsh) {a b : Type} (rel : Wd → a → b → Prop) (d : Sg → Store → R a) : L2.St → Hp → (b → Hp → Prop) → Prop := fun σ H Q =>
  ∃ (o : Wd) (sg : Sg) (S : Store), SRel K o sg σ ∧ HRel K o S H ∧ Post K W rel o H (d sg S) Q
abbrev mt (K : PySem.W.Frag) (W : Wsh) (d : Sg → Store → R T) : TE := mtG K W (Rep K) d
abbrev mts (K : PySem.W.Frag) (W : Wsh) (d : Sg → Store → R (List T)) : TA := mtG K W (Reps K) d
abbrev mtT (K : PySem.W.Frag) (W : Wsh) (d : Sg → Store → R Bool) : TT := mtG K W (fun _ (x y : Bool) => x = y) d

section
variable {K : PySem.W.Frag} {W : Wsh} {o o1 : Wd} {H H1 : Hp} {S S1 : Store} {a b c e : Type} {rel : Wd → a → b → Prop} {rel2 : Wd → c → e → Prop}
theorem Post.ext {r : R a} {Q : b → Hp → Prop} (x : Ext o H o1 H1) (h : Post K W rel o H r Q) : Post K W rel o1 H1 r Q := by
  cases r with
  | ok t S => exact fun o2 v H2 x2 R rv => h o2 v H2 (x.trans R.nd x2) R rv
  | ex y S => exact W.mono _ _ _ _ _ _ x h
  | no => exact h
theorem Post.imp {r : R a} {Q Q' : b → Hp → Prop} (h : Post K W rel o H r Q) (q : ∀ v H, Q v H → Q' v H) : Post K W rel o H r Q' := by
  cases r with
  | ok t S => exact fun o2 v H2 x2 R rv => q _ _ (h o2 v H2 x2 R rv)
  | ex y S => exact h
  | no => exact h
theorem Post.bnd {r : R a} {k : a → Store → R c} {Q : e → Hp → Prop} (h : Post K W rel2 o H (r.bnd k) Q) :
    Post K W rel o H r (fun v H1 => ∃ (o1 : Wd) (t : a) (S1 : Store), Ext o H o1 H1 ∧ HRel K o1 S1 H1 ∧ rel o1 t v ∧ Post K W rel2 o1 H1 (k t S1) Q) := by
  cases r with
  | ok t S => exact fun o1 v H1 x R rv => ⟨o1, t, S, x, R, rv, Post.ext x h⟩
  | ex y S => exact h
  | no => exact h
/-- an answer that changes nothing -/
theorem Post.here {t : a} {v : b} {Q : b → Hp → Prop} (h : Post K W rel o H (.ok t S) Q) (R : HRel K o S H) (r : rel o t v) : Q v H := h o v H Ext.refl R r

/-! ### objects laid and written -/
theorem nodup_snoc {l : List Addr} {p : Addr} (h : l.Nodup) (hp : p ∉ l) : (l ++ [p]).Nodup := by
  rw [List.nodup_append]
  exact ⟨h, by simp, fun a ha b hb => by simp at hb; subst hb; exact fun e => hp (e ▸ ha)⟩
theorem HRel.fhN (R : HRel K o S H) {p : Addr} (hp : H p = none) : o.FH p = none := by
  cases e : o.FH p with
  | none => rfl
  | some u => rw [R.sub p u e] at hp; cases hp
theorem HRel.rhoN (R : HRel K o S H) {p : Addr} (hp : H p = none) : p ∉ o.rho := fun h => by
  obtain ⟨n, hn⟩ := List.getElem?_of_mem h
  obtain ⟨u, e⟩ := R.al n p hn
  rw [hp] at e; cases e
/-- a new thing that never changes -/
theorem HRel.laid (R : HRel K o S H) {p : Addr} {u : HO} (hp : H p = none) (hu : lenOk u) : HRel K ⟨o.rho, upd o.FH p u⟩ S (upd H p u) ∧ Ext o H ⟨o.rho, upd o.FH p u⟩ (upd H p u) := by
  have fp := R.fhN hp
  have up : ∀ x w, o.FH x = some w → upd o.FH p u x = some w := fun x w h => by
    rw [upd_ne (ne_of_none h fp)]; exact h
  refine ⟨⟨fun x w h => ?_, fun x w h => ?_, R.dom, R.nd, fun n x h => ?_, fun n ts x h1 h2 => ?_, fun n t x h1 h2 => ?_⟩, ⟨fun _ _ h => h, fun _ h => .inl h, up, fun x w h => ?_, fun x w h _ => ?_⟩⟩
  · have h' : upd o.FH p u x = some w := h
    by_cases e : x = p
    · subst e; rw [upd_same] at h' ⊢; exact h'
    · rw [upd_ne e] at h' ⊢; exact R.sub x w h'
  · by_cases e : x = p
    · subst e
      have h' : upd o.FH x u x = some w := h
      rw [upd_same] at h'; cases h'; exact hu
    · have h' : upd o.FH p u x = some w := h
      rw [upd_ne e] at h'; exact R.fl x w h'
  · obtain ⟨w, e⟩ := R.al n x h
    exact ⟨w, by rw [upd_ne (ne_of_none e hp)]; exact e⟩
  · obtain ⟨f, vs, e, hz, r⟩ := R.lst n ts x h1 h2
    have ne : x ≠ p := ne_of_none e hp
    exact ⟨by show upd o.FH p u x = none; rw [upd_ne ne]; exact f, vs, by rw [upd_ne ne]; exact e, hz, Reps.mono (o := o) (o1 := ⟨o.rho, upd o.FH p u⟩) (fun _ _ h => h) up r⟩
  · exact Rep.mono (o := o) (o1 := ⟨o.rho, upd o.FH p u⟩) (fun _ _ h => h) up (R.fz n t x h1 h2)
  · by_cases e : x = p
    · subst e; exact .inr (.inl hp)
    · have h' : upd o.FH p u x = some w := h
      rw [upd_ne e] at h'; exact .inl h'
  · rw [upd_ne (ne_of_none h hp)]; exact h
/-- a new thing of the store -/
theorem HRel.made (R : HRel K o S H) {p : Addr} {ts : List T} {vs : List V} (hp : H p = none) (r : Reps K o ts vs) (hz : vs.length ≤ sizeLine) :
    HRel K ⟨o.rho ++ [p], o.FH⟩ (S ++ [.lst ts]) (upd H p (.lst vs)) ∧ Ext o H ⟨o.rho ++ [p], o.FH⟩ (upd H p (.lst vs)) ∧ Rep K ⟨o.rho ++ [p], o.FH⟩ (.obj S.length) (.ref p) := by
  have fp := R.fhN hp
  have np := R.rhoN hp
  have up : ∀ (n : Nat) (x : Addr), o.rho[n]? = some x → (o.rho ++ [p])[n]? = some x := fun n x h => by
    rw [List.getElem?_append_left (List.getElem?_eq_some_iff.mp h).1]; exact h
  have back : ∀ (n : Nat) (x : Addr), (o.rho ++ [p])[n]? = some x → (o.rho[n]? = some x ∧ n < S.length) ∨ (n = S.length ∧ x = p) := fun n x h => by
    by_cases hn : n < o.rho.length
    · rw [List.getElem?_append_left hn] at h; exact .inl ⟨h, by rw [← R.dom]; exact hn⟩
    · rw [List.getElem?_append_right (by omega)] at h
      have : n - o.rho.length = 0 := by
        cases e : n - o.rho.length with
        | zero => rfl
        | succ k => rw [e] at h; simp at h
      rw [this] at h
      simp at h
      exact .inr ⟨by rw [← R.dom]; omega, h.symm⟩
  refine ⟨⟨fun x w h => ?_, R.fl, by simp [R.dom], nodup_snoc R.nd np, fun n x h => ?_, fun n us x h1 h2 => ?_, fun n t x h1 h2 => ?_⟩, ⟨up, fun x h => ?_, fun _ _ h => h, fun _ _ h => .inl h, fun x w h _ => ?_⟩, .obj ?_⟩
  · rw [upd_ne (ne_of_none h fp)]; exact R.sub x w h
  · rcases back n x h with ⟨h, _⟩ | ⟨_, rfl⟩
    · obtain ⟨w, e⟩ := R.al n x h
      exact ⟨w, by rw [upd_ne (ne_of_none e hp)]; exact e⟩
    · exact ⟨_, upd_same⟩
  · rcases back n x h2 with ⟨h, hn⟩ | ⟨rfl, rfl⟩
    · rw [List.getElem?_append_left hn] at h1
      obtain ⟨f, ws, e, hz', r'⟩ := R.lst n us x h1 h
      have ne : x ≠ p := ne_of_none e hp
      exact ⟨f, ws, by rw [upd_ne ne]; exact e, hz', Reps.mono (o := o) (o1 := ⟨o.rho ++ [p], o.FH⟩) up (fun _ _ h => h) r'⟩
    · rw [List.getElem?_append_right (Nat.le_refl _)] at h1
      simp at h1
      subst h1
      exact ⟨fp, vs, upd_same, hz, Reps.mono (o := o) (o1 := ⟨o.rho ++ [x], o.FH⟩) up (fun _ _ h => h) r⟩
  · rcases back n x h2 with ⟨h, hn⟩ | ⟨rfl, rfl⟩
    · rw [List.getElem?_append_left hn] at h1
      exact Rep.mono (o := o) (o1 := ⟨o.rho ++ [p], o.FH⟩) up (fun _ _ h => h) (R.fz n t x h1 h)
    · rw [List.getElem?_append_right (Nat.le_refl _)] at h1
      simp at h1
  · rcases List.mem_append.mp h with h | h
    · exact .inl h
    · simp at h; subst h; exact .inr hp
  · rw [upd_ne (ne_of_none h hp)]; exact h
  · rw [List.getElem?_append_right (by rw [R.dom]; exact Nat.le_refl _)]; simp [R.dom]
theorem nodup_at {l : List Addr} (nd : l.Nodup) {i j : Nat} {x : Addr} (h1 : l[i]? = some x) (h2 : l[j]? = some x) : i = j := by
  obtain ⟨p, e⟩ := List.getElem?_eq_some_iff.mp h1
  obtain ⟨q, e'⟩ := List.getElem?_eq_some_iff.mp h2
  exact (List.getElem_inj nd).mp (e.trans e'.symm)
/-- a thing of the store written -/
theorem HRel.written (R : HRel K o S H) {n : Nat} {us ts : List T} {p : Addr} {vs : List V} (h1 : S[n]? = some (.lst us)) (h2 : o.rho[n]? = some p) (r : Reps K o ts vs) (hz : vs.length ≤ sizeLine) :
    HRel K o (S.set n (.lst ts)) (upd H p (.lst vs)) ∧ Ext o H o (upd H p (.lst vs)) := by
  obtain ⟨fp, ws, hp, _, _⟩ := R.lst n us p h1 h2
  have other : ∀ (m : Nat) (x : Addr), o.rho[m]? = some x → m ≠ n → x ≠ p := fun m x h ne e => ne (nodup_at R.nd (e ▸ h) h2)
  refine ⟨⟨fun x w h => ?_, R.fl, by simp [R.dom], R.nd, fun m x h => ?_, fun m us' x k1 k2 => ?_, fun m t x k1 k2 => ?_⟩, ⟨fun _ _ h => h, fun _ h => .inl h, fun _ _ h => h, fun _ _ h => .inl h, fun x w h hn => ?_⟩⟩
  · rw [upd_ne (fun e : x = p => by subst e; rw [fp] at h; cases h)]; exact R.sub x w h
  · by_cases e : x = p
    · subst e; exact ⟨_, upd_same⟩
    · obtain ⟨w, q⟩ := R.al m x h
      exact ⟨w, by rw [upd_ne e]; exact q⟩
  · by_cases e : m = n
    · subst e
      rw [List.getElem?_set_self (List.getElem?_eq_some_iff.mp h1).1] at k1
      cases k1
      rw [h2] at k2; cases k2
      exact ⟨fp, vs, upd_same, hz, r⟩
    · rw [List.getElem?_set_ne (Ne.symm e)] at k1
      obtain ⟨f, ws', q, hz', r'⟩ := R.lst m us' x k1 k2
      exact ⟨f, ws', by rw [upd_ne (other m x k2 e)]; exact q, hz', r'⟩
  · by_cases e : m = n
    · subst e
      rw [List.getElem?_set_self (List.getElem?_eq_some_iff.mp h1).1] at k1
      cases k1
    · rw [List.getElem?_set_ne (Ne.symm e)] at k1
      exact R.fz m t x k1 k2
  · rw [upd_ne (fun e : x = p => hn (by rw [e]; exact List.mem_of_getElem? h2))]; exact h
/-- what an operation hands back -/
theorem fin_v {hp : Bool} {t : T} {v : V} {Q : VK} (h : Post K W (Rep K) o H (fin hp S (some (.v t))) Q) (R : HRel K o S H) (r : Rep K o t v) : Q v H := h o v H Ext.refl R r
theorem fin_l {hp : Bool} {ts : List T} {vs : List V} {Q : VK} (h : Post K W (Rep K) o H (fin hp S (some (.l ts))) Q) (R : HRel K o S H) (r : Reps K o ts vs) (hz : vs.length ≤ sizeLine) :
    ∀ p, H p = none → Q (.ref p) (upd H p (.lst vs)) := fun p np => by
  unfold fin at h
  cases hp with
  | true =>
    obtain ⟨R', x, r'⟩ := R.made np r hz
    exact h _ _ _ x R' r'
  | false =>
    obtain ⟨R', x⟩ := R.laid (u := .lst vs) np hz
    refine h _ _ _ x R' (rep_mkLst (.of upd_same) (r.ext x))
theorem fin_t {hp : Bool} {ts : List T} {vs : List V} {Q : VK} (h : Post K W (Rep K) o H (fin hp S (some (.v (mkTup ts)))) Q) (R : HRel K o S H) (r : Reps K o ts vs) (hz : vs.length ≤ sizeLine) :
    ∀ p, H p = none → Q (.ref p) (upd H p (.tup vs)) := fun p np => by
  obtain ⟨R', x⟩ := R.laid (u := .tup vs) np hz
  exact h _ _ _ x R' (rep_mkTup (.of upd_same) (r.ext x))
end

/-! ### weaker readings -/
theorem _root_.L2.PE.imp {X : Cx} {e : Expr} {t t' : TE} (h : PE X e t) (q : ∀ σ H Q, t' σ H Q → t σ H Q) : PE X e t' := ⟨fun pins s σ H Q I h' => h.run pins s σ H Q I (q _ _ _ h')⟩
theorem _root_.L2.PT.imp {X : Cx} {e : Expr} {t t' : TT} (h : PT X e t) (q : ∀ σ H Q, t' σ H Q → t σ H Q) : PT X e t' := ⟨fun pins s σ H Q I h' => h.run pins s σ H Q I (q _ _ _ h')⟩
theorem _root_.L2.PW.imp {X : Cx} {e : Expr} {t t' : TT} (h : PW X e t) (q : ∀ σ H Q, t' σ H Q → t σ H Q) : PW X e t' := ⟨fun wh pins s σ H Q I h' => h.run wh pins s σ H Q I (q _ _ _ h')⟩
theorem _root_.L2.PA.imp {X : Cx} {e : List Expr} {t t' : TA} (h : PA X e t) (q : ∀ σ H Q, t' σ H Q → t σ H Q) : PA X e t' := ⟨fun pos pins s σ H Q I h' => h.run pos pins s σ H Q I (q _ _ _ h')⟩
theorem _root_.L2.PS.imp {X : Cx} {e : Stmt} {t t' : TS} (h : PS X e t) (q : ∀ D σ H, t' D σ H → t D σ H) : PS X e t' := ⟨fun pins s σ H D I h' => h.run pins s σ H D I (q _ _ _ h')⟩
theorem _root_.L2.PSs.imp {X : Cx} {e : List Stmt} {t t' : TS} (h : PSs X e t) (q : ∀ D σ H, t' D σ H → t D σ H) : PSs X e t' := ⟨fun pins s σ H D I h' => h.run pins s σ H D I (q _ _ _ h')⟩

/-! ### names, constants, displays -/
section
variable {X : Cx} {W : Wsh} {cf : Nat → List T → Store → R T} {pos : Pos}
/-- a part's reading, then the rest -/
theorem mt_bnd {K : PySem.W.Frag} {a b c e : Type} {rel : Wd → a → b → Prop} {rel2 : Wd → c → e → Prop} {d : Sg → Store → R a} {k : Sg → a → Store → R c} {σ : L2.St} {H : Hp} {Q : e → Hp → Prop}
    (h : mtG K W rel2 (fun sg S => (d sg S).bnd (k sg)) σ H Q) :
    mtG K W rel d σ H (fun v H1 => ∃ (o1 : Wd) (sg : Sg) (t : a) (S1 : Store), SRel K o1 sg σ ∧ HRel K o1 S1 H1 ∧ rel o1 t v ∧ Post K W rel2 o1 H1 (k sg t S1) Q) := by
  obtain ⟨o, sg, S, rs, R, p⟩ := h
  refine ⟨o, sg, S, rs, R, (Post.bnd (rel := rel) p).imp fun v H1 q => ?_⟩
  obtain ⟨o1, t, S1, x, R1, r1, p1⟩ := q
  exact ⟨o1, sg, t, S1, rs.ext x, R1, r1, p1⟩
theorem m_var {i : Nat} {x : Str} (hN : X.N[i]? = some x) (hv : Vis X.env.scope x) (hd : (x == ("__debug__" : Str)) = false) (hc : (x == ("__classdict__" : Str)) = false) : PE X (.Name x pos) (mt X.K W (ev cf (.var i))) := by
  refine (pe_var hN hv hd hc).imp fun σ H Q h => ?_
  obtain ⟨o, sg, S, rs, R, p⟩ := h
  have p : Post X.K W (Rep X.K) o H (asVar sg[i]? S) Q := by unfold ev at p; exact p
  unfold asVar at p
  split at p
  · rename_i t e
    obtain ⟨v, h1, h2⟩ := rs.2 i t e
    exact ⟨v, h1, p.here R (h2.norm R)⟩
  · exact p.elim
theorem m_int {i : Int} {j : Nat} : PE X (.Constant (.int i) j pos) (mt X.K W (ev cf (.lit (.int i)))) := by
  refine pe_int.imp fun σ H Q h => ?_
  obtain ⟨o, sg, S, rs, R, p⟩ := h
  exact p.here R (.d (.int i) (by simp [PyData.canLay0]))
theorem m_bl {b : Bool} {j : Nat} : PE X (.Constant (.bool b) j pos) (mt X.K W (ev cf (.lit (.bool b)))) := by
  refine pe_bl.imp fun σ H Q h => ?_
  obtain ⟨o, sg, S, rs, R, p⟩ := h
  exact p.here R (.d (.bl b) (by simp [PyData.canLay0]))
theorem m_non {j : Nat} : PE X (.Constant .none j pos) (mt X.K W (ev cf (.lit .none))) := by
  refine pe_non.imp fun σ H Q h => ?_
  obtain ⟨o, sg, S, rs, R, p⟩ := h
  exact p.here R (.d .non (by simp [PyData.canLay0]))
theorem m_str {x : Str} {j : Nat} (hx : PyData.canLay0 (.str x) = true) : PE X (.Constant (.str x) j pos) (mt X.K W (ev cf (.lit (.str x)))) := by
  refine pe_str.imp fun σ H Q h => ?_
  obtain ⟨o, sg, S, rs, R, p⟩ := h
  exact p.here R (.d (.str x) hx)
/-- a constant of the module -/
def Known (K : PySem.W.Frag) (t : PyData) (u : Value) : Prop := t.canLay0 = true ∧ ∃ v, RelV v u ∧ Dq K (fun _ => none) v t
theorem m_glob {x : Str} {t : PyData} {u : Value} (hg : Gl X x) (hm : X.mg x = some u) (hk : Known X.K t u) (hd : (x == ("__debug__" : Str)) = false) : PE X (.Name x pos) (mt X.K W (ev cf (.lit t))) := by
  obtain ⟨hc, v, r, dp⟩ := hk
  refine (pe_glob hg hm r hd).imp fun σ H Q h => ?_
  obtain ⟨o, sg, S, rs, R, p⟩ := h
  exact p.here R (.d (dq_mono (fun _ _ h => by cases h) dp) hc)

theorem m_nil : PA X [] (mts X.K W (evs cf .nil)) := by
  refine pa_nil.imp fun σ H Q h => ?_
  obtain ⟨o, sg, S, rs, R, p⟩ := h
  exact p.here R .nil
theorem m_cons {e : Expr} {es : List Expr} {x : Ex} {xs : Exs} (he : PE X e (mt X.K W (ev cf x))) (hes : PA X es (mts X.K W (evs cf xs))) (hs : starEach (e :: es) X.env = (false, eval e X.env) :: starEach es X.env) :
    PA X (e :: es) (mts X.K W (evs cf (.cons x xs))) := by
  refine (pa_cons he hes hs).imp fun σ H Q h => ?_
  unfold evs at h
  refine (mt_bnd (rel := Rep X.K) h) |> fun ⟨o, sg, S, rs, R, p⟩ => ⟨o, sg, S, rs, R, p.imp fun v H1 q => ?_⟩
  obtain ⟨o1, sg1, t, S1, rs1, R1, r1, p1⟩ := q
  refine ⟨o1, sg1, S1, rs1, R1, (Post.bnd (rel := Reps X.K) p1).imp fun vs H2 q2 => ?_⟩
  obtain ⟨o2, ts, S2, x2, R2, r2, p2⟩ := q2
  exact p2.here R2 (.cons (r1.ext x2) r2)
end
end Mc
end

section
set_option Elab.async false
set_option linter.all false
set_option maxRecDepth 100000
set_option maxHeartbeats 4000000
set_option autoImplicit false
/-! McD: operators, displays, tests -/
namespace Mc
open PySem PySem.Spec PyProof.Rows L2

section
variable {K : PySem.W.Frag} {W : Wsh} {o : Wd} {H : Hp} {S : Store}
theorem rep_int {i : Int} {v : V} (r : Rep K o (tI i) v) : v = .int i := by cases r with | d r c => cases r; rfl
theorem rep_bl {b : Bool} {v : V} (r : Rep K o (tB b) v) : v = .bl b := by cases r with | d r c => cases r; rfl
theorem rep_str {x : Str} {v : V} (r : Rep K o (tS x) v) : v = .str x ∧ PyData.canLay0 (.str x) = true := by
  cases r with
  | d r c => cases r; exact ⟨rfl, c⟩
theorem rep_non {v : V} (r : Rep K o tN v) : v = .non := by cases r with | d r c => cases r; rfl
theorem rI {i : Int} : Rep K o (tI i) (.int i) := .d (.int i) (by simp [PyData.canLay0])
theorem rB {b : Bool} : Rep K o (tB b) (.bl b) := .d (.bl b) (by simp [PyData.canLay0])
theorem rN : Rep K o tN .non := .d .non (by simp [PyData.canLay0])
theorem rS {x : Str} (h : PyData.canLay0 (.str x) = true) : Rep K o (tS x) (.str x) := .d (.str x) h

/-! ### readings of operations by values -/
def rO (K : PySem.W.Frag) (W : Wsh) (hp : Bool) (g : Store → T → T → Option O) : R2 := fun x y H Q =>
  ∃ (o : Wd) (S : Store) (tx ty : T), HRel K o S H ∧ Rep K o tx x ∧ Rep K o ty y ∧ Post K W (Rep K) o H (fin hp S (g S tx ty)) Q
def rC1 (K : PySem.W.Frag) (W : Wsh) (hp : Bool) (g : Store → T → Option O) : List V → Hp → VK → Prop := fun xs H Q =>
  ∃ (o : Wd) (S : Store) (ts : List T) (t : T), HRel K o S H ∧ Reps K o ts xs ∧ ts = [t] ∧ Post K W (Rep K) o H (fin hp S (g S t)) Q
def rC2 (K : PySem.W.Frag) (W : Wsh) (hp : Bool) (g : Store → T → T → Option O) : List V → Hp → VK → Prop := fun xs H Q =>
  ∃ (o : Wd) (S : Store) (ts : List T) (tx ty : T), HRel K o S H ∧ Reps K o ts xs ∧ ts = [tx, ty] ∧ Post K W (Rep K) o H (fin hp S (g S tx ty)) Q
theorem no_fin {hp : Bool} {Q : VK} (h : Post K W (Rep K) o H (fin hp S none) Q) : False := h
theorem ev_u {cf : Nat → List T → Store → R T} (hp : Bool) (p : U1) (a : Ex) : ev cf (.u hp p a) = fun sg S => (ev cf a sg S).bnd fun t S1 => fin hp S1 (u1 p S1 t) := by funext sg S; rw [ev]
theorem ev_b {cf : Nat → List T → Store → R T} (hp : Bool) (p : B2) (a b : Ex) : ev cf (.b hp p a b) = fun sg S => (ev cf a sg S).bnd fun x S1 => (ev cf b sg S1).bnd fun y S2 => fin hp S2 (b2 p S2 x y) := by funext sg S; rw [ev]
end

section
variable {X : Cx} {W : Wsh} {cf : Nat → List T → Store → R T} {pos : Pos} {a b : Expr} {xa xb : Ex} {hp : Bool}
/-- two parts, then an operation by values -/
theorem mt_two {K : PySem.W.Frag} {da db : Sg → Store → R T} {k : T → T → Store → R T} {σ : L2.St} {H : Hp} {Q : VK}
    (h : mt K W (fun sg S => (da sg S).bnd fun x S1 => (db sg S1).bnd fun y S2 => k x y S2) σ H Q) :
    mt K W da σ H fun x H1 => mt K W db σ H1 fun y H2 => ∃ (o : Wd) (S : Store) (tx ty : T), HRel K o S H2 ∧ Rep K o tx x ∧ Rep K o ty y ∧ Post K W (Rep K) o H2 (k tx ty S) Q := by
  refine (mt_bnd (rel := Rep K) (k := fun sg x S1 => (db sg S1).bnd fun y S2 => k x y S2) h) |> fun ⟨o, sg, S, rs, R, p⟩ => ⟨o, sg, S, rs, R, p.imp fun v H1 q => ?_⟩
  obtain ⟨o1, sg1, t, S1, rs1, R1, r1, p1⟩ := q
  refine ⟨o1, sg1, S1, rs1, R1, (Post.bnd (rel := Rep K) p1).imp fun v2 H2 q2 => ?_⟩
  obtain ⟨o2, t2, S2, x2, R2, r2, p2⟩ := q2
  exact ⟨o2, S2, t, t2, R2, r1.ext x2, r2, p2⟩
theorem m_bin {op : Operator} {p : B2} (ho : OpR X (binaryOp op) (rO X.K W hp (b2 p))) (ha : PE X a (mt X.K W (ev cf xa))) (hb : PE X b (mt X.K W (ev cf xb))) :
    PE X (.BinOp a op b pos) (mt X.K W (ev cf (.b hp p xa xb))) := by
  rw [ev_b]
  refine (pe_op ho ha hb).imp fun σ H Q h => ?_
  exact mt_two (k := fun x y S2 => fin hp S2 (b2 p S2 x y)) h
theorem m_cmp {op : CmpOp} {p : B2} (ho : OpR X (compareOp op) (rO X.K W hp (b2 p))) (ha : PE X a (mt X.K W (ev cf xa))) (hb : PE X b (mt X.K W (ev cf xb))) (hm : behindInMarks op b = false) :
    PE X (.Compare a [op] [b] pos) (mt X.K W (ev cf (.b hp p xa xb))) := by
  rw [ev_b]
  refine (pe_cmpR ho ha hb hm).imp fun σ H Q h => ?_
  exact mt_two (k := fun x y S2 => fin hp S2 (b2 p S2 x y)) h
theorem m_idx {p : B2} (ho : IxR X (rO X.K W hp (b2 p))) (ha : PE X a (mt X.K W (ev cf xa))) (hb : PE X b (mt X.K W (ev cf xb))) (hs : PlainIx b) :
    PE X (.Subscript a b pos) (mt X.K W (ev cf (.b hp p xa xb))) := by
  rw [ev_b]
  refine (pe_ix ho ha hb hs).imp fun σ H Q h => ?_
  exact mt_two (k := fun x y S2 => fin hp S2 (b2 p S2 x y)) h
theorem m_un {op : UnaryOp} {p : U1} (ho : UnR X (unaryOp op) (fun x H Q => ∃ (o : Wd) (S : Store) (t : T), HRel X.K o S H ∧ Rep X.K o t x ∧ Post X.K W (Rep X.K) o H (fin hp S (u1 p S t)) Q)) (ha : PE X a (mt X.K W (ev cf xa))) :
    PE X (.UnaryOp op a pos) (mt X.K W (ev cf (.u hp p xa))) := by
  rw [ev_u]
  refine (pe_un ho ha).imp fun σ H Q h => ?_
  refine (mt_bnd (rel := Rep X.K) (k := fun _ t S1 => fin hp S1 (u1 p S1 t)) h) |> fun ⟨o, sg, S, rs, R, q⟩ => ⟨o, sg, S, rs, R, q.imp fun v H1 q => ?_⟩
  obtain ⟨o1, sg1, t, S1, rs1, R1, r1, p1⟩ := q
  exact ⟨o1, S1, t, R1, r1, p1⟩

/-! ### arithmetic -/
theorem line_size : line ≤ sizeLine := by decide
theorem strOk_append {x y : Str} (h1 : PyData.canLay0 (.str x) = true) (h2 : PyData.canLay0 (.str y) = true) : PyData.canLay0 (.str (x ++ y)) = true := by
  simp only [PyData.canLay0, PyData.strOk] at h1 h2 ⊢
  show ((x ++ y : Str).cps).all _ = true
  have e : (x ++ y : Str).cps = x.cps ++ y.cps := rfl
  rw [e, Array.all_append, h1, h2]; rfl
theorem rd_isL {pins : List (Addr × Obj)} {σ : L2.St} {H : Hp} {s : Shared} {l : Addr} {xs : List V} (I : Inv X pins σ H s) (h : Rd H l (.lst xs)) :
    xs.length ≤ sizeLine ∧ ∃ (its : List Value) (n : Nat), Vals xs its ∧ xs.length = its.length ∧ s.heap.get? l = some { cls := .type "list", data := .seq its.toArray n } := by
  obtain ⟨z, its, n, r, e⟩ := h.ok I.hok
  exact ⟨z, its, n, r, r.length, e⟩
theorem op_catG : OpR X (binaryOp .Add) (fun x y H Q => ∃ l b xs zs, x = .ref l ∧ y = .ref b ∧ SqL X.K H l xs ∧ SqL X.K H b zs ∧ xs.length + zs.length ≤ sizeLine ∧ ∀ p, H p = none → Q (.ref p) (upd H p (.lst (xs ++ zs)))) := by
  intro pins s σ H x y v u Q I rx ry h
  obtain ⟨l, b, xs, zs, rfl, rfl, hH, hB, hz, q⟩ := h
  cases rx
  cases ry
  obtain ⟨its, r, ⟨⟨c1, d1, t1, sl1⟩, n, e, hc, hd, ht⟩, z⟩ := I.list hH
  obtain ⟨its2, r2, ⟨⟨c2, d2, t2, sl2⟩, n2, e2, hc2, hd2, ht2⟩, z2⟩ := I.list hB
  simp only at hc hd ht hc2 hd2 ht2
  subst hc hd ht hc2 hd2 ht2
  have l1 := r.length
  have l2 := r2.length
  have ea : its.toArray ++ its2.toArray = (its ++ its2).toArray := by simp
  refine concat_meets ⟨_, e, rfl⟩ ⟨_, e2, rfl⟩ noFill_list_add seq_list_add PySem.F.slot_list_add PySem.F.entry_list_add (PySem.F.args_list_add_2 _ _) (list_addW l b its.toArray its2.toArray n n2 none none sl1 sl2 (by rw [List.size_toArray, List.size_toArray]; omega)) ⟨e, e2, ?_⟩
  rw [ea]
  exact ⟨.ref _, _, I.lnew (t' := s.toks) (r.append r2) (by rw [List.length_append]; omega), rfl, q _ I.fresh⟩
theorem o_add : OpR X (binaryOp .Add) (rO X.K W hp (b2 .add)) := by
  intro pins s σ H x y v u Q I rx ry h
  obtain ⟨o, S, tx, ty, R, r1, r2, p⟩ := h
  unfold b2 at p
  simp only at p
  split at p
  · cases rep_int r1
    cases rep_int r2
    exact op_add pins s σ H _ _ v u Q I rx ry ⟨_, _, rfl, rfl, fin_v p R rI⟩
  · obtain ⟨rfl, c1⟩ := rep_str r1
    obtain ⟨rfl, c2⟩ := rep_str r2
    split at p
    · rename_i hz
      exact op_add_str pins s σ H _ _ v u Q I rx ry ⟨_, _, rfl, rfl, Nat.le_trans hz line_size, fin_v p R (rS (strOk_append c1 c2))⟩
    · exact (no_fin p).elim
  · split at p
    · rename_i xs ys e1 e2
      split at p
      · rename_i hz
        obtain ⟨l, vs, rfl, h1, _, q1⟩ := rep_lstOf R r1 e1
        obtain ⟨b, ws, rfl, h2, _, q2⟩ := rep_lstOf R r2 e2
        have hz' : vs.length + ws.length ≤ sizeLine := by
          rw [← q1.length, ← q2.length]; exact Nat.le_trans hz line_size
        exact op_catG pins s σ H _ _ v u Q I rx ry ⟨_, _, _, _, rfl, rfl, h1, h2, hz', fin_l p R (q1.append q2) (by rw [List.length_append]; exact hz')⟩
      · exact (no_fin p).elim
    · split at p
      · rename_i a xs ys e1 e2
        split at p
        · rename_i hz
          obtain ⟨l, vs, rfl, h1, q1, f1⟩ := rep_tupOf R r1 e1
          obtain ⟨b, ws, rfl, h2, q2, f2⟩ := rep_tupOf R r2 e2
          have e3 := q1.length
          have e4 := q2.length
          simp only [List.length_cons] at e3
          have hz' : vs.length + ws.length ≤ sizeLine := by
            have := line_size
            omega
          refine op_catT pins s σ H _ _ v u Q I rx ry ⟨_, _, _, _, rfl, rfl, h1, h2, fun z => by rw [z] at e3; simp at e3, hz', fun z => ?_, fun z => ?_⟩
          · subst z
            have : ys = [] := List.eq_nil_of_length_eq_zero (by simpa using e4)
            subst this
            rw [List.append_nil] at p
            exact fin_v p R (rep_mkTup f1 q1)
          · exact fin_t p R (q1.append q2) (by rw [List.length_append]; exact hz')
        · exact (no_fin p).elim
      · exact (no_fin p).elim
theorem o_sub : OpR X (binaryOp .Sub) (rO X.K W hp (b2 .sub)) := by
  intro pins s σ H x y v u Q I rx ry h
  obtain ⟨o, S, tx, ty, R, r1, r2, p⟩ := h
  unfold b2 at p
  simp only at p
  split at p
  · cases rep_int r1
    cases rep_int r2
    exact op_sub pins s σ H _ _ v u Q I rx ry ⟨_, _, rfl, rfl, fin_v p R rI⟩
  · exact (no_fin p).elim
theorem o_mul : OpR X (binaryOp .Mult) (rO X.K W hp (b2 .mul)) := by
  intro pins s σ H x y v u Q I rx ry h
  obtain ⟨o, S, tx, ty, R, r1, r2, p⟩ := h
  unfold b2 at p
  simp only at p
  split at p
  · split at p
    · rename_i hs
      cases rep_int r1
      cases rep_int r2
      refine op_mul pins s σ H _ _ v u Q I rx ry ⟨_, _, rfl, rfl, ?_, fin_v p R rI⟩
      simp only [small, Bool.or_eq_true, Bool.and_eq_true, decide_eq_true_eq] at hs
      exact hs
    · exact (no_fin p).elim
  · exact (no_fin p).elim
theorem o_fdiv : OpR X (binaryOp .FloorDiv) (rO X.K W hp (b2 .fdiv)) := by
  intro pins s σ H x y v u Q I rx ry h
  obtain ⟨o, S, tx, ty, R, r1, r2, p⟩ := h
  unfold b2 at p
  simp only at p
  split at p
  · split at p
    · rename_i hs
      cases rep_int r1
      cases rep_int r2
      simp only [Bool.and_eq_true, decide_eq_true_eq] at hs
      exact op_fdiv pins s σ H _ _ v u Q I rx ry ⟨_, _, rfl, rfl, hs, fin_v p R rI⟩
    · exact (no_fin p).elim
  · exact (no_fin p).elim
theorem o_mod : OpR X (binaryOp .Mod) (rO X.K W hp (b2 .mod)) := by
  intro pins s σ H x y v u Q I rx ry h
  obtain ⟨o, S, tx, ty, R, r1, r2, p⟩ := h
  unfold b2 at p
  simp only at p
  split at p
  · split at p
    · rename_i hs
      cases rep_int r1
      cases rep_int r2
      exact op_mod pins s σ H _ _ v u Q I rx ry ⟨_, _, rfl, rfl, hs, fin_v p R rI⟩
    · exact (no_fin p).elim
  · exact (no_fin p).elim
theorem o_pow : OpR X (binaryOp .Pow) (rO X.K W hp (b2 .pow)) := by
  intro pins s σ H x y v u Q I rx ry h
  obtain ⟨o, S, tx, ty, R, r1, r2, p⟩ := h
  unfold b2 at p
  simp only at p
  split at p
  · split at p
    · rename_i hs
      cases rep_int r1
      cases rep_int r2
      simp only [Bool.and_eq_true, decide_eq_true_eq] at hs
      exact op_pow pins s σ H _ _ v u Q I rx ry ⟨_, _, rfl, rfl, ⟨hs.1.1, by omega, hs.2⟩, fin_v p R rI⟩
    · exact (no_fin p).elim
  · exact (no_fin p).elim
theorem o_neg : UnR X (unaryOp .USub) (fun x H Q => ∃ (o : Wd) (S : Store) (t : T), HRel X.K o S H ∧ Rep X.K o t x ∧ Post X.K W (Rep X.K) o H (fin hp S (u1 .neg S t)) Q) := by
  intro pins s σ H x v Q I rx h
  obtain ⟨o, S, t, R, r, p⟩ := h
  unfold u1 at p
  simp only at p
  split at p
  · cases rep_int r
    exact un_neg pins s σ H _ v Q I rx ⟨_, rfl, fin_v p R rI⟩
  · exact (no_fin p).elim

/-! ### comparisons -/
theorem cmp2_reads {pins : List (Addr × Obj)} {σ : L2.St} {H : Hp} {s : Shared} {o : Wd} {S : Store} {tx ty : T} {x y : V} {v u : Value} {d e : PyData} (I : Inv X pins σ H s) (R : HRel X.K o S H) (rx : RelV x v) (ry : RelV y u) (r1 : Rep X.K o tx x) (r2 : Rep X.K o ty y)
    (h : cmp2 S tx ty = some (d, e)) : (∃ as, Reads s.heap v d as) ∧ (∃ bs, Reads s.heap u e bs) ∧ d.canLay0 = true ∧ e.canLay0 = true ∧ min d.depth e.depth ≤ 60 := by
  unfold cmp2 at h
  split at h
  · rename_i a b e1 e2
    split at h
    · rename_i hd
      cases h
      obtain ⟨h1, c1⟩ := rep_snap R _ _ _ _ r1 e1
      obtain ⟨h2, c2⟩ := rep_snap R _ _ _ _ r2 e2
      exact ⟨Dp.reads I d x v h1 rx, Dp.reads I e y u h2 ry, c1, c2, hd⟩
    · cases h
  · cases h
theorem o_eq (hu : X.A.units + 64 < cLine) : OpR X (compareOp .Eq) (rO X.K W hp (b2 .eq)) := by
  intro pins s σ H x y v u Q I rx ry h
  obtain ⟨o, S, tx, ty, R, r1, r2, p⟩ := h
  unfold b2 at p
  simp only at p
  cases e : cmp2 S tx ty with
  | none => rw [e] at p; exact (no_fin p).elim
  | some w =>
    obtain ⟨d, e'⟩ := w
    rw [e] at p
    obtain ⟨⟨as, q1⟩, ⟨bs, q2⟩, c1, c2, hd⟩ := cmp2_reads I R rx ry r1 r2 e
    exact SeqAt.compareEq_reads q1 q2 c1 c2 (by omega) ⟨.bl _, H, I, rfl, fin_v p R rB⟩
theorem o_ne (hu : X.A.units + 64 < cLine) : OpR X (compareOp .NotEq) (rO X.K W hp (b2 .ne)) := by
  intro pins s σ H x y v u Q I rx ry h
  obtain ⟨o, S, tx, ty, R, r1, r2, p⟩ := h
  unfold b2 at p
  simp only at p
  cases e : cmp2 S tx ty with
  | none => rw [e] at p; exact (no_fin p).elim
  | some w =>
    obtain ⟨d, e'⟩ := w
    rw [e] at p
    obtain ⟨⟨as, q1⟩, ⟨bs, q2⟩, c1, c2, hd⟩ := cmp2_reads I R rx ry r1 r2 e
    exact SeqAt.compareNe_reads q1 q2 c1 c2 (by omega) ⟨.bl _, H, I, rfl, fin_v p R rB⟩
theorem o_le : OpR X (compareOp .LtE) (rO X.K W hp (b2 .le)) := by
  intro pins s σ H x y v u Q I rx ry h
  obtain ⟨o, S, tx, ty, R, r1, r2, p⟩ := h
  unfold b2 at p
  simp only at p
  split at p
  · cases rep_int r1
    cases rep_int r2
    exact op_le pins s σ H _ _ v u Q I rx ry ⟨_, _, rfl, rfl, fin_v p R rB⟩
  · exact (no_fin p).elim
theorem o_ge : OpR X (compareOp .GtE) (rO X.K W hp (b2 .ge)) := by
  intro pins s σ H x y v u Q I rx ry h
  obtain ⟨o, S, tx, ty, R, r1, r2, p⟩ := h
  unfold b2 at p
  simp only at p
  split at p
  · cases rep_int r1
    cases rep_int r2
    exact op_ge pins s σ H _ _ v u Q I rx ry ⟨_, _, rfl, rfl, fin_v p R rB⟩
  · exact (no_fin p).elim
theorem o_is : OpR X (compareOp .Is) (rO X.K W hp (b2 (.is_ false))) := by
  intro pins s σ H x y v u Q I rx ry h
  obtain ⟨o, S, tx, ty, R, r1, r2, p⟩ := h
  unfold b2 at p
  simp only at p
  split at p
  · rename_i a b e
    have r1' := r1.norm R
    rw [e] at r1'
    cases rep_bl r1'
    cases rep_bl r2
    have z : (false ^^ (a == b)) = decide (a = b) := by cases a <;> cases b <;> rfl
    rw [z] at p
    exact op_isBl pins s σ H _ _ v u Q I rx ry ⟨_, _, rfl, rfl, fin_v p R rB⟩
  · exact (no_fin p).elim
theorem o_isn : OpR X (compareOp .IsNot) (rO X.K W hp (b2 (.is_ true))) := by
  intro pins s σ H x y v u Q I rx ry h
  obtain ⟨o, S, tx, ty, R, r1, r2, p⟩ := h
  unfold b2 at p
  simp only at p
  split at p
  · rename_i a b e
    have r1' := r1.norm R
    rw [e] at r1'
    cases rep_bl r1'
    cases rep_bl r2
    have z : (true ^^ (a == b)) = !decide (a = b) := by cases a <;> cases b <;> rfl
    rw [z] at p
    exact op_notBl pins s σ H _ _ v u Q I rx ry ⟨_, _, rfl, rfl, fin_v p R rB⟩
  · exact (no_fin p).elim
/-- in: what is read -/
theorem inD_at {pins : List (Addr × Obj)} {σ : L2.St} {H : Hp} {s : Shared} {o : Wd} {S : Store} {tx ty : T} {x y : V} {v u : Value} {b : Bool} (hu : X.A.units + 64 < cLine) (I : Inv X pins σ H s) (R : HRel X.K o S H) (rx : RelV x v) (ry : RelV y u) (r1 : Rep X.K o tx x) (r2 : Rep X.K o ty y)
    (h : inD S tx ty = some b) {Q : Value → Shared → Prop} {E : Value → Shared → Prop} (neg : Bool) (q : Q (.bool (xor neg b)) s) (hstr : ∀ (c : Nat) (z : Str), x = .str ⟨#[c]⟩ → y = .str z → b = decide (c ∈ z.cps.toList) → wpAny (model X.prog X.w) X.A (compareOp (if neg then .NotIn else .In) v u) Q E s) :
    wpAny (model X.prog X.w) X.A (compareOp (if neg then .NotIn else .In) v u) Q E s := by
  unfold inD at h
  split at h
  · rename_i d ds e1 e2
    split at h
    · rename_i hd
      cases h
      obtain ⟨h1, c1⟩ := rep_snap R _ _ _ _ r1 e1
      obtain ⟨h2, c2⟩ := rep_snap R _ _ _ _ r2 e2
      obtain ⟨as, q1⟩ := Dp.reads I d x v h1 rx
      obtain ⟨bs, q2⟩ := Dp.reads I _ y u h2 ry
      cases neg with
      | false => exact SeqAt.in_list_reads q2 q1 (by simpa [PyData.canLay0] using c2) c1 (by omega) (by simpa using q)
      | true => exact SeqAt.notIn_list_reads q2 q1 (by simpa [PyData.canLay0] using c2) c1 (by omega) (by simpa using q)
    · cases h
  · rename_i d ds e1 e2
    split at h
    · rename_i hd
      cases h
      obtain ⟨h1, c1⟩ := rep_snap R _ _ _ _ r1 e1
      obtain ⟨h2, c2⟩ := rep_snap R _ _ _ _ r2 e2
      obtain ⟨as, q1⟩ := Dp.reads I d x v h1 rx
      obtain ⟨bs, q2⟩ := Dp.reads I _ y u h2 ry
      cases neg with
      | false => exact SeqAt.in_tuple_reads q2 q1 (by simpa [PyData.canLay0] using c2) c1 (by omega) (by simpa using q)
      | true => exact SeqAt.notIn_tuple_reads q2 q1 (by simpa [PyData.canLay0] using c2) c1 (by omega) (by simpa using q)
    · cases h
  · rename_i d e e1 e2
    obtain ⟨h1, c1⟩ := rep_snap R _ _ _ _ r1 e1
    obtain ⟨h2, c2⟩ := rep_snap R _ _ _ _ r2 e2
    cases h1
    cases h2
    split at h
    · rename_i c ec
      cases h
      obtain ⟨⟨l⟩⟩ := d
      simp only at ec
      subst ec
      exact hstr c _ rfl rfl (by rw [← List.elem_eq_contains, List.elem_eq_mem])
    · cases h
  · cases h
theorem o_in (hu : X.A.units + 64 < cLine) : OpR X (compareOp .In) (rO X.K W hp (b2 .in_)) := by
  intro pins s σ H x y v u Q I rx ry h
  obtain ⟨o, S, tx, ty, R, r1, r2, p⟩ := h
  unfold b2 at p
  simp only at p
  cases e : inD S tx ty with
  | none => rw [e] at p; exact (no_fin p).elim
  | some b =>
    rw [e] at p
    refine inD_at hu I R rx ry r1 r2 e false ⟨.bl _, H, I, rfl, by simpa using fin_v p R rB⟩ fun c z e1 e2 e3 => ?_
    subst e3
    exact op_in_sign pins s σ H x y v u Q I rx ry ⟨c, z, e1, e2, fin_v p R rB⟩
theorem o_nin (hu : X.A.units + 64 < cLine) : OpR X (compareOp .NotIn) (rO X.K W hp (b2 .nin)) := by
  intro pins s σ H x y v u Q I rx ry h
  obtain ⟨o, S, tx, ty, R, r1, r2, p⟩ := h
  unfold b2 at p
  simp only at p
  cases e : inD S tx ty with
  | none => rw [e] at p; exact (no_fin p).elim
  | some b =>
    rw [e] at p
    refine inD_at hu I R rx ry r1 r2 e true ⟨.bl _, H, I, rfl, by simpa using fin_v p R rB⟩ fun c z e1 e2 e3 => ?_
    subst e3
    exact op_notIn_sign pins s σ H x y v u Q I rx ry ⟨c, z, e1, e2, fin_v p R rB⟩
end
end Mc
end

section
set_option Elab.async false
set_option linter.all false
set_option maxRecDepth 100000
set_option maxHeartbeats 4000000
set_option autoImplicit false
/-! McE: places, slices, displays, tests, and, or, if, chains -/
namespace Mc
open PySem PySem.Spec PyProof.Rows L2

section
variable {X : Cx} {W : Wsh} {cf : Nat → List T → Store → R T} {pos : Pos} {a b c : Expr} {xa xb xc : Ex} {hp : Bool}
/-! ### places -/
theorem at_rep {K : PySem.W.Frag} {o : Wd} {ts : List T} {vs : List V} {i : Int} {t : T} (r : Reps K o ts vs) (h : at_ ts i = some t) : ∃ v, atI vs i = some v ∧ Rep K o t v := by
  have hl := r.length
  unfold at_ at h
  unfold atI ixN
  split at h
  · rename_i h0
    have hlt : i.toNat < ts.length := (List.getElem?_eq_some_iff.mp h).1
    rw [if_pos h0, if_pos (by omega)]
    exact r.get h
  · rename_i h0
    split at h
    · rename_i h1
      rw [if_neg h0, if_pos (by rw [← hl]; exact h1), ← hl]
      exact r.get h
    · cases h
theorem at_atI {α : Type} {xs : List α} {i : Int} : at_ xs i = atI xs i := by
  unfold at_ atI ixN
  split
  · split
    · rfl
    · exact List.getElem?_eq_none (by omega)
  · split <;> rfl
theorem o_idx : IxR X (rO X.K W hp (b2 .idx)) := by
  intro value slice pins s σ H x y v u Q I rx ry h hs
  obtain ⟨o, S, tx, ty, R, r1, r2, p⟩ := h
  unfold b2 at p
  simp only at p
  split at p
  · rename_i i
    cases rep_int r2
    split at p
    · rename_i ts e
      cases e2 : at_ ts i with
      | none => rw [e2] at p; exact (no_fin p).elim
      | some t =>
        rw [e2] at p
        obtain ⟨l, vs, rfl, h1, _, q1⟩ := rep_seqOf R r1 e
        obtain ⟨w, hw, rw'⟩ := at_rep q1 e2
        have fin := fin_v p R (rw'.norm R)
        rcases h1 with h1 | h1
        · exact ix_list value slice pins s σ H _ _ v u Q I rx ry ⟨_, _, _, _, rfl, rfl, h1, hw, fin⟩ hs
        · exact ix_tup value slice pins s σ H _ _ v u Q I rx ry ⟨_, _, _, _, rfl, rfl, h1, hw, fin⟩ hs
    · split at p
      · rename_i z _
        split at p
        · rename_i hz
          obtain ⟨rfl, c⟩ := rep_str r1
          cases e2 : at_ z.cps.toList i with
          | none => rw [e2] at p; exact (no_fin p).elim
          | some w =>
            rw [e2] at p
            refine ix_str value slice pins s σ H _ _ v u Q I rx ry ⟨_, _, _, rfl, rfl, Nat.le_trans hz line_size, by rw [← at_atI]; exact e2, fin_v p R (rS ?_)⟩ hs
            simp only [PyData.canLay0, PyData.strOk] at c ⊢
            rw [at_atI] at e2
            obtain ⟨j, _, hj, _⟩ := atI_get e2
            have hm : w ∈ z.cps := by
              have := List.mem_of_getElem? hj
              simpa using this
            have := (Array.all_eq_true_iff_forall_mem.mp c) w hm
            simpa using this
        · exact (no_fin p).elim
      · exact (no_fin p).elim
  · exact (no_fin p).elim

/-! ### slices -/
theorem cut_rep {K : PySem.W.Frag} {o : Wd} {ts : List T} {vs : List V} (r : Reps K o ts vs) (lo hi : Option Int) : Reps K o (cut ts lo hi) (cutV vs lo hi) := by
  have hl := r.length
  have e : ∀ n d x, sIx n d x = HT.sIx n d x := fun n d x => by cases x <;> rfl
  unfold cut cutV
  rw [e, e, hl]
  exact (r.drop _).take _
def rSl3 (K : PySem.W.Frag) (W : Wsh) (hp : Bool) : V → Option Int → Option Int → Hp → VK → Prop := fun x lo hi H Q => ∃ (o : Wd) (S : Store) (t : T), HRel K o S H ∧ Rep K o t x ∧ Post K W (Rep K) o H (fin hp S (sl3 S t lo hi)) Q
theorem o_sl3 : SlR X (rSl3 X.K W hp) := by
  intro pins s σ H x v vl vu lo hi sl Q I rx hs pl pu h
  obtain ⟨o, S, t, R, r, p⟩ := h
  unfold sl3 at p
  split at p
  · rename_i ts e
    obtain ⟨l, vs, rfl, h1, hz, q1⟩ := rep_lstOf R r e
    exact sl_list pins s σ H _ v vl vu lo hi sl Q I rx hs pl pu ⟨_, _, rfl, h1, fin_l p R (cut_rep q1 lo hi) (Nat.le_trans (cutV_length _ _ _) hz)⟩
  · split at p
    · rename_i ts e
      obtain ⟨l, vs, rfl, h1, q1, f1⟩ := rep_tupOf R r e
      split at p
      · exact (no_fin p).elim
      · rename_i hw
        have e : ∀ n d x, sIx n d x = HT.sIx n d x := fun n d x => by cases x <;> rfl
        rw [e, e, q1.length] at hw
        refine sl_tup pins s σ H _ v vl vu lo hi sl Q I rx hs pl pu ⟨_, _, rfl, h1, fun z => hw ?_, fin_t p R (cut_rep q1 lo hi) (Nat.le_trans (cutV_length _ _ _) (sqT_lenOk R.fl f1))⟩
        rw [z.1, z.2]
        simp
    · exact (no_fin p).elim
def relO : Wd → Option Int → Option Int → Prop := fun _ x y => x = y
theorem m_ono : PO X none (mtG X.K W relO (evO cf .none)) := by
  refine ⟨fun pins s σ H Q I h => po_none.run pins s σ H Q I ?_⟩
  obtain ⟨o, sg, S, rs, R, p⟩ := h
  exact p.here R rfl
theorem m_osome (ha : PE X a (mt X.K W (ev cf xa))) : PO X (some a) (mtG X.K W relO (evO cf (.some xa))) := by
  refine ⟨fun pins s σ H Q I h => (po_some ha).run pins s σ H Q I ?_⟩
  have e : evO cf (.some xa) = fun sg S => (ev cf xa sg S).bnd fun t S1 => asInt t S1 := by funext sg S; rw [evO]
  rw [e] at h
  refine (mt_bnd (rel := Rep X.K) (k := fun _ t S1 => asInt t S1) h) |> fun ⟨o, sg, S, rs, R, p⟩ => ⟨o, sg, S, rs, R, p.imp fun v H1 q => ?_⟩
  obtain ⟨o1, sg1, t, S1, rs1, R1, r1, p1⟩ := q
  unfold asInt at p1
  split at p1
  · cases rep_int r1
    exact ⟨_, rfl, p1.here R1 rfl⟩
  · exact p1.elim
theorem m_slice {lo hi : Option Expr} {xl xh : Oe} {p2 : Pos} (ha : PE X a (mt X.K W (ev cf xa))) (hl : PO X lo (mtG X.K W relO (evO cf xl))) (hh : PO X hi (mtG X.K W relO (evO cf xh))) :
    PE X (.Subscript a (.Slice lo hi none p2) pos) (mt X.K W (ev cf (.sl hp xa xl xh))) := by
  refine (pe_slice (o_sl3 (W := W) (hp := hp)) ha hl hh).imp fun σ H Q h => ?_
  have e : ev cf (.sl hp xa xl xh) = fun sg S => (ev cf xa sg S).bnd fun t S1 => (evO cf xl sg S1).bnd fun l S2 => (evO cf xh sg S2).bnd fun h S3 => fin hp S3 (sl3 S3 t l h) := by funext sg S; rw [ev]
  rw [e] at h
  refine (mt_bnd (rel := Rep X.K) (k := fun sg t S1 => (evO cf xl sg S1).bnd fun l S2 => (evO cf xh sg S2).bnd fun h S3 => fin hp S3 (sl3 S3 t l h)) h) |> fun ⟨o, sg, S, rs, R, p⟩ => ⟨o, sg, S, rs, R, p.imp fun v H1 q => ?_⟩
  obtain ⟨o1, sg1, t, S1, rs1, R1, r1, p1⟩ := q
  refine ⟨o1, sg1, S1, rs1, R1, (Post.bnd (rel := relO) p1).imp fun l H2 q2 => ?_⟩
  obtain ⟨o2, l', S2, x2, R2, e2, p2⟩ := q2
  cases e2
  refine ⟨o2, sg1, S2, rs1.ext x2, R2, (Post.bnd (rel := relO) p2).imp fun l H3 q3 => ?_⟩
  obtain ⟨o3, h', S3, x3, R3, e3, p3⟩ := q3
  cases e3
  exact ⟨o3, S3, t, R3, (r1.ext x2).ext x3, p3⟩

/-! ### displays -/
def Exs.len : Exs → Nat
  | .nil => 0
  | .cons _ es => es.len + 1
theorem R.bnd_bnd {α β γ : Type} (r : R α) (k : α → Store → R β) (l : β → Store → R γ) : (r.bnd k).bnd l = r.bnd fun x S => (k x S).bnd l := by
  cases r <;> rfl
theorem R.bnd_ok {α β : Type} {r : R α} {k : α → Store → R β} {y : β} {S' : Store} (h : r.bnd k = .ok y S') : ∃ x S1, r = .ok x S1 ∧ k x S1 = .ok y S' := by
  cases r with
  | ok x S1 => exact ⟨x, S1, rfl, h⟩
  | ex x S1 => cases h
  | no => cases h
theorem evs_len : ∀ (es : Exs) (sg : Sg) (S : Store) (ts : List T) (S' : Store), evs cf es sg S = .ok ts S' → ts.length = es.len
  | .nil, sg, S, ts, S', h => by
    unfold evs at h
    cases h
    rfl
  | .cons e es, sg, S, ts, S', h => by
    unfold evs at h
    obtain ⟨t, S1, _, h1⟩ := R.bnd_ok h
    obtain ⟨us, S2, h2, h3⟩ := R.bnd_ok h1
    cases h3
    show us.length + 1 = es.len + 1
    rw [evs_len es sg S1 us _ h2]
/-- argument lists, their number known -/
theorem pa_len {es : List Expr} {xs : Exs} (h : PA X es (mts X.K W (evs cf xs))) : PA X es (mtG X.K W (fun o ts vs => Reps X.K o ts vs ∧ ts.length = xs.len) (evs cf xs)) := by
  refine h.imp fun σ H Q ⟨o, sg, S, rs, R, p⟩ => ⟨o, sg, S, rs, R, ?_⟩
  cases e : evs cf xs sg S with
  | ok ts S1 =>
    rw [e] at p
    exact fun o' v H' x R' r => p o' v H' x R' ⟨r, evs_len xs sg S ts S1 e⟩
  | ex y S1 => rw [e] at p; exact p
  | no => rw [e] at p; exact p
theorem m_tup {es : List Expr} {xs : Exs} {k : Nat} (h : PA X es (mts X.K W (evs cf xs))) (hz : xs.len ≤ line) : PE X (.Tuple es k pos) (mt X.K W (ev cf (.tup xs))) := by
  refine (pe_tup (pa_len h)).imp fun σ H Q h => ?_
  have e : ev cf (.tup xs) = fun sg S => (evs cf xs sg S).bnd fun ts S1 => .ok (mkTup ts) S1 := by funext sg S; rw [ev]
  rw [e] at h
  refine (mt_bnd (rel := fun o ts vs => Reps X.K o ts vs ∧ ts.length = xs.len) (k := fun _ ts S1 => .ok (mkTup ts) S1) h) |> fun ⟨o, sg, S, rs, R, p⟩ => ⟨o, sg, S, rs, R, p.imp fun v H1 q => ?_⟩
  obtain ⟨o1, sg1, ts, S1, rs1, R1, ⟨r1, hl⟩, p1⟩ := q
  have hz' : v.length ≤ sizeLine := by rw [← r1.length, hl]; exact Nat.le_trans hz line_size
  exact ⟨hz', fin_t (hp := false) p1 R1 r1 hz'⟩
theorem m_lst {es : List Expr} {xs : Exs} (h : PA X es (mts X.K W (evs cf xs))) (hz : xs.len ≤ line) : PE X (.List es pos) (mt X.K W (ev cf (.lst hp xs))) := by
  refine (pe_lst (pa_len h)).imp fun σ H Q h => ?_
  have e : ev cf (.lst hp xs) = fun sg S => (evs cf xs sg S).bnd fun ts S1 => fin hp S1 (some (.l ts)) := by funext sg S; rw [ev]
  rw [e] at h
  refine (mt_bnd (rel := fun o ts vs => Reps X.K o ts vs ∧ ts.length = xs.len) (k := fun _ ts S1 => fin hp S1 (some (.l ts))) h) |> fun ⟨o, sg, S, rs, R, p⟩ => ⟨o, sg, S, rs, R, p.imp fun v H1 q => ?_⟩
  obtain ⟨o1, sg1, ts, S1, rs1, R1, ⟨r1, hl⟩, p1⟩ := q
  have hz' : v.length ≤ sizeLine := by rw [← r1.length, hl]; exact Nat.le_trans hz line_size
  exact ⟨hz', fin_l p1 R1 r1 hz'⟩

/-! ### tests -/
theorem truth_rep {K : PySem.W.Frag} {o : Wd} {S : Store} {H : Hp} {t : T} {v : V} {k : Bool} (R : HRel K o S H) (r : Rep K o t v) (h : truth S t = some k) : TruV K v H k := by
  have r' := r.norm R
  unfold truth at h
  split at h
  · rename_i e; cases h; rw [e] at r'; cases rep_non r'; simp [TruV]
  · rename_i e; cases h; rw [e] at r'; cases rep_bl r'; simp [TruV]
  · rename_i e; cases h; rw [e] at r'; cases rep_int r'; simp [TruV]
  · rename_i z e
    split at h
    · rename_i hz
      cases h; rw [e] at r'; obtain ⟨rfl, _⟩ := rep_str r'
      refine ⟨Nat.le_trans hz line_size, ?_⟩
      cases z.length <;> rfl
    · cases h
  · rename_i ds e
    cases h; rw [e] at r'
    cases r' with
    | d r c =>
      cases r with
      | lst q r =>
        refine .inl ⟨_, sqL_mono R.sub q, ?_⟩
        cases r <;> rfl
  · rename_i ds e
    cases h; rw [e] at r'
    cases r' with
    | d r c =>
      cases r with
      | tup q r =>
        refine .inr (.inl ⟨_, sqT_mono R.sub q, ?_⟩)
        cases r <;> rfl
  · rename_i ts e
    cases h; rw [e] at r'
    cases r' with
    | tup q1 r1 =>
      refine .inr (.inl ⟨_, sqT_mono R.sub q1, ?_⟩)
      cases r1 <;> rfl
  · rename_i ts e
    cases h; rw [e] at r'
    cases r' with
    | lst q1 r1 =>
      refine .inl ⟨_, sqL_mono R.sub q1, ?_⟩
      cases r1 <;> rfl
  · rename_i n e
    rw [e] at r'
    split at h
    · rename_i ts e2
      cases h
      cases r' with
      | obj hr =>
        obtain ⟨_, vs, h1, _, r⟩ := R.lst n ts _ e2 hr
        refine .inl ⟨_, .of h1, ?_⟩
        cases r <;> rfl
    · cases h
  · cases h
theorem evT_val (e : Ex) : evT cf (.val e) = fun sg S => (ev cf e sg S).bnd fun t S1 => asTruth t S1 := by funext sg S; rw [evT]
/-- a value as a test -/
theorem m_tval (ha : PE X a (mt X.K W (ev cf xa))) (he : ∀ whole, isTrue a X.env whole = (do let v ← whole; standAt a.pos; holding [v] (truthy v))) : PT X a (mtT X.K W (evT cf (.val xa))) := by
  refine (pt_truth ha he).imp fun σ H Q h => ?_
  rw [evT_val] at h
  refine (mt_bnd (rel := Rep X.K) (k := fun _ t S1 => asTruth t S1) h) |> fun ⟨o, sg, S, rs, R, p⟩ => ⟨o, sg, S, rs, R, p.imp fun v H1 q => ?_⟩
  obtain ⟨o1, sg1, t, S1, rs1, R1, r1, p1⟩ := q
  unfold asTruth at p1
  split at p1
  · rename_i k e
    exact ⟨k, truth_rep R1 r1 e, p1.here R1 rfl⟩
  · exact p1.elim
def isB : B2 → Bool
  | .eq | .ne | .lt | .le | .gt | .ge | .is_ _ | .in_ | .nin => true
  | _ => false
theorem ord2_isB {S : Store} {x y : T} {f : PyData → PyData → Bool} {r : O} (h : ord2 S x y f = some r) : ∃ k, r = .v (tB k) := by
  unfold ord2 at h
  split at h
  · split at h
    · cases h; exact ⟨_, rfl⟩
    · cases h
  · cases h
theorem b2_isB {p : B2} (hp : isB p = true) {S : Store} {x y : T} {r : O} (h : b2 p S x y = some r) : ∃ k, r = .v (tB k) := by
  cases p with
  | eq => simp only [b2, Option.map_eq_some_iff] at h; obtain ⟨_, _, rfl⟩ := h; exact ⟨_, rfl⟩
  | ne => simp only [b2, Option.map_eq_some_iff] at h; obtain ⟨_, _, rfl⟩ := h; exact ⟨_, rfl⟩
  | in_ => simp only [b2, Option.map_eq_some_iff] at h; obtain ⟨_, _, rfl⟩ := h; exact ⟨_, rfl⟩
  | nin => simp only [b2, Option.map_eq_some_iff] at h; obtain ⟨_, _, rfl⟩ := h; exact ⟨_, rfl⟩
  | lt => exact ord2_isB (by simpa only [b2] using h)
  | gt => exact ord2_isB (by simpa only [b2] using h)
  | le =>
    simp only [b2] at h
    split at h
    · cases h; exact ⟨_, rfl⟩
    · cases h
  | ge =>
    simp only [b2] at h
    split at h
    · cases h; exact ⟨_, rfl⟩
    · cases h
  | is_ neg =>
    simp only [b2] at h
    split at h
    · cases h; exact ⟨_, rfl⟩
    · cases h
  | _ => cases hp
theorem fin_isB {K : PySem.W.Frag} {p : B2} (hb : isB p = true) {o : Wd} {S : Store} {H : Hp} {x y : T} {hp : Bool} {Q : VK} (h : Post K W (Rep K) o H (fin hp S (b2 p S x y)) Q) : ∃ k, b2 p S x y = some (.v (tB k)) := by
  cases e : b2 p S x y with
  | none => rw [e] at h; exact h.elim
  | some r =>
    obtain ⟨k, rfl⟩ := b2_isB hb e
    exact ⟨k, rfl⟩
/-- a comparison as a test -/
theorem m_tcmp {op : CmpOp} {q2 : B2} (hb' : isB q2 = true) (ho : OpR X (compareOp op) (rO X.K W hp (b2 q2))) (ha : PE X a (mt X.K W (ev cf xa))) (hb : PE X b (mt X.K W (ev cf xb))) (hm : behindInMarks op b = false) :
    PT X (.Compare a [op] [b] pos) (mtT X.K W (evT cf (.val (.b hp q2 xa xb)))) := by
  refine (pt_cmpR ho ha hb hm).imp fun σ H Q h => ?_
  rw [evT_val, ev_b] at h
  have e : (fun sg S => (((ev cf xa sg S).bnd fun x S1 => (ev cf xb sg S1).bnd fun y S2 => fin hp S2 (b2 q2 S2 x y)).bnd fun t S1 => asTruth t S1))
      = fun sg S => (ev cf xa sg S).bnd fun x S1 => (ev cf xb sg S1).bnd fun y S2 => (fin hp S2 (b2 q2 S2 x y)).bnd fun t S1 => asTruth t S1 := by
    funext sg S
    rw [R.bnd_bnd]
    congr 1; funext x S1
    rw [R.bnd_bnd]
  rw [e] at h
  refine (mt_bnd (rel := Rep X.K) (k := fun sg x S1 => (ev cf xb sg S1).bnd fun y S2 => (fin hp S2 (b2 q2 S2 x y)).bnd fun t S1 => asTruth t S1) h) |> fun ⟨o, sg, S, rs, R, p⟩ => ⟨o, sg, S, rs, R, p.imp fun v H1 q => ?_⟩
  obtain ⟨o1, sg1, t, S1, rs1, R1, r1, p1⟩ := q
  refine ⟨o1, sg1, S1, rs1, R1, (Post.bnd (rel := Rep X.K) p1).imp fun v2 H2 z2 => ?_⟩
  obtain ⟨o2, t2, S2, x2, R2, r2, p2⟩ := z2
  have hk : ∃ k, b2 q2 S2 t t2 = some (.v (tB k)) := by
    cases e : b2 q2 S2 t t2 with
    | none => rw [e] at p2; exact p2.elim
    | some r =>
      obtain ⟨k, rfl⟩ := b2_isB hb' e
      exact ⟨k, rfl⟩
  obtain ⟨k, ek⟩ := hk
  refine ⟨o2, S2, t, t2, R2, r1.ext x2, r2, ?_⟩
  rw [ek] at p2 ⊢
  intro o3 v3 H3 x3 R3 r3
  cases rep_bl r3
  exact ⟨k, rfl, (p2.ext x3).here R3 rfl⟩
end
end Mc
end

section
set_option Elab.async false
set_option linter.all false
set_option maxRecDepth 100000
set_option maxHeartbeats 4000000
set_option autoImplicit false
/-! McF: and, or, not, if, chains, built-ins, methods -/
namespace Mc
open PySem PySem.Spec PyProof.Rows L2

section
variable {X : Cx} {W : Wsh} {cf : Nat → List T → Store → R T} {pos : Pos} {a b c : Expr} {xa xb xc : Ex} {ta tb : Tx} {hp : Bool}
/-- a bool is known after asBool -/
theorem post_bool {K : PySem.W.Frag} {γ δ : Type} {rel2 : Wd → γ → δ → Prop} {o : Wd} {H : Hp} {S : Store} {t : T} {v : V} {k : Bool → Store → R γ} {Q : δ → Hp → Prop} (r : Rep K o t v)
    (h : Post K W rel2 o H ((asBool t S).bnd k) Q) : ∃ d, v = .bl d ∧ Post K W rel2 o H (k d S) Q := by
  unfold asBool at h
  split at h
  · cases rep_bl r; exact ⟨_, rfl, h⟩
  · exact h.elim
/-! ### tests by and, or, not -/
theorem mt_two' {K : PySem.W.Frag} {α β γ δ : Type} {rel : Wd → α → β → Prop} {rel2 : Wd → γ → δ → Prop} {d : Sg → Store → R α} {k : Sg → α → Store → R γ} {σ : L2.St} {H : Hp} {Q : δ → Hp → Prop} {Q' : β → Hp → Prop}
    (h : mtG K W rel2 (fun sg S => (d sg S).bnd (k sg)) σ H Q)
    (q : ∀ (o1 : Wd) (sg : Sg) (t : α) (S1 : Store) (v : β) (H1 : Hp), SRel K o1 sg σ → HRel K o1 S1 H1 → rel o1 t v → Post K W rel2 o1 H1 (k sg t S1) Q → Q' v H1) : mtG K W rel d σ H Q' := by
  obtain ⟨o, sg, S, rs, R, p⟩ := h
  refine ⟨o, sg, S, rs, R, (Post.bnd (rel := rel) p).imp fun v H1 z => ?_⟩
  obtain ⟨o1, t, S1, x, R1, r1, p1⟩ := z
  exact q o1 sg t S1 v H1 (rs.ext x) R1 r1 p1
theorem eqT_and (x y : Tx) : evT cf (.and_ x y) = fun sg S => (evT cf x sg S).bnd fun k S1 => cond k (evT cf y sg S1) (.ok false S1) := by funext sg S; rw [evT]
theorem eqT_or (x y : Tx) : evT cf (.or_ x y) = fun sg S => (evT cf x sg S).bnd fun k S1 => cond k (.ok true S1) (evT cf y sg S1) := by funext sg S; rw [evT]
theorem eqT_not (x : Tx) : evT cf (.not_ x) = fun sg S => (evT cf x sg S).bnd fun k S1 => .ok (!k) S1 := by funext sg S; rw [evT]
theorem mw_and1 (ha : PT X a (mtT X.K W (evT cf ta))) : PW X (.BoolOp .And [a] pos) (mtT X.K W (evT cf ta)) := pw_and1 ha
theorem mw_or1 (ha : PT X a (mtT X.K W (evT cf ta))) : PW X (.BoolOp .Or [a] pos) (mtT X.K W (evT cf ta)) := pw_or1 ha
theorem mw_and {rest : List Expr} (ha : PT X a (mtT X.K W (evT cf ta))) (hb : PW X (.BoolOp .And (b :: rest) pos) (mtT X.K W (evT cf tb))) : PW X (.BoolOp .And (a :: b :: rest) pos) (mtT X.K W (evT cf (.and_ ta tb))) := by
  refine (pw_and ha hb).imp fun σ H Q h => ?_
  rw [eqT_and] at h
  refine mt_two' (k := fun sg k S1 => cond k (evT cf tb sg S1) (.ok false S1)) h fun o1 sg t S1 v H1 rs R e p => ?_
  cases e
  cases t with
  | true => exact ⟨o1, sg, S1, rs, R, p⟩
  | false => exact p.here R rfl
theorem mw_or {rest : List Expr} (ha : PT X a (mtT X.K W (evT cf ta))) (hb : PW X (.BoolOp .Or (b :: rest) pos) (mtT X.K W (evT cf tb))) : PW X (.BoolOp .Or (a :: b :: rest) pos) (mtT X.K W (evT cf (.or_ ta tb))) := by
  refine (pw_or ha hb).imp fun σ H Q h => ?_
  rw [eqT_or] at h
  refine mt_two' (k := fun sg k S1 => cond k (.ok true S1) (evT cf tb sg S1)) h fun o1 sg t S1 v H1 rs R e p => ?_
  cases e
  cases t with
  | true => exact p.here R rfl
  | false => exact ⟨o1, sg, S1, rs, R, p⟩
theorem m_tnot (ha : PT X a (mtT X.K W (evT cf ta))) : PT X (.UnaryOp .Not a pos) (mtT X.K W (evT cf (.not_ ta))) := by
  refine (pt_not ha).imp fun σ H Q h => ?_
  rw [eqT_not] at h
  refine mt_two' (k := fun _ k S1 => .ok (!k) S1) h fun o1 sg t S1 v H1 rs R e p => ?_
  cases e
  exact p.here R rfl
/-! ### .. as values -/
theorem eq_and (x y : Ex) : ev cf (.and_ x y) = fun sg S => (ev cf x sg S).bnd fun t S1 => (asBool t S1).bnd fun k S2 => cond k (ev cf y sg S2) (.ok (tB false) S2) := by funext sg S; rw [ev]
theorem eq_or (x y : Ex) : ev cf (.or_ x y) = fun sg S => (ev cf x sg S).bnd fun t S1 => (asBool t S1).bnd fun k S2 => cond k (.ok (tB true) S2) (ev cf y sg S2) := by funext sg S; rw [ev]
theorem eq_ite (c : Tx) (x y : Ex) : ev cf (.ite c x y) = fun sg S => (evT cf c sg S).bnd fun k S1 => cond k (ev cf x sg S1) (ev cf y sg S1) := by funext sg S; rw [ev]
theorem mv_one {op : BoolOp} (ha : PE X a (mt X.K W (ev cf xa))) : PE X (.BoolOp op [a] pos) (mt X.K W (ev cf xa)) := pe_one ha
theorem mv_and {rest : List Expr} (ha : PE X a (mt X.K W (ev cf xa))) (hb : PE X (.BoolOp .And (b :: rest) pos) (mt X.K W (ev cf xb))) : PE X (.BoolOp .And (a :: b :: rest) pos) (mt X.K W (ev cf (.and_ xa xb))) := by
  refine (pe_and ha hb).imp fun σ H Q h => ?_
  rw [eq_and] at h
  refine mt_two' (k := fun sg t S1 => (asBool t S1).bnd fun k S2 => cond k (ev cf xb sg S2) (.ok (tB false) S2)) h fun o1 sg t S1 v H1 rs R r p => ?_
  obtain ⟨d, rfl, p⟩ := post_bool r p
  refine ⟨d, rfl, ?_⟩
  cases d with
  | true => exact ⟨o1, sg, S1, rs, R, p⟩
  | false => exact p.here R rB
theorem mv_or {rest : List Expr} (ha : PE X a (mt X.K W (ev cf xa))) (hb : PE X (.BoolOp .Or (b :: rest) pos) (mt X.K W (ev cf xb))) : PE X (.BoolOp .Or (a :: b :: rest) pos) (mt X.K W (ev cf (.or_ xa xb))) := by
  refine (pe_or ha hb).imp fun σ H Q h => ?_
  rw [eq_or] at h
  refine mt_two' (k := fun sg t S1 => (asBool t S1).bnd fun k S2 => cond k (.ok (tB true) S2) (ev cf xb sg S2)) h fun o1 sg t S1 v H1 rs R r p => ?_
  obtain ⟨d, rfl, p⟩ := post_bool r p
  refine ⟨d, rfl, ?_⟩
  cases d with
  | true => exact p.here R rB
  | false => exact ⟨o1, sg, S1, rs, R, p⟩
theorem m_not (ha : PE X a (mt X.K W (ev cf xa))) : PE X (.UnaryOp .Not a pos) (mt X.K W (ev cf (.u hp .nt xa))) := by
  refine (pe_not ha).imp fun σ H Q h => ?_
  rw [ev_u] at h
  refine mt_two' (k := fun _ t S1 => fin hp S1 (u1 .nt S1 t)) h fun o1 sg t S1 v H1 rs R r p => ?_
  unfold u1 at p
  simp only at p
  split at p
  · cases rep_bl r
    exact ⟨_, rfl, fin_v p R rB⟩
  · exact (no_fin p).elim
theorem m_ite (hc : PT X c (mtT X.K W (evT cf ta))) (ha : PE X a (mt X.K W (ev cf xa))) (hb : PE X b (mt X.K W (ev cf xb))) : PE X (.IfExp c a b pos) (mt X.K W (ev cf (.ite ta xa xb))) := by
  refine (pe_ifExp hc ha hb).imp fun σ H Q h => ?_
  rw [eq_ite] at h
  refine mt_two' (k := fun sg k S1 => cond k (ev cf xa sg S1) (ev cf xb sg S1)) h fun o1 sg t S1 v H1 rs R e p => ?_
  cases e
  cases t with
  | true => exact ⟨o1, sg, S1, rs, R, p⟩
  | false => exact ⟨o1, sg, S1, rs, R, p⟩
/-! ### chains of two comparisons -/
theorem eq_ch (o o' : B2) (x y z : Ex) : ev cf (.ch o o' x y z) = fun sg S => (ev cf x sg S).bnd fun x S1 => (ev cf y sg S1).bnd fun y S2 => (fin false S2 (b2 o S2 x y)).bnd fun r S3 => (asBool r S3).bnd fun k S4 =>
      cond k ((ev cf z sg S4).bnd fun z S5 => fin false S5 (b2 o' S5 y z)) (.ok (tB false) S4) := by funext sg S; rw [ev]
theorem chain_read {p p' : B2} (hb1 : isB p = true) {σ : L2.St} {H : Hp} {Q : VK} (h : mt X.K W (ev cf (.ch p p' xa xb xc)) σ H Q) :
    tChain (rO X.K W false (b2 p)) (rO X.K W false (b2 p')) (mt X.K W (ev cf xa)) (mt X.K W (ev cf xb)) (mt X.K W (ev cf xc)) σ H Q := by
  rw [eq_ch] at h
  refine mt_two' (rel := Rep X.K) (k := fun sg x S1 => (ev cf xb sg S1).bnd fun y S2 => (fin false S2 (b2 p S2 x y)).bnd fun r S3 => (asBool r S3).bnd fun k S4 =>
      cond k ((ev cf xc sg S4).bnd fun z S5 => fin false S5 (b2 p' S5 y z)) (.ok (tB false) S4)) h fun o1 sg x S1 v H1 rs1 R1 r1 p1 => ?_
  refine ⟨o1, sg, S1, rs1, R1, (Post.bnd (rel := Rep X.K) p1).imp fun v2 H2 z2 => ?_⟩
  obtain ⟨o2, y, S2, x2, R2, r2, p2⟩ := z2
  have rs2 := rs1.ext x2
  have r1' := r1.ext x2
  have hk : ∃ k, b2 p S2 x y = some (.v (tB k)) := by
    cases e : b2 p S2 x y with
    | none => rw [e] at p2; exact p2.elim
    | some r =>
      obtain ⟨k, rfl⟩ := b2_isB hb1 e
      exact ⟨k, rfl⟩
  obtain ⟨k, ek⟩ := hk
  refine ⟨o2, S2, x, y, R2, r1', r2, ?_⟩
  rw [ek] at p2 ⊢
  intro o3 v3 H3 x3 R3 r3
  cases rep_bl r3
  refine ⟨k, rfl, ?_⟩
  have p3 : Post X.K W (Rep X.K) o3 H3 (cond k ((ev cf xc sg S2).bnd fun z S5 => fin false S5 (b2 p' S5 y z)) (.ok (tB false) S2)) Q := p2.ext x3
  cases k with
  | false => exact p3.here R3 rB
  | true =>
    refine ⟨o3, sg, S2, rs2.ext x3, R3, (Post.bnd (rel := Rep X.K) p3).imp fun v4 H4 z4 => ?_⟩
    obtain ⟨o4, z, S4, x4, R4, r4, p4⟩ := z4
    exact ⟨o4, S4, y, z, R4, (r2.ext x3).ext x4, r4, p4⟩
theorem m_chain {op op' : CmpOp} {p p' : B2} (hb1 : isB p = true) (ho : OpR X (compareOp op) (rO X.K W false (b2 p))) (ho' : OpR X (compareOp op') (rO X.K W false (b2 p')))
    (ha : PE X a (mt X.K W (ev cf xa))) (hb : PE X b (mt X.K W (ev cf xb))) (hc : PE X c (mt X.K W (ev cf xc))) (hm : lastMarks [op, op'] [b, c] = false) :
    PE X (.Compare a [op, op'] [b, c] pos) (mt X.K W (ev cf (.ch p p' xa xb xc))) := (pe_chain ho ho' ha hb hc hm).imp fun σ H Q h => chain_read hb1 h
theorem isB_ch {p p' : B2} (hb2 : isB p' = true) {sg : Sg} {S : Store} {t : T} {S' : Store} (h : ev cf (.ch p p' xa xb xc) sg S = .ok t S') : ∃ k, t = tB k := by
  rw [eq_ch] at h
  obtain ⟨x, S1, _, h⟩ := R.bnd_ok h
  obtain ⟨y, S2, _, h⟩ := R.bnd_ok h
  obtain ⟨r, S3, _, h⟩ := R.bnd_ok h
  obtain ⟨k, S4, _, h⟩ := R.bnd_ok h
  cases k with
  | false => cases h; exact ⟨_, rfl⟩
  | true =>
    obtain ⟨z, S5, _, h⟩ := R.bnd_ok h
    cases e : b2 p' S5 y z with
    | none => rw [e] at h; cases h
    | some r =>
      obtain ⟨k, rfl⟩ := b2_isB hb2 e
      rw [e] at h
      cases h
      exact ⟨k, rfl⟩
theorem m_tchain {op op' : CmpOp} {p p' : B2} (hb1 : isB p = true) (hb2 : isB p' = true) (ho : OpR X (compareOp op) (rO X.K W false (b2 p))) (ho' : OpR X (compareOp op') (rO X.K W false (b2 p')))
    (ha : PE X a (mt X.K W (ev cf xa))) (hb : PE X b (mt X.K W (ev cf xb))) (hc : PE X c (mt X.K W (ev cf xc))) (hm : lastMarks [op, op'] [b, c] = false) :
    PT X (.Compare a [op, op'] [b, c] pos) (mtT X.K W (evT cf (.val (.ch p p' xa xb xc)))) := (pt_chain ho ho' ha hb hc hm).imp fun σ H Q h => by
  rw [evT_val] at h
  refine chain_read (cf := cf) hb1 ?_
  obtain ⟨o, sg, S, rs, R, z⟩ := h
  simp only at z
  refine ⟨o, sg, S, rs, R, ?_⟩
  cases e : ev cf (.ch p p' xa xb xc) sg S with
  | ok t S1 =>
    obtain ⟨k, rfl⟩ := isB_ch hb2 e
    rw [e] at z
    intro o1 v H1 x1 R1 r1
    cases rep_bl r1
    exact ⟨k, rfl, (Post.ext x1 z).here R1 rfl⟩
  | ex y S1 => rw [e] at z; exact z
  | no => rw [e] at z; exact z

/-! ### is None -/
theorem isN_rep {K : PySem.W.Frag} {o : Wd} {S : Store} {H : Hp} {t : T} {v : V} (R : HRel K o S H) (r : Rep K o t v) : isNone S t = decide (v = .non) := by
  unfold isNone
  have r' := r.norm R
  cases e : norm S t with
  | d p =>
    rw [e] at r'
    cases r' with
    | d r c => cases r <;> simp
  | tup ts => rw [e] at r'; cases r'; simp
  | lst ts => rw [e] at r'; cases r'; simp
  | obj n => rw [e] at r'; cases r'; simp
theorem m_isN {j : Nat} {pos' : Pos} (ha : PE X a (mt X.K W (ev cf xa))) : PE X (.Compare a [.Is] [.Constant .none j pos'] pos) (mt X.K W (ev cf (.u hp (.isN false) xa))) := by
  refine (pe_cmp (pc_isN ha)).imp fun σ H Q h => ?_
  rw [ev_u] at h
  refine mt_two' (k := fun _ t S1 => fin hp S1 (u1 (.isN false) S1 t)) h fun o1 sg t S1 v H1 rs R r p => ?_
  have e : u1 (.isN false) S1 t = some (.v (tB (decide (v = .non)))) := by
    simp only [u1, isN_rep R r, Bool.false_xor]
  rw [e] at p
  exact fin_v p R rB
theorem m_notN {j : Nat} {pos' : Pos} (ha : PE X a (mt X.K W (ev cf xa))) : PE X (.Compare a [.IsNot] [.Constant .none j pos'] pos) (mt X.K W (ev cf (.u hp (.isN true) xa))) := by
  refine (pe_cmp (pc_notN ha)).imp fun σ H Q h => ?_
  rw [ev_u] at h
  refine mt_two' (k := fun _ t S1 => fin hp S1 (u1 (.isN true) S1 t)) h fun o1 sg t S1 v H1 rs R r p => ?_
  have e : u1 (.isN true) S1 t = some (.v (tB (!decide (v = .non)))) := by
    simp only [u1, isN_rep R r, Bool.true_xor]
  rw [e] at p
  exact fin_v p R rB
theorem isN_truth {neg : Bool} {sg : Sg} {S : Store} {t : T} {S' : Store} (h : ev cf (.u hp (.isN neg) xa) sg S = .ok t S') : ∃ k, t = tB k := by
  rw [ev_u] at h
  obtain ⟨x, S1, _, h⟩ := R.bnd_ok h
  cases h
  exact ⟨_, rfl⟩
/-- a comparison whose value is a bool, as a test -/
theorem pt_of_pe {x : Ex} {t : TE} {e : Expr} (hb : ∀ sg S u S', ev cf x sg S = .ok u S' → ∃ k, u = tB k) (he : PT X e (L2.tB t)) (hi : ∀ σ H Q, mt X.K W (ev cf x) σ H Q → t σ H Q) : PT X e (mtT X.K W (evT cf (.val x))) := by
  refine he.imp fun σ H Q h => ?_
  rw [evT_val] at h
  refine hi _ _ _ ?_
  obtain ⟨o, sg, S, rs, R, z⟩ := h
  simp only at z
  refine ⟨o, sg, S, rs, R, ?_⟩
  cases e : ev cf x sg S with
  | ok t S1 =>
    obtain ⟨k, rfl⟩ := hb _ _ _ _ e
    rw [e] at z
    intro o1 v H1 x1 R1 r1
    cases rep_bl r1
    exact ⟨k, rfl, (Post.ext x1 z).here R1 rfl⟩
  | ex y S1 => rw [e] at z; exact z
  | no => rw [e] at z; exact z
end
end Mc
end

section
set_option Elab.async false
set_option linter.all false
set_option maxRecDepth 100000
set_option maxHeartbeats 4000000
set_option autoImplicit false
/-! McG: built-ins called, methods of lists -/
namespace Mc
open PySem PySem.Spec PyProof.Rows L2

section
variable {X : Cx} {W : Wsh} {cf : Nat → List T → Store → R T} {pos p : Pos} {a b c : Expr} {xa xb xc : Ex} {hp : Bool} {x : Str} {id : String}
def nst : Expr → Bool
  | .Starred .. => false
  | _ => true
theorem star_cons {e : Expr} {es : List Expr} {env : Env} (h : nst e = true) : starEach (e :: es) env = (false, eval e env) :: starEach es env := by
  cases e <;> first | rfl | cases h
theorem star_all : ∀ {es : List Expr} {env : Env} {pos : Pos}, es.all nst = true → (backTo pos (starEach es env)).any (·.1) = false
  | [], _, _, _ => rfl
  | e :: es, env, pos, h => by
    simp only [List.all_cons, Bool.and_eq_true] at h
    rw [star_cons h.1]
    show (false || (backTo pos (starEach es env)).any (·.1)) = false
    rw [star_all h.2]; rfl
theorem star_few : ∀ {es : List Expr} {env : Env} {pos : Pos}, es.all nst = true → (backTo pos (starEach es env)).all (fun x => !x.1) = true
  | [], _, _, _ => rfl
  | e :: es, env, pos, h => by
    simp only [List.all_cons, Bool.and_eq_true] at h
    rw [star_cons h.1]
    show (true && (backTo pos (starEach es env)).all (fun x => !x.1)) = true
    rw [star_few h.2]; rfl
/-- one argument -/
theorem m_arg1 (ha : PE X a (mt X.K W (ev cf xa))) (hs : nst a = true) : PA X [a] (mts X.K W (evs cf (.cons xa .nil))) := m_cons ha m_nil (star_cons hs)
theorem m_arg2 (ha : PE X a (mt X.K W (ev cf xa))) (hb : PE X b (mt X.K W (ev cf xb))) (hs : nst a = true) (hs2 : nst b = true) : PA X [a, b] (mts X.K W (evs cf (.cons xa (.cons xb .nil)))) := m_cons ha (m_arg1 hb hs2) (star_cons hs)
theorem evs_one (xa : Ex) : evs cf (.cons xa .nil) = fun sg S => (ev cf xa sg S).bnd fun t S1 => .ok [t] S1 := by
  funext sg S
  rw [evs]
  congr 1
theorem evs_two (xa xb : Ex) : evs cf (.cons xa (.cons xb .nil)) = fun sg S => (ev cf xa sg S).bnd fun t S1 => (ev cf xb sg S1).bnd fun u S2 => .ok [t, u] S2 := by
  funext sg S
  rw [evs]
  congr 1; funext t S1
  rw [evs_one]
  show ((ev cf xb sg S1).bnd _).bnd _ = _
  rw [R.bnd_bnd]
  rfl
theorem read1 {K : PySem.W.Frag} {q : U1} {σ : L2.St} {H : Hp} {Q : VK} (h : mt K W (ev cf (.u hp q xa)) σ H Q) : mts K W (evs cf (.cons xa .nil)) σ H fun vs H1 => rC1 K W hp (u1 q) vs H1 Q := by
  rw [ev_u] at h
  have h' : mt K W (fun sg S => (evs cf (.cons xa .nil) sg S).bnd fun ts S1 => match ts with | [t] => fin hp S1 (u1 q S1 t) | _ => .no) σ H Q := by
    rw [evs_one]
    refine cast ?_ h
    congr 1
    funext sg S
    show _ = ((ev cf xa sg S).bnd _).bnd _
    rw [R.bnd_bnd]; rfl
  refine mt_two' (rel := Reps K) (k := fun _ ts S1 => match ts with | [t] => fin hp S1 (u1 q S1 t) | _ => .no) h' fun o1 sg ts S1 vs H1 rs R r p1 => ?_
  match ts, r, p1 with
  | [t], r, p1 => exact ⟨o1, S1, [t], t, R, r, rfl, p1⟩
  | [], _, p1 => exact p1.elim
  | _ :: _ :: _, _, p1 => exact p1.elim
theorem read2 {K : PySem.W.Frag} {q : B2} {σ : L2.St} {H : Hp} {Q : VK} (h : mt K W (ev cf (.b hp q xa xb)) σ H Q) : mts K W (evs cf (.cons xa (.cons xb .nil))) σ H fun vs H1 => rC2 K W hp (b2 q) vs H1 Q := by
  rw [ev_b] at h
  have h' : mt K W (fun sg S => (evs cf (.cons xa (.cons xb .nil)) sg S).bnd fun ts S1 => match ts with | [t, u] => fin hp S1 (b2 q S1 t u) | _ => .no) σ H Q := by
    rw [evs_two]
    refine cast ?_ h
    congr 1
    funext sg S
    show _ = ((ev cf xa sg S).bnd _).bnd _
    rw [R.bnd_bnd]
    congr 1; funext t S1
    show _ = ((ev cf xb sg S1).bnd _).bnd _
    rw [R.bnd_bnd]; rfl
  refine mt_two' (rel := Reps K) (k := fun _ ts S1 => match ts with | [t, u] => fin hp S1 (b2 q S1 t u) | _ => .no) h' fun o1 sg ts S1 vs H1 rs R r p1 => ?_
  match ts, r, p1 with
  | [t, u], r, p1 => exact ⟨o1, S1, [t, u], t, u, R, r, rfl, p1⟩
  | [], _, p1 => exact p1.elim
  | [_], _, p1 => exact p1.elim
  | _ :: _ :: _ :: _, _, p1 => exact p1.elim
/-- a built-in function of one argument -/
theorem m_cB1 {q : U1} (hc : CallR X (.builtin id) (rC1 X.K W hp (u1 q))) (hg : Gl X x) (hm : X.mg x = none) (hv : bootBuiltins x = some (.builtin id)) (ha : PE X a (mt X.K W (ev cf xa))) (hs : nst a = true) (hn : x ≠ "__name__") (hdb : (x == ("__debug__" : Str)) = false) :
    PE X (.Call (.Name x p) [a] [] pos) (mt X.K W (ev cf (.u hp q xa))) :=
  (pe_callB hc hg hm hv (m_arg1 ha hs) hn hdb (star_cons hs) (star_all rfl)).imp fun σ H Q h => read1 h
/-- a built-in class of one argument -/
theorem m_cT1 {q : U1} (hc : CallR X (.type id) (rC1 X.K W hp (u1 q))) (hg : Gl X x) (hm : X.mg x = none) (hv : bootBuiltins x = some (.type id)) (ha : PE X a (mt X.K W (ev cf xa))) (hs : nst a = true) (hn : x ≠ "__name__") (hdb : (x == ("__debug__" : Str)) = false) :
    PE X (.Call (.Name x p) [a] [] pos) (mt X.K W (ev cf (.u hp q xa))) :=
  (pe_callTy hc hg hm hv (m_arg1 ha hs) hn hdb (star_cons hs) (star_all rfl)).imp fun σ H Q h => read1 h
theorem m_cB2 {q : B2} (hc : CallR X (.builtin id) (rC2 X.K W hp (b2 q))) (hg : Gl X x) (hm : X.mg x = none) (hv : bootBuiltins x = some (.builtin id)) (ha : PE X a (mt X.K W (ev cf xa))) (hb : PE X b (mt X.K W (ev cf xb))) (hs : nst a = true) (hs2 : nst b = true) (hn : x ≠ "__name__") (hdb : (x == ("__debug__" : Str)) = false) :
    PE X (.Call (.Name x p) [a, b] [] pos) (mt X.K W (ev cf (.b hp q xa xb))) :=
  (pe_callB hc hg hm hv (m_arg2 ha hb hs hs2) hn hdb (star_cons hs) (star_all (by simp [hs2]))).imp fun σ H Q h => read2 h

/-! ### the built-ins by values -/
theorem reps1 {K : PySem.W.Frag} {o : Wd} {t : T} {vs : List V} (r : Reps K o [t] vs) : ∃ v, vs = [v] ∧ Rep K o t v := by
  cases r with | cons r q => cases q; exact ⟨_, rfl, r⟩
theorem reps2 {K : PySem.W.Frag} {o : Wd} {t u : T} {vs : List V} (r : Reps K o [t, u] vs) : ∃ v w, vs = [v, w] ∧ Rep K o t v ∧ Rep K o u w := by
  cases r with
  | cons r q => cases q with | cons r2 q2 => cases q2; exact ⟨_, _, rfl, r, r2⟩
theorem bools_rep {K : PySem.W.Frag} {o : Wd} : ∀ {ts : List T} {vs : List V} {bs : List Bool}, Reps K o ts vs → boolsT ts = some bs → vs = bs.map V.bl
  | [], _, _, r, h => by cases r; cases h; rfl
  | .d (.bool b) :: ts, vs, bs, r, h => by
    cases r with
    | cons r q =>
      unfold boolsT at h
      split at h
      · rename_i cs e
        cases h
        cases rep_bl r
        rw [bools_rep q e]; rfl
      · cases h
  | .d .none :: _, _, _, _, h => by simp [boolsT] at h
  | .d (.int _) :: _, _, _, _, h => by simp [boolsT] at h
  | .d (.str _) :: _, _, _, _, h => by simp [boolsT] at h
  | .d (.list _) :: _, _, _, _, h => by simp [boolsT] at h
  | .d (.tuple _) :: _, _, _, _, h => by simp [boolsT] at h
  | .d (.dict _) :: _, _, _, _, h => by simp [boolsT] at h
  | .tup _ :: _, _, _, _, h => by simp [boolsT] at h
  | .lst _ :: _, _, _, _, h => by simp [boolsT] at h
  | .obj _ :: _, _, _, _, h => by simp [boolsT] at h
theorem ints_rep {K : PySem.W.Frag} {o : Wd} : ∀ {ts : List T} {vs : List V} {is : List Int}, Reps K o ts vs → intsT ts = some is → vs = is.map V.int
  | [], _, _, r, h => by cases r; cases h; rfl
  | .d (.int b) :: ts, vs, bs, r, h => by
    cases r with
    | cons r q =>
      unfold intsT at h
      split at h
      · rename_i cs e
        cases h
        cases rep_int r
        rw [ints_rep q e]; rfl
      · cases h
  | .d .none :: _, _, _, _, h => by simp [intsT] at h
  | .d (.bool _) :: _, _, _, _, h => by simp [intsT] at h
  | .d (.str _) :: _, _, _, _, h => by simp [intsT] at h
  | .d (.list _) :: _, _, _, _, h => by simp [intsT] at h
  | .d (.tuple _) :: _, _, _, _, h => by simp [intsT] at h
  | .d (.dict _) :: _, _, _, _, h => by simp [intsT] at h
  | .tup _ :: _, _, _, _, h => by simp [intsT] at h
  | .lst _ :: _, _, _, _, h => by simp [intsT] at h
  | .obj _ :: _, _, _, _, h => by simp [intsT] at h
theorem c_len : CallR X (.builtin "len") (rC1 X.K W hp (u1 .len)) := by
  intro pins s σ H xs us Q I r h
  obtain ⟨o, S, ts, t, R, rr, rfl, p⟩ := h
  obtain ⟨v, rfl, rt⟩ := reps1 rr
  unfold u1 at p
  simp only at p
  split at p
  · rename_i ts e
    obtain ⟨l, vs, rfl, h1, _, q1⟩ := rep_seqOf R rt e
    rw [q1.length] at p
    refine call_len_seq pins s σ H _ us Q I r ⟨_, _, rfl, ?_, fin_v p R rI⟩
    rcases h1 with h1 | h1
    · exact .inl h1
    · exact .inr h1
  · split at p
    · split at p
      · rename_i hz
        obtain ⟨rfl, _⟩ := rep_str rt
        exact call_len_str pins s σ H _ us Q I r ⟨_, rfl, Nat.le_trans hz line_size, fin_v p R rI⟩
      · exact (no_fin p).elim
    · exact (no_fin p).elim
theorem c_all (hc : X.calm = true) : CallR X (.builtin "all") (rC1 X.K W hp (u1 .all)) := by
  intro pins s σ H xs us Q I r h
  obtain ⟨o, S, ts, t, R, rr, rfl, p⟩ := h
  obtain ⟨v, rfl, rt⟩ := reps1 rr
  unfold u1 at p
  simp only at p
  split at p
  · rename_i ts e
    cases e2 : boolsT ts with
    | none => rw [e2] at p; exact (no_fin p).elim
    | some bs =>
      rw [e2] at p
      obtain ⟨l, vs, rfl, h1, _, q1⟩ := rep_lstOf R rt e
      exact cr_all hc pins s σ H _ us Q I r ⟨_, bs, rfl, by rw [← bools_rep q1 e2]; exact h1, fin_v p R rB⟩
  · exact (no_fin p).elim
theorem c_any (hc : X.calm = true) : CallR X (.builtin "any") (rC1 X.K W hp (u1 .any)) := by
  intro pins s σ H xs us Q I r h
  obtain ⟨o, S, ts, t, R, rr, rfl, p⟩ := h
  obtain ⟨v, rfl, rt⟩ := reps1 rr
  unfold u1 at p
  simp only at p
  split at p
  · rename_i ts e
    cases e2 : boolsT ts with
    | none => rw [e2] at p; exact (no_fin p).elim
    | some bs =>
      rw [e2] at p
      obtain ⟨l, vs, rfl, h1, _, q1⟩ := rep_lstOf R rt e
      exact cr_any hc pins s σ H _ us Q I r ⟨_, bs, rfl, by rw [← bools_rep q1 e2]; exact h1, fin_v p R rB⟩
  · exact (no_fin p).elim
theorem c_sum (hc : X.calm = true) : CallR X (.builtin "sum") (rC1 X.K W hp (u1 .sum)) := by
  intro pins s σ H xs us Q I r h
  obtain ⟨o, S, ts, t, R, rr, rfl, p⟩ := h
  obtain ⟨v, rfl, rt⟩ := reps1 rr
  unfold u1 at p
  simp only at p
  split at p
  · rename_i ts e
    cases e2 : intsT ts with
    | none => rw [e2] at p; exact (no_fin p).elim
    | some bs =>
      rw [e2] at p
      obtain ⟨l, vs, rfl, h1, _, q1⟩ := rep_lstOf R rt e
      exact cr_sum hc pins s σ H _ us Q I r ⟨_, bs, rfl, by rw [← ints_rep q1 e2]; exact h1, fin_v p R rI⟩
  · exact (no_fin p).elim
theorem c_abs : CallR X (.builtin "abs") (rC1 X.K W hp (u1 .abs)) := by
  intro pins s σ H xs us Q I r h
  obtain ⟨o, S, ts, t, R, rr, rfl, p⟩ := h
  obtain ⟨v, rfl, rt⟩ := reps1 rr
  unfold u1 at p
  simp only at p
  split at p
  · cases rep_int rt
    exact call_abs pins s σ H _ us Q I r ⟨_, rfl, fin_v p R rI⟩
  · exact (no_fin p).elim
theorem c_list : CallR X (.type "list") (rC1 X.K W hp (u1 .list)) := by
  intro pins s σ H xs us Q I r h
  obtain ⟨o, S, ts, t, R, rr, rfl, p⟩ := h
  obtain ⟨v, rfl, rt⟩ := reps1 rr
  unfold u1 at p
  simp only at p
  cases e : seqOf S t with
  | none => rw [e] at p; exact (no_fin p).elim
  | some ts =>
    rw [e] at p
    obtain ⟨l, vs, rfl, h1, hz, q1⟩ := rep_seqOf R rt e
    refine call_list_of pins s σ H _ us Q I r ⟨_, _, rfl, ?_, fin_l p R q1 hz⟩
    rcases h1 with h1 | h1
    · exact .inl h1
    · exact .inr h1
theorem c_tuple : CallR X (.type "tuple") (rC1 X.K W hp (u1 .tuple)) := by
  intro pins s σ H xs us Q I r h
  obtain ⟨o, S, ts, t, R, rr, rfl, p⟩ := h
  obtain ⟨v, rfl, rt⟩ := reps1 rr
  unfold u1 at p
  simp only at p
  cases e : seqOf S t with
  | none => rw [e] at p; exact (no_fin p).elim
  | some ts =>
    rw [e] at p
    unfold seqOf at e
    split at e
    · rename_i us' e'
      cases e
      obtain ⟨l, vs, rfl, h1, hz, q1⟩ := rep_lstOf R rt e'
      exact call_tuple_of pins s σ H _ us Q I r ⟨_, _, rfl, .inl ⟨h1, fin_t p R q1 hz⟩⟩
    · obtain ⟨l, vs, rfl, h1, q1, f1⟩ := rep_tupOf R rt e
      exact call_tuple_of pins s σ H _ us Q I r ⟨_, _, rfl, .inr ⟨h1, fin_v p R (rep_mkTup f1 q1)⟩⟩
theorem c_divmod : CallR X (.builtin "divmod") (rC2 X.K W hp (b2 .divmod)) := by
  intro pins s σ H xs us Q I r h
  obtain ⟨o, S, ts, t, u, R, rr, rfl, p⟩ := h
  obtain ⟨v, w, rfl, rt, ru⟩ := reps2 rr
  unfold b2 at p
  simp only at p
  split at p
  · split at p
    · rename_i i j hj
      cases rep_int rt
      cases rep_int ru
      simp only [Bool.and_eq_true, decide_eq_true_eq] at hj
      exact call_divmod pins s σ H _ us Q I r ⟨_, _, rfl, hj, fin_t (ts := [tI (i / j), tI (i % j)]) p R (.cons rI (.cons rI .nil)) (by show 2 ≤ sizeLine; decide)⟩
    · exact (no_fin p).elim
  · exact (no_fin p).elim
theorem c_max2 (hc : X.calm = true) : CallR X (.builtin "max") (rC2 X.K W hp (b2 .max2)) := by
  intro pins s σ H xs us Q I r h
  obtain ⟨o, S, ts, t, u, R, rr, rfl, p⟩ := h
  obtain ⟨v, w, rfl, rt, ru⟩ := reps2 rr
  unfold b2 at p
  simp only at p
  split at p
  · cases rep_int rt
    cases rep_int ru
    exact call_max2 hc pins s σ H _ us Q I r ⟨_, _, rfl, fin_v p R rI⟩
  · exact (no_fin p).elim
theorem c_min2 (hc : X.calm = true) : CallR X (.builtin "min") (rC2 X.K W hp (b2 .min2)) := by
  intro pins s σ H xs us Q I r h
  obtain ⟨o, S, ts, t, u, R, rr, rfl, p⟩ := h
  obtain ⟨v, w, rfl, rt, ru⟩ := reps2 rr
  unfold b2 at p
  simp only at p
  split at p
  · cases rep_int rt
    cases rep_int ru
    exact call_min2 hc pins s σ H _ us Q I r ⟨_, _, rfl, fin_v p R rI⟩
  · exact (no_fin p).elim

/-! ### isinstance -/
def tyName : Ty → String
  | .int => "int" | .bool => "bool" | .str => "str" | .list => "list" | .tuple => "tuple" | .dict => "dict"
def shName : PyData → String
  | .none => "NoneType" | .bool _ => "bool" | .int _ => "int" | .str _ => "str" | .list _ => "list" | .tuple _ => "tuple" | .dict _ => "dict"
theorem kit_is {K : PySem.W.Frag} (c : Ty) (q : PyData) : PySem.W.kitOne K (.type (shName q)) (.type (tyName c)) = some (isTy c q) := by
  cases c <;> cases q <;> exact kit_ty (by simp only [shName, tyName, isTy]; decide +kernel)
theorem rep_ty {K : PySem.W.Frag} {o : Wd} {S : Store} {H : Hp} {t : T} {v : V} (R : HRel K o S H) (r : Rep K o t v) : TyX K H v (.type (shName (tyOf S t))) := by
  have lsts : ∀ {a : Addr} {xs : List V}, SqL K H a xs → TyX K H (.ref a) (.type "list") := fun {a xs} h => by
    rcases h with (h | ⟨ob, h⟩) | ⟨ob, its, n, h1, h2, _⟩
    · exact .base (.lst h)
    · exact .base (.frz h)
    · exact .kList h1 h2
  have tups : ∀ {a : Addr} {xs : List V}, SqT K H a xs → TyX K H (.ref a) (.type "tuple") := fun {a xs} h => by
    rcases h with (h | ⟨ob, h⟩) | ⟨ob, its, n, h1, h2, _⟩
    · exact .base (.tup h)
    · exact .fTuple h
    · exact .kTuple h1 h2
  have dq : ∀ {q : PyData} {v : V}, Dq K o.FH v q → TyX K H v (.type (shName q)) := fun {q v} h => by
    cases h with
    | non => exact .base .non
    | bl b => exact .base (.bl b)
    | int i => exact .base (.int i)
    | str x => exact .base (.str x)
    | lst q _ => exact lsts (sqL_mono R.sub q)
    | tup q _ => exact tups (sqT_mono R.sub q)
  cases r with
  | d r c => exact dq r
  | tup q _ => exact tups (sqT_mono R.sub q)
  | lst q _ => exact lsts (sqL_mono R.sub q)
  | @obj n a hr =>
    show TyX K H (.ref a) (.type (shName (match S[n]? with | some (.lst _) => .list [] | some (.fz t) => t | none => .none)))
    have hn : n < S.length := by rw [← R.dom]; exact (List.getElem?_eq_some_iff.mp hr).1
    obtain ⟨c, hc⟩ : ∃ c, S[n]? = some c := ⟨S[n], by simp [hn]⟩
    rw [hc]
    cases c with
    | lst us =>
      obtain ⟨_, vs, h1, _⟩ := R.lst n us a hc hr
      exact lsts (.inl (.inl h1))
    | fz q =>
      have := R.fz n q a hc hr
      cases this with
      | d r c => exact dq r
/-- the class that a name stands for -/
def tyIs (x : Str) (c : Ty) : Prop := bootBuiltins x = some (.type (tyName c))
theorem pe_ty {c : Ty} (hg : Gl X x) (hm : X.mg x = none) (hv : tyIs x c) (hn : x ≠ "__name__") (hdb : (x == ("__debug__" : Str)) = false) : PE X (.Name x p) (tC (.ty (tyName c))) := pe_bltn hg hm hv rfl hn hdb
theorem m_isi {c : Ty} {y : Str} {p2 : Pos} (hg : Gl X x) (hm : X.mg x = none) (hx : x = "isinstance") (ha : PE X a (mt X.K W (ev cf xa))) (hs : nst a = true)
    (hg2 : Gl X y) (hm2 : X.mg y = none) (hv2 : tyIs y c) (hn2 : y ≠ "__name__") (hdb2 : (y == ("__debug__" : Str)) = false) :
    PE X (.Call (.Name x p) [a, .Name y p2] [] pos) (mt X.K W (ev cf (.u hp (.isi [c]) xa))) := by
  subst hx
  refine (pe_callB call_isi hg hm (by decide +kernel) (pa_cons ha (pa_cons (pe_ty hg2 hm2 hv2 hn2 hdb2) pa_nil (star_cons rfl)) (star_cons hs)) (by decide) (by decide) (star_cons hs) (star_all rfl)).imp fun σ H Q h => ?_
  rw [ev_u] at h
  refine mt_two' (rel := Rep X.K) (k := fun _ t S1 => fin hp S1 (u1 (.isi [c]) S1 t)) h fun o1 sg t S1 v H1 rs R r p1 => ?_
  refine ⟨v, _, _, _, _, rfl, .ty _, rep_ty R r, kit_is c _, ?_⟩
  have e : u1 (.isi [c]) S1 t = some (.v (tB (isTy c (tyOf S1 t)))) := by simp [u1]
  rw [e] at p1
  exact fin_v p1 R rB
theorem kit_any {K : PySem.W.Frag} (q : PyData) : ∀ cs : List Ty, PySem.W.kitAny K (.type (shName q)) (cs.map fun c => .type (tyName c)) = some (cs.any fun c => isTy c q)
  | [] => rfl
  | c :: cs => by
    rw [List.map_cons, List.any_cons]
    refine kitAny_cons (kit_is c q) (fun h => by rw [h]; exact kit_any q cs) fun h => by rw [h]; rfl
theorem paired_cls : ∀ cs : List Ty, Paired ClsV (cs.map fun c => V.ty (tyName c)) (cs.map fun c => Value.type (tyName c))
  | [] => .nil
  | _ :: cs => .cons (.ty _) (paired_cls cs)
/-- a written tuple of classes -/
def tC' (cs : List V) : TA := fun _ H Q => Q cs H
structure Cls1 (X : Cx) (e : Expr) (c : Ty) : Prop where
  pe : PE X e (tC (.ty (tyName c)))
  st : nst e = true
theorem pa_cls : ∀ {es : List Expr} {cs : List Ty}, Paired (Cls1 X) es cs → PA X es (tC' (cs.map fun c => V.ty (tyName c)))
  | _, _, .nil => pa_nil
  | _, _, .cons h t => (pa_cons h.pe (pa_cls t) (star_cons h.st)).imp fun _ _ _ h => h
theorem m_isiT {cs : List Ty} {es : List Expr} {k : Nat} {p2 : Pos} (hg : Gl X x) (hm : X.mg x = none) (hx : x = "isinstance") (ha : PE X a (mt X.K W (ev cf xa))) (hs : nst a = true) (hcs : Paired (Cls1 X) es cs) (hz : cs.length ≤ line) :
    PE X (.Call (.Name x p) [a, .Tuple es k p2] [] pos) (mt X.K W (ev cf (.u hp (.isi cs) xa))) := by
  subst hx
  refine (pe_callB call_isiT hg hm (by decide +kernel) (pa_cons ha (pa_cons (pe_tup (pa_cls hcs)) pa_nil (star_cons rfl)) (star_cons hs)) (by decide) (by decide) (star_cons hs) (star_all rfl)).imp fun σ H Q h => ?_
  rw [ev_u] at h
  refine mt_two' (rel := Rep X.K) (k := fun _ t S1 => fin hp S1 (u1 (.isi cs) S1 t)) h fun o1 sg t S1 v H1 rs R r p1 => ?_
  refine ⟨by simpa using Nat.le_trans hz line_size, fun q nq => ?_⟩
  obtain ⟨R', x'⟩ := R.laid (u := .tup (cs.map fun c => V.ty (tyName c))) nq (by simpa [lenOk] using Nat.le_trans hz line_size)
  exact ⟨v, q, _, _, _, _, rfl, upd_same, paired_cls cs, rep_ty R' (r.ext x'), kit_any _ cs, fin_v (p1.ext x') R' rB⟩
end
end Mc
end

section
set_option Elab.async false
set_option linter.all false
set_option maxRecDepth 100000
set_option maxHeartbeats 4000000
set_option autoImplicit false
/-! McH: methods of lists, targets, what loops walk -/
namespace Mc
open PySem PySem.Spec PyProof.Rows L2

section
variable {X : Cx} {W : Wsh} {cf : Nat → List T → Store → R T} {pos p apos cpos : Pos} {a b c : Expr} {xa xb xc : Ex} {hp : Bool} {x : Str} {id : String}
/-! ### methods -/
def plainBase : Expr → Bool
  | .Call (.Name _ _) [] [] _ => false
  | _ => true
theorem base_ok {e : Expr} {n : Str} {env : Env} (h : plainBase e = true) : attributeBase e n env (eval e env) = eval e env := by
  unfold attributeBase
  split
  · cases h
  · rfl
theorem few1 {env : Env} (h : nst b = true) : ((backTo cpos (starEach [b] env)).all (fun x => !x.1) && (backToKw cpos (keywordEach [] env)).all (fun x => x.1.isSome)
      && decide (([b] : List Expr).length + ([] : List Keyword).length + (if ([] : List Keyword).isEmpty then 0 else 1) < 30)) = true := by
  rw [star_few (by simp [h])]; rfl
theorem post_chk {K : PySem.W.Frag} {γ δ : Type} {rel2 : Wd → γ → δ → Prop} {o : Wd} {H : Hp} {S : Store} {t : T} {v : V} {k : T → Store → R γ} {Q : δ → Hp → Prop} (R : HRel K o S H) (r : Rep K o t v)
    (h : Post K W rel2 o H ((chkL t S).bnd k) Q) : tyV K "list" v H ∧ Post K W rel2 o H (k t S) Q := by
  unfold chkL at h
  split at h
  · rename_i ts e
    obtain ⟨l, vs, rfl, h1, _, _⟩ := rep_lstOf R r e
    exact ⟨.inl ⟨rfl, vs, h1⟩, h⟩
  · exact h.elim
/-- a method of a list, one argument -/
theorem m_bm {id : String} {name : Str} {y : Ex} {k : T → T → Store → R T} (slot : Slot "list" name id) (hty : typeOf (.builtin id) = pure (.type "method_descriptor"))
    (ey : ev cf y = fun sg S => (ev cf xa sg S).bnd fun x S1 => (chkL x S1).bnd fun x S2 => (ev cf xb sg S2).bnd fun y S3 => k x y S3)
    (hm : MtR X id (fun x vs H Q => ∃ (o : Wd) (S : Store) (tx ty : T) (v : V), vs = [v] ∧ HRel X.K o S H ∧ Rep X.K o tx x ∧ Rep X.K o ty v ∧ Post X.K W (Rep X.K) o H (k tx ty S) Q))
    (ha : PE X a (mt X.K W (ev cf xa))) (hb : PE X b (mt X.K W (ev cf xb))) (hs : plainBase a = true) (hs2 : nst b = true) (hl : (apos.endLine == cpos.line) = true) :
    PE X (.Call (.Attribute a name apos) [b] [] cpos) (mt X.K W (ev cf y)) := by
  refine (pe_bm PySem.F.plainAttrs_list slot hty hm ha (m_arg1 hb hs2) (base_ok hs) (few1 hs2) hl (star_cons hs2) (star_all rfl)).imp fun σ H Q h => ?_
  rw [ey] at h
  refine mt_two' (rel := Rep X.K) (k := fun sg x S1 => (chkL x S1).bnd fun x S2 => (ev cf xb sg S2).bnd fun y S3 => k x y S3) h fun o1 sg t S1 v H1 rs R r p1 => ?_
  obtain ⟨h1, p1⟩ := post_chk R r p1
  refine ⟨h1, ?_⟩
  rw [evs_one]
  refine ⟨o1, sg, S1, rs, R, ?_⟩
  show Post _ _ _ _ _ ((ev cf xb sg S1).bnd _) _
  cases e : ev cf xb sg S1 with
  | ok u S2 =>
    rw [e] at p1
    intro o2 vs H2 x2 R2 r2
    obtain ⟨v2, rfl, r9⟩ := reps1 r2
    exact ⟨o2, S2, t, u, v2, rfl, R2, r.ext x2, r9, p1.ext x2⟩
  | ex z S2 => rw [e] at p1; exact p1
  | no => rw [e] at p1; exact p1
theorem m_bm0 {id : String} {name : Str} {y : Ex} {k : T → Store → R T} (slot : Slot "list" name id) (hty : typeOf (.builtin id) = pure (.type "method_descriptor"))
    (ey : ev cf y = fun sg S => (ev cf xa sg S).bnd fun x S1 => (chkL x S1).bnd fun x S2 => k x S2)
    (hm : MtR X id (fun x vs H Q => ∃ (o : Wd) (S : Store) (tx : T), vs = [] ∧ HRel X.K o S H ∧ Rep X.K o tx x ∧ Post X.K W (Rep X.K) o H (k tx S) Q))
    (ha : PE X a (mt X.K W (ev cf xa))) (hs : plainBase a = true) (hl : (apos.endLine == cpos.line) = true) :
    PE X (.Call (.Attribute a name apos) [] [] cpos) (mt X.K W (ev cf y)) := by
  refine (pe_bm0 PySem.F.plainAttrs_list slot hty hm ha (base_ok hs) hl).imp fun σ H Q h => ?_
  rw [ey] at h
  refine mt_two' (rel := Rep X.K) (k := fun sg x S1 => (chkL x S1).bnd fun x S2 => k x S2) h fun o1 sg t S1 v H1 rs R r p1 => ?_
  obtain ⟨h1, p1⟩ := post_chk R r p1
  exact ⟨h1, o1, S1, t, rfl, R, r, p1⟩
open PySem.AutoSeq1 in
/-- the other list in any form -/
theorem list_extendW (l : Addr) (items : Array Value) (n : Nat) (b : Addr) (items2 : Array Value) (n2 : Nat) (dd2 : Option Addr) (sl2 : Array (Option Value)) (hc0 : ¬(!items.isEmpty && Builtin.List.listTooLong (items.size + items2.size)) = true) (hc1 : items.size ≤ sizeLine) (hs2 : items.size + items2.size ≤ sizeLine + 1) :
    Meets (Builtin.«list.extend» ⟨[.ref l, .ref b], []⟩) (fun _ R s => s.heap.get? l = some { cls := .type "list", dict := none, data := .seq items n, slots := #[] } ∧ s.heap.get? b = some { cls := .type "list", dict := dd2, data := .seq items2 n2, slots := sl2 } ∧ R (.ok (.ret Value.none)) { s with heap := s.heap.update l (Obj.mapSeq fun x => x ++ items2), toks := s.toks }) :=
  .of_wp fun prog w A R s h => by
    obtain ⟨hp, g, d, tk, os⟩ := s; obtain ⟨hl, hb, h⟩ := h; have f1 := AutoSeq1.idx_int; have f2 := AutoSeq1.sub_tuple_tuple; have f3 := AutoSeq1.sub_list_list; have f4 := AutoSeq1.sub_tuple_list; have f5 := AutoSeq1.sub_list_tuple
    have hz' : (items ++ items2).size ≤ sizeLine + 1 := by rw [Array.size_append]; exact hs2
    wp_walk using (wpAny_updateSeq hl rfl (hz := hc1) (_hz' := hz')), wpAny_loadPart' hl, wpAny_loadPart' hb; exact ⟨_, rfl, h⟩
theorem mt_extendG : MtM X "list.extend" (fun x vs H Q => ∃ l b xs zs, x = .ref l ∧ vs = [.ref b] ∧ H l = some (.lst xs) ∧ SqL X.K H b zs ∧ xs.length + zs.length ≤ sizeLine ∧ Q .non (upd H l (.lst (xs ++ zs)))) := by
  intro pins s σ H x vs v us Q I rx rv h
  obtain ⟨l, b, xs, zs, rfl, rfl, hH, hB, hz, q⟩ := h
  cases rx
  obtain ⟨u, rfl, ru⟩ := rv.one
  cases ru
  obtain ⟨z, its, n, r, hl, e⟩ := I.lstM hH
  obtain ⟨its2, r2, ⟨⟨c2, d2, t2, sl2⟩, n2, e2, hc2, hd2, ht2⟩, z2⟩ := I.list hB
  simp only at hc2 hd2 ht2
  subst hc2 hd2 ht2
  have hl2 := r2.length
  have hsz : its.toArray.size + its2.toArray.size ≤ sizeLine := by rw [List.size_toArray, List.size_toArray]; omega
  have hlong : ¬ (!its.toArray.isEmpty && Builtin.List.listTooLong (its.toArray.size + its2.toArray.size)) = true := by
    rw [notLongL hsz, Bool.and_false]
    exact Bool.false_ne_true
  refine call_meets F.slot_list_extend ⟨_, e, rfl⟩ F.entry_list_extend (F.args_list_extend_2 _ _)
    (list_extendW l its.toArray n b its2.toArray n2 none sl2 hlong (by rw [List.size_toArray]; omega) (by omega)) ⟨e, e2, ?_⟩
  refine ⟨.non, _, I.lset (its' := its ++ its2) hH e (by simp) (r.append r2) ?_, rfl, q⟩
  rw [List.length_append]
  omega
/-- a thing of the store as an object -/
theorem obj_at {K : PySem.W.Frag} {o : Wd} {H : Hp} {S : Store} {n : Nat} {ts : List T} {v : V} (R : HRel K o S H) (r : Rep K o (.obj n) v) (h : S[n]? = some (.lst ts)) :
    ∃ l vs, v = .ref l ∧ o.rho[n]? = some l ∧ H l = some (.lst vs) ∧ vs.length ≤ sizeLine ∧ Reps K o ts vs := by
  cases r with
  | obj hr =>
    obtain ⟨_, vs, h1, hz, h2⟩ := R.lst n ts _ h hr
    exact ⟨_, vs, rfl, hr, h1, hz, h2⟩
theorem t_app : MtR X "list.append" (fun x vs H Q => ∃ (o : Wd) (S : Store) (tx ty : T) (v : V), vs = [v] ∧ HRel X.K o S H ∧ Rep X.K o tx x ∧ Rep X.K o ty v ∧ Post X.K W (Rep X.K) o H (appK tx ty S) Q) := by
  intro pins s σ H x xs v us Q I rx rxs h
  obtain ⟨o, S, tx, ty, w, rfl, R, r1, r2, q⟩ := h
  unfold appK at q
  split at q
  · split at q
    · rename_i n ts e
      split at q
      · rename_i hz
        obtain ⟨l, vs, rfl, hr, h1, hzv, h2⟩ := obj_at R r1 e
        have hz' : vs.length < sizeLine := by rw [← h2.length]; exact Nat.lt_of_lt_of_le hz line_size
        obtain ⟨R', x'⟩ := R.written e hr (h2.append (.cons r2 .nil)) (by rw [List.length_append]; exact hz')
        exact mt_append pins s σ H _ _ v us Q I rx rxs ⟨l, vs, w, rfl, rfl, h1, hz', q _ _ _ x' R' rN⟩
      · exact q.elim
    · exact q.elim
  · exact q.elim
theorem t_ext : MtR X "list.extend" (fun x vs H Q => ∃ (o : Wd) (S : Store) (tx ty : T) (v : V), vs = [v] ∧ HRel X.K o S H ∧ Rep X.K o tx x ∧ Rep X.K o ty v ∧ Post X.K W (Rep X.K) o H (extK tx ty S) Q) := by
  intro pins s σ H x xs v us Q I rx rxs h
  obtain ⟨o, S, tx, ty, w, rfl, R, r1, r2, q⟩ := h
  unfold extK at q
  split at q
  · split at q
    · rename_i n ts us' e e2
      split at q
      · rename_i hz
        obtain ⟨l, vs, rfl, hr, h1, hzv, h2⟩ := obj_at R r1 e
        obtain ⟨l2, ws, rfl, h3, _, h4⟩ := rep_lstOf R r2 e2
        have hz' : vs.length + ws.length ≤ sizeLine := by rw [← h2.length, ← h4.length]; exact Nat.le_trans (Nat.le_of_lt hz) line_size
        obtain ⟨R', x'⟩ := R.written e hr (h2.append h4) (by rw [List.length_append]; exact hz')
        exact mt_extendG pins s σ H _ _ v us Q I rx rxs ⟨l, l2, vs, ws, rfl, rfl, h1, h3, hz', q _ _ _ x' R' rN⟩
      · exact q.elim
    · exact q.elim
  · exact q.elim
theorem t_pop : MtR X "list.pop" (fun x vs H Q => ∃ (o : Wd) (S : Store) (tx : T), vs = [] ∧ HRel X.K o S H ∧ Rep X.K o tx x ∧ Post X.K W (Rep X.K) o H (popK tx S) Q) := by
  intro pins s σ H x xs v us Q I rx rxs h
  obtain ⟨o, S, tx, rfl, R, r1, q⟩ := h
  unfold popK at q
  split at q
  · split at q
    · rename_i n ts e
      split at q
      · rename_i t e2
        obtain ⟨l, vs, rfl, hr, h1, hzv, h2⟩ := obj_at R r1 e
        obtain ⟨w, hw, rw'⟩ := h2.get e2
        obtain ⟨R', x'⟩ := R.written e hr h2.dropLast (by rw [List.length_dropLast]; omega)
        exact mt_pop pins s σ H _ _ v us Q I rx rxs ⟨l, vs, w, rfl, rfl, h1, by rw [← h2.length]; exact hw, q _ _ _ x' R' ((rw'.norm R).ext x')⟩
      · exact q.elim
    · exact q.elim
  · exact q.elim
theorem seqIx {i : Int} {n : Nat} (h0 : 0 ≤ i) (h1 : i.toNat < n) : seqIndex? i n = some i.toNat := by
  obtain ⟨k, rfl⟩ := Int.eq_ofNat_of_zero_le h0
  have : ixN n (k : Int) = some k := by unfold ixN; rw [if_pos h0, if_pos (by simpa using h1)]; simp
  exact (ixN_seq this).1
theorem t_popAt : MtR X "list.pop" (fun x vs H Q => ∃ (o : Wd) (S : Store) (tx ty : T) (v : V), vs = [v] ∧ HRel X.K o S H ∧ Rep X.K o tx x ∧ Rep X.K o ty v ∧ Post X.K W (Rep X.K) o H (popAtK tx ty S) Q) := by
  intro pins s σ H x xs v us Q I rx rxs h
  obtain ⟨o, S, tx, ty, w, rfl, R, r1, r2, q⟩ := h
  unfold popAtK at q
  split at q
  · split at q
    · rename_i n i _ ts e
      split at q
      · rename_i hi
        split at q
        · rename_i t e2
          cases rep_int r2
          simp only [Bool.and_eq_true, decide_eq_true_eq] at hi
          obtain ⟨l, vs, rfl, hr, h1, hzv, h2⟩ := obj_at R r1 e
          obtain ⟨w, hw, rw'⟩ := h2.get e2
          have hlt : i.toNat < vs.length := (List.getElem?_eq_some_iff.mp hw).1
          obtain ⟨R', x'⟩ := R.written e hr (h2.eraseIdx i.toNat) (by have := List.length_eraseIdx_le vs i.toNat; omega)
          exact mt_popAt pins s σ H _ _ v us Q I rx rxs ⟨l, vs, i, i.toNat, w, rfl, rfl, h1, by omega, by omega, seqIx hi.1 hlt, hw, q _ _ _ x' R' ((rw'.norm R).ext x')⟩
        · exact q.elim
      · exact q.elim
    · exact q.elim
  · exact q.elim
theorem t_index (hu : X.A.units + 65 < cLine) : MtR X "list.index" (fun x vs H Q => ∃ (o : Wd) (S : Store) (tx ty : T) (v : V), vs = [v] ∧ HRel X.K o S H ∧ Rep X.K o tx x ∧ Rep X.K o ty v ∧ Post X.K W (Rep X.K) o H (indexK tx ty S) Q) := by
  intro pins s σ H x xs v us Q I rx rxs h
  obtain ⟨o, S, tx, ty, w, rfl, R, r1, r2, q⟩ := h
  unfold indexK at q
  split at q
  · rename_i ds d e1 e2
    split at q
    · rename_i hd
      split at q
      · rename_i j ej
        obtain ⟨h1, c1⟩ := rep_snap R _ _ _ _ r1 e1
        obtain ⟨h2, c2⟩ := rep_snap R _ _ _ _ r2 e2
        have ev : ∃ l, x = .ref l := by cases h1; exact ⟨_, rfl⟩
        obtain ⟨l, rfl⟩ := ev
        rw [List.findIdx?_eq_some_iff_getElem] at ej
        obtain ⟨hj, hjz, hno⟩ := ej
        simp only [Bool.and_eq_true, decide_eq_true_eq] at hd
        refine mt_indexD hu pins s σ H _ _ v us Q I rx rxs ⟨l, w, d, ds, j, ds[j], rfl, rfl, h1, h2, ?_, ?_, by simp [hj], hjz, fun m z' hm hz => ?_, q.here R rI⟩
        · unfold SeqAt.shaped
          rw [c1, Bool.true_and, decide_eq_true_eq]; omega
        · unfold SeqAt.shaped
          rw [c2, Bool.true_and, decide_eq_true_eq]; omega
        · obtain ⟨hm', e'⟩ := List.getElem?_eq_some_iff.mp hz
          subst e'
          simpa using hno m hm
      · exact q.elim
    · exact q.elim
  · exact q.elim

/-! ### targets -/
mutual
def slots : Tg → List Nat
  | .nm i => [i]
  | .tup gs => slotss gs
  | .sub _ _ => []
def slotss : Tgs → List Nat
  | .nil => []
  | .cons g gs => slots g ++ slotss gs
end
/-- behind a target's store: the slots, nothing else changed -/
def relG (K : PySem.W.Frag) (σ : L2.St) (is : List Nat) : Wd → Sg → L2.St → Prop := fun o sg' σ' => SRel K o sg' σ' ∧ ∀ vs : List Nat, (∀ i ∈ is, i ∈ vs) → L2.wipe σ' vs = L2.wipe σ vs
def mg (K : PySem.W.Frag) (W : Wsh) (is : List Nat) (d : T → Sg → Store → R Sg) : TG := fun v σ H Q =>
  ∃ (o : Wd) (sg : Sg) (S : Store) (t : T), SRel K o sg σ ∧ HRel K o S H ∧ Rep K o t v ∧ Post K W (relG K σ is) o H (d t sg S) Q
def mgs (K : PySem.W.Frag) (W : Wsh) (is : List Nat) (d : List T → Sg → Store → R Sg) : TGs := fun vs σ H Q =>
  ∃ (o : Wd) (sg : Sg) (S : Store) (ts : List T), SRel K o sg σ ∧ HRel K o S H ∧ Reps K o ts vs ∧ Post K W (relG K σ is) o H (d ts sg S) Q
theorem _root_.L2.PG.imp {X : Cx} {e : Expr} {t t' : TG} (h : PG X e t) (q : ∀ v σ H Q, t' v σ H Q → t v σ H Q) : PG X e t' := ⟨fun pins s σ H v u Q I r h' => h.run pins s σ H v u Q I r (q _ _ _ _ h')⟩
theorem _root_.L2.PGs.imp {X : Cx} {e : List Expr} {t t' : TGs} (h : PGs X e t) (q : ∀ v σ H Q, t' v σ H Q → t v σ H Q) : PGs X e t' := ⟨fun pins s σ H v u Q I r h' => h.run pins s σ H v u Q I r (q _ _ _ _ h')⟩
theorem srel_set {K : PySem.W.Frag} {o : Wd} {sg : Sg} {σ : L2.St} {i : Nat} {t : T} {v : V} (r : SRel K o sg σ) (h : Rep K o t v) : SRel K o (sg.set i (some t)) (σ.set i (some v)) := by
  refine ⟨by simp [r.1], fun j u e => ?_⟩
  by_cases hj : i = j
  · subst hj
    have hi : i < sg.length := by
      by_cases hi : i < sg.length
      · exact hi
      · rw [List.getElem?_eq_none (by simpa using hi)] at e; cases e
    rw [List.getElem?_set_self hi] at e
    cases e
    exact ⟨v, by rw [List.getElem?_set_self (by rw [← r.1]; exact hi)], h⟩
  · rw [List.getElem?_set_ne hj] at e
    obtain ⟨w, h1, h2⟩ := r.2 j u e
    exact ⟨w, by rw [List.getElem?_set_ne hj]; exact h1, h2⟩
theorem srel_wipe {K : PySem.W.Frag} {o : Wd} {sg : Sg} {σ : L2.St} (r : SRel K o sg σ) : ∀ vs, SRel K o (wipe sg vs) (L2.wipe σ vs)
  | [] => r
  | v :: vs => by
    have q := srel_wipe r vs
    refine ⟨by simp [wipe, L2.wipe, q.1], fun j u e => ?_⟩
    unfold wipe at e
    unfold L2.wipe
    by_cases hj : v = j
    · subst hj
      by_cases hi : v < (wipe sg vs).length
      · rw [List.getElem?_set_self hi] at e; cases e
      · rw [List.getElem?_eq_none (by simpa using hi)] at e; cases e
    · rw [List.getElem?_set_ne hj] at e
      obtain ⟨w, h1, h2⟩ := q.2 j u e
      exact ⟨w, by rw [List.getElem?_set_ne hj]; exact h1, h2⟩
theorem wipe_set {σ : L2.St} {i : Nat} {x : Option V} : ∀ {vs : List Nat}, i ∈ vs → L2.wipe (σ.set i x) vs = L2.wipe σ vs
  | v :: vs, h => by
    unfold L2.wipe
    by_cases hv : v = i
    · subst hv
      by_cases hm : v ∈ vs
      · rw [wipe_set hm]
      · have : ∀ ws : List Nat, v ∉ ws → L2.wipe (σ.set v x) ws = (L2.wipe σ ws).set v x := by
          intro ws
          induction ws with
          | nil => intro _; rfl
          | cons w ws ih =>
            intro hw
            simp only [List.mem_cons, not_or] at hw
            unfold L2.wipe
            rw [ih hw.2, List.set_comm _ _ hw.1]
        rw [this vs hm, List.set_set]
    · have hm : i ∈ vs := by
        rcases List.mem_cons.mp h with h | h
        · exact absurd h.symm hv
        · exact h
      rw [wipe_set hm]
theorem m_nm {i : Nat} (hN : X.N.Nodup) (hi : X.N[i]? = some x) (hx : Loc X.env.scope x) (hf : X.fn x = true ∨ X.env.scope.names.lookup x = some .local) : PG X (.Name x pos) (mg X.K W (slots (.nm i)) (evG cf (.nm i))) := by
  refine (pg_name hN hi hx hf).imp fun v σ H Q h => ?_
  obtain ⟨o, sg, S, t, rs, R, r, p⟩ := h
  have e : evG cf (.nm i) t sg S = .ok (sg.set i (some t)) S := by rw [evG]
  rw [e] at p
  exact p o _ H Ext.refl R ⟨srel_set rs r, fun vs h => wipe_set (h i (by simp [slots]))⟩
theorem m_gnil : PGs X [] (mgs X.K W (slotss .nil) (evGs cf .nil)) := by
  refine pgs_nil.imp fun v σ H Q h => ?_
  obtain ⟨o, sg, S, ts, rs, R, r, p⟩ := h
  cases r with
  | nil =>
    have e : evGs cf .nil [] sg S = .ok sg S := by rw [evGs]
    rw [e] at p
    exact ⟨rfl, p o _ H Ext.refl R ⟨rs, fun _ _ => rfl⟩⟩
  | cons r q =>
    exact (show False from by simpa [evGs, Post] using p).elim
theorem asg_cons {e : Expr} {es : List Expr} {env : Env} (h : nst e = true) : assignEach (e :: es) env = (false, assign e env) :: assignEach es env := by
  cases e <;> first | rfl | cases h
theorem m_gcons {e : Expr} {es : List Expr} {g : Tg} {gs : Tgs} (hs : nst e = true) (h1 : PG X e (mg X.K W (slots g) (evG cf g))) (h2 : PGs X es (mgs X.K W (slotss gs) (evGs cf gs))) :
    PGs X (e :: es) (mgs X.K W (slotss (.cons g gs)) (evGs cf (.cons g gs))) := by
  refine (pgs_cons h1 h2 (by rw [asg_cons hs]; rfl)).imp fun vs σ H Q h => ?_
  obtain ⟨o, sg, S, ts, rs, R, r, p⟩ := h
  cases r with
  | nil => exact (show False from by simpa [evGs, Post] using p).elim
  | @cons t ts v vs r q =>
    have e : evGs cf (.cons g gs) (t :: ts) sg S = (evG cf g t sg S).bnd fun sg1 S1 => evGs cf gs ts sg1 S1 := by rw [evGs]
    rw [e] at p
    refine ⟨v, vs, rfl, o, sg, S, t, rs, R, r, (Post.bnd (rel := relG X.K σ (slots g)) p).imp fun σ1 H1 z => ?_⟩
    obtain ⟨o1, sg1, S1, x1, R1, ⟨rs1, wp⟩, p1⟩ := z
    refine ⟨o1, sg1, S1, ts, rs1, R1, q.ext x1, ?_⟩
    cases e2 : evGs cf gs ts sg1 S1 with
    | ok sg2 S2 =>
      rw [e2] at p1
      exact fun o2 σ2 H2 x2 R2 ⟨rs2, wp2⟩ => p1 o2 σ2 H2 x2 R2 ⟨rs2, fun vs hv => (wp2 vs fun i hi => hv i (List.mem_append_right _ hi)).trans (wp vs fun i hi => hv i (List.mem_append_left _ hi))⟩
    | ex y S2 => rw [e2] at p1; exact p1
    | no => rw [e2] at p1; exact p1
theorem asg_len : ∀ {es : List Expr} {env : Env}, (assignEach es env).length = es.length
  | [], _ => rfl
  | e :: es, env => by
    have : assignEach (e :: es) env = (nst e == false, (match e with | .Starred t _ => assign t env | t => assign t env)) :: assignEach es env := by cases e <;> rfl
    rw [this, List.length_cons, List.length_cons, asg_len]
theorem asg_nostar : ∀ {es : List Expr} {env : Env}, es.all nst = true → (assignEach es env).findIdx? (·.1) = none
  | [], _, _ => rfl
  | e :: es, env, h => by
    simp only [List.all_cons, Bool.and_eq_true] at h
    rw [asg_cons h.1, List.findIdx?_cons, asg_nostar h.2]; rfl
theorem m_gtup {es : List Expr} {gs : Tgs} {k : Nat} (hc : X.calm = true) (h : PGs X es (mgs X.K W (slotss gs) (evGs cf gs))) (hl : gs.len = es.length) (hs : es.all nst = true) : PG X (.Tuple es k pos) (mg X.K W (slots (.tup gs)) (evG cf (.tup gs))) := by
  refine (pg_tup (n := es.length) hc h asg_len (asg_nostar hs)).imp fun v σ H Q h => ?_
  obtain ⟨o, sg, S, t, rs, R, r, p⟩ := h
  have e : evG cf (.tup gs) t sg S = (asTup gs.len t S).bnd fun ts S1 => evGs cf gs ts sg S1 := by rw [evG]
  rw [e] at p
  unfold asTup at p
  split at p
  · rename_i ts e2
    split at p
    · rename_i hlen
      obtain ⟨l, vs, rfl, h1, q1, f1⟩ := rep_tupOf R r e2
      exact ⟨l, vs, rfl, h1, by rw [← q1.length, hlen, hl], o, sg, S, ts, rs, R, q1, p⟩
    · exact p.elim
  · exact p.elim
/-- a[b] = .. of a list of the store -/
theorem s_sub : PSet X (fun ox ix v H Q => ∃ (o : Wd) (S : Store) (tx ty t : T) (sg : Sg), HRel X.K o S H ∧ Rep X.K o tx ox ∧ Rep X.K o ty ix ∧ Rep X.K o t v ∧ Post X.K W (fun _ (x : Sg) (y : Sg) => x = y) o H (subK tx ty t sg S) (fun sg' H' => sg' = sg → Q H')) := by
  intro pins s σ H ox ix v ov iv u Q I r1 r2 r3 h
  obtain ⟨o, S, tx, ty, t, sg, R, q1, q2, q3, p⟩ := h
  unfold subK at p
  split at p
  · split at p
    · rename_i n k _ ts e
      split at p
      · rename_i hk
        simp only [Bool.and_eq_true, decide_eq_true_eq] at hk
        cases rep_int q2
        obtain ⟨l, vs, rfl, hr, h1, hz, h2⟩ := obj_at R q1 e
        obtain ⟨R', x'⟩ := R.written e hr (Reps.set k.toNat q3 h2) (by rw [List.length_set]; exact hz)
        have hlt : k < (vs.length : Int) := by rw [← h2.length]; exact hk.2
        refine set_list pins s σ H _ _ v ov iv u Q I r1 r2 r3 ⟨l, vs, k, k.toNat, rfl, rfl, h1, ?_, p o sg _ x' R' rfl rfl⟩
        unfold ixN
        rw [if_pos hk.1, if_pos hlt]
      · exact p.elim
    · exact p.elim
  · exact p.elim
def nsl : Expr → Bool
  | .Slice .. => false
  | _ => true
theorem m_gsub (hsl : nsl b = true) (ha : PE X a (mt X.K W (ev cf xa))) (hb : PE X b (mt X.K W (ev cf xb))) : PG X (.Subscript a b pos) (mg X.K W (slots (.sub xa xb)) (evG cf (.sub xa xb))) := by
  refine (pg_sub ha hb (s_sub (W := W)) (fun v => by cases b <;> first | rfl | cases hsl)).imp fun v σ H Q h => ?_
  obtain ⟨o, sg, S, t, rs, R, r, p⟩ := h
  have e : evG cf (.sub xa xb) t sg S = (ev cf xa sg S).bnd fun x S1 => (ev cf xb sg S1).bnd fun y S2 => subK x y t sg S2 := by rw [evG]
  rw [e] at p
  refine ⟨o, sg, S, rs, R, (Post.bnd (rel := Rep X.K) p).imp fun x H1 z => ?_⟩
  obtain ⟨o1, tx, S1, x1, R1, r1, p1⟩ := z
  refine ⟨o1, sg, S1, rs.ext x1, R1, (Post.bnd (rel := Rep X.K) p1).imp fun y H2 z => ?_⟩
  obtain ⟨o2, ty, S2, x2, R2, r2, p2⟩ := z
  refine ⟨o2, S2, tx, ty, t, sg, R2, r1.ext x2, r2, (r.ext x1).ext x2, ?_⟩
  cases e3 : subK tx ty t sg S2 with
  | ok sg' S3 =>
    rw [e3] at p2
    intro o3 sg'' H3 x3 R3 e4 e5
    subst e4
    subst e5
    exact p2 o3 σ H3 x3 R3 ⟨((rs.ext x1).ext x2).ext x3, fun _ _ => rfl⟩
  | ex y S3 => rw [e3] at p2; exact p2
  | no => rw [e3] at p2; exact p2
end
end Mc
end

section
set_option Elab.async false
set_option linter.all false
set_option maxRecDepth 100000
set_option maxHeartbeats 4000000
set_option autoImplicit false
/-! McI: what is walked; for, while, comprehensions -/
namespace Mc
open PySem PySem.Spec PyProof.Rows L2

section
variable {K : PySem.W.Frag}
/-- at turn i of the items ts -/
def Walks (K : PySem.W.Frag) (o : Wd) (S : Store) (H : Hp) (J : L2.It) (ts : List T) (i : Nat) : Prop :=
  (ts[i]? = none → J.stop i H) ∧ (∀ t, ts[i]? = some t → J.go i H ∧ ∀ x H', J.yld i H x H' → ∃ o', Ext o H o' H' ∧ HRel K o' S H' ∧ Rep K o' t x)
def Up (o o1 : Wd) : Prop := (∀ (n : Nat) (a : Addr), o.rho[n]? = some a → o1.rho[n]? = some a) ∧ ∀ a u, o.FH a = some u → o1.FH a = some u
theorem Up.of {o o1 : Wd} {H H1 : Hp} (e : Ext o H o1 H1) : Up o o1 := ⟨e.rho, e.fh⟩
theorem Up.refl {o : Wd} : Up o o := ⟨fun _ _ h => h, fun _ _ h => h⟩
theorem Up.trans {o o1 o2 : Wd} (a : Up o o1) (b : Up o1 o2) : Up o o2 := ⟨fun n x h => b.1 n x (a.1 n x h), fun x u h => b.2 x u (a.2 x u h)⟩
def relW (K : PySem.W.Frag) : Wd → Wk → L2.It → Prop := fun o w J => match w with
  | .its ts => ts.length ≤ sizeLine ∧ ∀ (o1 : Wd) (S1 : Store) (H1 : Hp), Up o o1 → HRel K o1 S1 H1 → ∀ i, Walks K o1 S1 H1 J ts i
  | .cell n => ∀ (o1 : Wd) (S1 : Store) (H1 : Hp) (ts : List T), Up o o1 → HRel K o1 S1 H1 → lstOf S1 (.obj n) = some ts → ∀ i, Walks K o1 S1 H1 J ts i
theorem walks_list {o : Wd} {S : Store} {H : Hp} {a : Addr} {vs : List V} {ts : List T} (R : HRel K o S H) (h : SqL K H a vs) (r : Reps K o ts vs) (i : Nat) : Walks K o S H (Itl K a) ts i := by
  refine ⟨fun e => ⟨vs, h, ?_⟩, fun t e => ?_⟩
  · rw [← r.length]; exact List.getElem?_eq_none_iff.mp e
  · obtain ⟨v, hv, rv⟩ := r.get e
    refine ⟨⟨vs, v, h, hv⟩, fun x H' y => ?_⟩
    obtain ⟨e1, y⟩ := y
    subst e1
    have := y vs h
    rw [hv] at this; cases this
    exact ⟨o, Ext.refl, R, rv⟩
theorem walks_tup {o : Wd} {S : Store} {H : Hp} {a : Addr} {vs : List V} {ts : List T} (R : HRel K o S H) (h : SqT K H a vs) (r : Reps K o ts vs) (i : Nat) : Walks K o S H (Itt K a) ts i := by
  refine ⟨fun e => ⟨vs, h, ?_⟩, fun t e => ?_⟩
  · rw [← r.length]; exact List.getElem?_eq_none_iff.mp e
  · obtain ⟨v, hv, rv⟩ := r.get e
    refine ⟨⟨vs, v, h, hv⟩, fun x H' y => ?_⟩
    obtain ⟨e1, y⟩ := y
    subst e1
    have := y vs h
    rw [hv] at this; cases this
    exact ⟨o, Ext.refl, R, rv⟩
theorem rng_len : ∀ (n : Nat) (lo : Int), (rng lo n).length = n
  | 0, _ => rfl
  | n + 1, lo => by rw [rng, List.length_cons, rng_len n]
theorem rng_get : ∀ (n : Nat) (lo : Int) (i : Nat), (rng lo n)[i]? = if i < n then some (tI (lo + i)) else none
  | 0, _, _ => by simp [rng]
  | n + 1, lo, 0 => by simp [rng]
  | n + 1, lo, i + 1 => by
    rw [rng, List.getElem?_cons_succ, rng_get n]
    by_cases h : i < n
    · rw [if_pos h, if_pos (by omega)]
      congr 2
      have : lo + 1 + (i : Int) = lo + ((i + 1 : Nat) : Int) := by omega
      rw [this]
    · rw [if_neg h, if_neg (by omega)]
theorem walks_rng {o : Wd} {S : Store} {H : Hp} {lo : Int} {n : Nat} (R : HRel K o S H) (i : Nat) : Walks K o S H (Itr lo n) (rng lo n) i := by
  refine ⟨fun e => ?_, fun t e => ?_⟩
  · rw [rng_get] at e
    split at e
    · cases e
    · show n ≤ i; omega
  · rw [rng_get] at e
    split at e
    · cases e
      refine ⟨by assumption, fun x H' y => ?_⟩
      obtain ⟨e1, y⟩ := y
      subst e1 y
      exact ⟨o, Ext.refl, R, rI⟩
    · cases e
theorem strT_len : ∀ cs : List Nat, (strT cs).length = cs.length
  | [] => rfl
  | c :: cs => by rw [strT, List.length_cons, List.length_cons, strT_len cs]
theorem strT_get : ∀ (cs : List Nat) (i : Nat), (strT cs)[i]? = cs[i]?.map fun c => tS ⟨#[c]⟩
  | [], _ => by simp [strT]
  | c :: cs, 0 => by simp [strT]
  | c :: cs, i + 1 => by rw [strT, List.getElem?_cons_succ, List.getElem?_cons_succ, strT_get cs]
theorem walks_str {o : Wd} {S : Store} {H : Hp} {x : Str} (hx : PyData.canLay0 (.str x) = true) (R : HRel K o S H) (i : Nat) : Walks K o S H (Its x) (strT x.cps.toList) i := by
  refine ⟨fun e => ?_, fun t e => ?_⟩
  · rw [strT_get] at e
    simp only [Option.map_eq_none_iff, List.getElem?_eq_none_iff, Array.length_toList] at e
    exact e
  · rw [strT_get] at e
    simp only [Option.map_eq_some_iff] at e
    obtain ⟨c, e, rfl⟩ := e
    refine ⟨by have := (List.getElem?_eq_some_iff.mp e).1; rw [Array.length_toList] at this; exact this, fun v H' y => ?_⟩
    obtain ⟨e1, c', e2, rfl⟩ := y
    subst e1
    rw [← Array.getElem?_toList, e] at e2
    cases e2
    refine ⟨o, Ext.refl, R, rS ?_⟩
    simp only [PyData.canLay0, PyData.strOk] at hx ⊢
    have hm : c ∈ x.cps := by
      have := List.mem_of_getElem? e
      simpa using this
    have := (Array.all_eq_true_iff_forall_mem.mp hx) c hm
    simpa using this
theorem enum_len : ∀ (ts : List T) (k : Nat), (enumFrom k ts).length = ts.length
  | [], _ => rfl
  | t :: ts, k => by rw [enumFrom, List.length_cons, List.length_cons, enum_len ts]
theorem enum_get : ∀ (ts : List T) (k i : Nat), (enumFrom k ts)[i]? = ts[i]?.map fun t => mkTup [tI ((k + i : Nat) : Int), t]
  | [], _, _ => by simp [enumFrom]
  | t :: ts, k, 0 => by simp [enumFrom]
  | t :: ts, k, i + 1 => by
    rw [enumFrom, List.getElem?_cons_succ, List.getElem?_cons_succ, enum_get ts]
    have : k + 1 + i = k + (i + 1) := by omega
    rw [this]
theorem laid_tup {o : Wd} {S : Store} {H : Hp} {p : Addr} {ts : List T} {vs : List V} (R : HRel K o S H) (hp : H p = none) (r : Reps K o ts vs) (hz : vs.length ≤ sizeLine) :
    ∃ o', Ext o H o' (upd H p (.tup vs)) ∧ HRel K o' S (upd H p (.tup vs)) ∧ Rep K o' (mkTup ts) (.ref p) := by
  obtain ⟨R', x⟩ := R.laid (u := .tup vs) hp hz
  exact ⟨_, x, R', rep_mkTup (.of upd_same) (r.ext x)⟩
theorem two_line : (2 : Nat) ≤ sizeLine := by decide
theorem walks_enum {o : Wd} {S : Store} {H : Hp} {a : Addr} {vs : List V} {ts : List T} (R : HRel K o S H) (h : SqL K H a vs) (r : Reps K o ts vs) (i : Nat) : Walks K o S H (Ite K a) (enumFrom 0 ts) i := by
  refine ⟨fun e => ⟨vs, h, ?_⟩, fun t e => ?_⟩
  · rw [enum_get] at e
    simp only [Option.map_eq_none_iff, List.getElem?_eq_none_iff] at e
    rw [← r.length]; exact e
  · rw [enum_get] at e
    simp only [Option.map_eq_some_iff] at e
    obtain ⟨u, e, rfl⟩ := e
    obtain ⟨v, hv, rv⟩ := r.get e
    refine ⟨⟨vs, v, h, hv⟩, fun x H' y => ?_⟩
    obtain ⟨p, w, rfl, np, rfl, y⟩ := y
    have := y vs h
    rw [hv] at this; cases this
    have z : (0 + i : Nat) = i := Nat.zero_add i
    rw [z]
    exact laid_tup R np (.cons rI (.cons rv .nil)) two_line
theorem zip_len : ∀ (xs ys : List T), (zipT xs ys).length = min xs.length ys.length
  | [], _ => by simp [zipT]
  | _ :: _, [] => by simp [zipT]
  | x :: xs, y :: ys => by rw [zipT, List.length_cons, List.length_cons, List.length_cons, zip_len xs ys]; omega
theorem zip_get : ∀ (xs ys : List T) (i : Nat), (zipT xs ys)[i]? = match xs[i]?, ys[i]? with | some x, some y => some (mkTup [x, y]) | _, _ => none
  | [], _, _ => by simp [zipT]
  | _ :: _, [], i => by
    simp only [zipT, List.getElem?_nil]
    split
    · rename_i h; cases h
    · rfl
  | x :: xs, y :: ys, 0 => by simp [zipT]
  | x :: xs, y :: ys, i + 1 => by rw [zipT, List.getElem?_cons_succ, List.getElem?_cons_succ, List.getElem?_cons_succ, zip_get xs ys]
theorem zip_none {xs ys : List T} {i : Nat} (h : (zipT xs ys)[i]? = none) : xs.length ≤ i ∨ ys.length ≤ i := by
  rw [List.getElem?_eq_none_iff, zip_len] at h
  omega
theorem zip_some {xs ys : List T} {i : Nat} {t : T} (h : (zipT xs ys)[i]? = some t) : ∃ x y, xs[i]? = some x ∧ ys[i]? = some y ∧ t = mkTup [x, y] := by
  rw [zip_get] at h
  split at h
  · rename_i x y e1 e2
    cases h
    exact ⟨x, y, e1, e2, rfl⟩
  · cases h
theorem walks_zip {o : Wd} {S : Store} {H : Hp} {a b : Addr} {vs ws : List V} {ts us : List T} (R : HRel K o S H) (h : SqL K H a vs) (h2 : SqL K H b ws) (r : Reps K o ts vs) (r2 : Reps K o us ws) (i : Nat) : Walks K o S H (Itz K a b) (zipT ts us) i := by
  refine ⟨fun e => ⟨vs, ws, h, h2, ?_⟩, fun t e => ?_⟩
  · rw [← r.length, ← r2.length]; exact zip_none e
  · obtain ⟨x, y, e1, e2, rfl⟩ := zip_some e
    obtain ⟨v, hv, rv⟩ := r.get e1
    obtain ⟨w, hw, rw'⟩ := r2.get e2
    refine ⟨⟨vs, ws, v, w, h, h2, hv, hw⟩, fun x H' y => ?_⟩
    obtain ⟨p, x', y', rfl, np, rfl, y1, y2⟩ := y
    have := y1 vs h
    rw [hv] at this; cases this
    have := y2 ws h2
    rw [hw] at this; cases this
    exact laid_tup R np (.cons rv (.cons rw' .nil)) two_line
theorem walks_zipT {o : Wd} {S : Store} {H : Hp} {a b : Addr} {vs ws : List V} {ts us : List T} (R : HRel K o S H) (h : SqT K H a vs) (h2 : SqT K H b ws) (r : Reps K o ts vs) (r2 : Reps K o us ws) (i : Nat) : Walks K o S H (RZ.ItzT K a b) (zipT ts us) i := by
  refine ⟨fun e => ⟨vs, ws, h, h2, ?_⟩, fun t e => ?_⟩
  · rw [← r.length, ← r2.length]; exact zip_none e
  · obtain ⟨x, y, e1, e2, rfl⟩ := zip_some e
    obtain ⟨v, hv, rv⟩ := r.get e1
    obtain ⟨w, hw, rw'⟩ := r2.get e2
    refine ⟨⟨vs, ws, v, w, h, h2, hv, hw⟩, fun x H' y => ?_⟩
    obtain ⟨p, x', y', rfl, np, rfl, y1, y2⟩ := y
    have := y1 vs h
    rw [hv] at this; cases this
    have := y2 ws h2
    rw [hw] at this; cases this
    exact laid_tup R np (.cons rv (.cons rw' .nil)) two_line
end

section
variable {X : Cx} {W : Wsh} {cf : Nat → List T → Store → R T} {pos p tpos : Pos} {a b c tg : Expr} {xa xb xc : Ex} {hp : Bool} {x : Str}
/-- a list, a tuple or a text walked -/
theorem pi_seq {l : Expr} {tl : TE} (hl : PE X l tl) : PI X tg l (fun σ H R => tl σ H fun x H1 => (∃ a, x = .ref a ∧ (∃ xs, SqL X.K H1 a xs) ∧ R (Itl X.K a) H1) ∨ (∃ a, x = .ref a ∧ (∃ xs, SqT X.K H1 a xs) ∧ R (Itt X.K a) H1) ∨ ∃ z, x = .str z ∧ R (Its z) H1) := by
  refine ⟨fun pins s σ H R I h => ?_⟩
  refine thn (hl.run pins s σ H _ I h) fun v s1 ⟨x, H1, I1, r1, q1⟩ => ?_
  rcases q1 with ⟨a, e, ⟨xs, hq⟩, q⟩ | ⟨a, e, ⟨xs, hq⟩, q⟩ | ⟨z, e, q⟩
  · subst e
    cases r1
    obtain ⟨its, rv, p, hz⟩ := I1.list hq
    refine wpAny_pyIter_list p.isList ?_
    refine ⟨s1.heap.objs.size, [s1.heap.objs.size], _, _, H1, rfl, I1.kept (t' := s1.toks) fun b o e => Heap.get?_push_of_some _ e, turn_list a _, ⟨_, Heap.get?_push_size _ rfl, rfl, rfl⟩, fun b hb => ?_, q⟩
    have e : b = s1.heap.objs.size := by simpa using hb
    subst e
    exact I1.fpOk (Nat.le_refl _) (I1.hok.fresh (Nat.le_refl _))
  · subst e
    cases r1
    obtain ⟨its, rv, p, hz⟩ := I1.tuple hq
    refine wpAny_pyIter_tuple (show s1.heap.IsTuple a its.toArray from p) ?_
    refine ⟨s1.heap.objs.size, [s1.heap.objs.size], _, _, H1, rfl, I1.kept (t' := s1.toks) fun b o e => Heap.get?_push_of_some _ e, turn_tuple a _, ⟨_, Heap.get?_push_size _ rfl, rfl, rfl⟩, fun b hb => ?_, q⟩
    have e : b = s1.heap.objs.size := by simpa using hb
    subst e
    exact I1.fpOk (Nat.le_refl _) (I1.hok.fresh (Nat.le_refl _))
  · subst e
    obtain ⟨t, rfl⟩ := r1
    cases ha : z.cps.all (· < 128)
    · exact wpAny_pyIter_wide ha (pi_one (tk := s1.toks) I1 _ (turn_str _ z t "str_iterator" (.inr rfl)) ⟨_, Heap.get?_push_size _ rfl, rfl, rfl⟩ q)
    · exact wpAny_pyIter_ascii ha (pi_one (tk := s1.toks) I1 _ (turn_str _ z t "str_ascii_iterator" (.inl rfl)) ⟨_, Heap.get?_push_size _ rfl, rfl, rfl⟩ q)
abbrev mi (K : PySem.W.Frag) (W : Wsh) (d : Sg → Store → R Wk) : TI := mtG K W (relW K) d
theorem _root_.L2.PI.imp {X : Cx} {tg e : Expr} {t t' : TI} (h : PI X tg e t) (q : ∀ σ H Q, t' σ H Q → t σ H Q) : PI X tg e t' := ⟨fun pins s σ H Q I h' => h.run pins s σ H Q I (q _ _ _ h')⟩
theorem m_iseq (ha : PE X a (mt X.K W (ev cf xa))) : PI X tg a (mi X.K W (evI cf (.seq xa))) := by
  refine (pi_seq ha).imp fun σ H Q h => ?_
  have e : evI cf (.seq xa) = fun sg S => (ev cf xa sg S).bnd fun t S1 => seqK t S1 := by funext sg S; rw [evI]
  rw [e] at h
  refine mt_two' (rel := Rep X.K) (k := fun _ t S1 => seqK t S1) h fun o1 sg t S1 v H1 rs R r p1 => ?_
  unfold seqK at p1
  have r' := r.norm R
  split at p1
  · rename_i n en
    rw [en] at r'
    split at p1
    · rename_i us en2
      cases r' with
      | @obj n a hr =>
        obtain ⟨_, ws, hw, _, _⟩ := R.lst n us a en2 hr
        refine .inl ⟨a, rfl, ⟨ws, .of hw⟩, p1.here R fun o2 S2 H2 ts u R2 e i => ?_⟩
        obtain ⟨l, vs, e1, h1, _, h2⟩ := rep_lstOf R2 (.obj (u.1 _ _ hr)) e
        cases e1
        exact walks_list R2 h1 h2 i
    · exact p1.elim
  · rename_i z en
    rw [en] at r'
    split at p1
    · rename_i hz
      obtain ⟨rfl, hx⟩ := rep_str r'
      exact .inr (.inr ⟨z, rfl, p1.here R ⟨by rw [strT_len]; exact Nat.le_trans hz line_size, fun o2 S2 H2 _ R2 i => walks_str hx R2 i⟩⟩)
    · exact p1.elim
  · rename_i ds en
    rw [en] at r'
    cases r' with
    | d q c =>
      cases q with
      | @lst a vs _ f g =>
        have rr : Reps X.K o1 (ds.map .d) vs := dqAll_reps g (by simpa [PyData.canLay0] using c)
        exact .inl ⟨a, rfl, ⟨vs, sqL_mono R.sub f⟩, p1.here R ⟨by rw [rr.length]; exact sqL_lenOk R.fl f, fun o2 S2 H2 u R2 i => walks_list R2 (sqL_mono R2.sub (sqL_mono u.2 f)) (rr.mono u.1 u.2) i⟩⟩
  · rename_i ts en
    rw [en] at r'
    cases r' with
    | @lst _ a vs f rr =>
      exact .inl ⟨a, rfl, ⟨vs, sqL_mono R.sub f⟩, p1.here R ⟨by rw [rr.length]; exact sqL_lenOk R.fl f, fun o2 S2 H2 u R2 i => walks_list R2 (sqL_mono R2.sub (sqL_mono u.2 f)) (rr.mono u.1 u.2) i⟩⟩
  · split at p1
    · rename_i ts e
      obtain ⟨l, vs, rfl, h1, h2, f⟩ := rep_tupOf R r' e
      exact .inr (.inl ⟨l, rfl, ⟨vs, h1⟩, p1.here R ⟨by rw [h2.length]; exact sqT_lenOk R.fl f, fun o2 S2 H2 u R2 i => walks_tup R2 (sqT_mono R2.sub (sqT_mono u.2 f)) (h2.mono u.1 u.2) i⟩⟩)
    · exact p1.elim
/-- two arguments, then a step by values -/
theorem args2 {α β : Type} {rel : Wd → α → β → Prop} {k : T → T → Store → R α} {σ : L2.St} {H : Hp} {Q : β → Hp → Prop} {Q' : List V → Hp → Prop}
    (h : mtG X.K W rel (fun sg S => (ev cf xa sg S).bnd fun x S1 => (ev cf xb sg S1).bnd fun y S2 => k x y S2) σ H Q)
    (q : ∀ (o : Wd) (S : Store) (x y : T) (v w : V) (H1 : Hp), HRel X.K o S H1 → Rep X.K o x v → Rep X.K o y w → Post X.K W rel o H1 (k x y S) Q → Q' [v, w] H1) : mts X.K W (evs cf (.cons xa (.cons xb .nil))) σ H Q' := by
  rw [evs_two]
  obtain ⟨o, sg, S, rs, R, z⟩ := h
  refine ⟨o, sg, S, rs, R, ?_⟩
  show Post _ _ _ _ _ ((ev cf xa sg S).bnd _) _
  cases e2 : ev cf xa sg S with
  | ok t S1 =>
    simp only [e2, Mc.R.bnd] at z ⊢
    cases e3 : ev cf xb sg S1 with
    | ok u S2 =>
      simp only [e3, Mc.R.bnd] at z ⊢
      intro o1 vs H1 x1 R1 r1
      obtain ⟨v, w, rfl, r1, r2⟩ := reps2 r1
      exact q o1 S2 t u v w H1 R1 r1 r2 (Post.ext x1 z)
    | ex y S2 => simp only [e3, Mc.R.bnd] at z ⊢; exact z
    | no => simp only [e3, Mc.R.bnd] at z; exact z.elim
  | ex y S1 => simp only [e2, Mc.R.bnd] at z ⊢; exact z
  | no => simp only [e2, Mc.R.bnd] at z; exact z.elim
theorem args1 {α β : Type} {rel : Wd → α → β → Prop} {k : T → Store → R α} {σ : L2.St} {H : Hp} {Q : β → Hp → Prop} {Q' : List V → Hp → Prop}
    (h : mtG X.K W rel (fun sg S => (ev cf xa sg S).bnd fun x S1 => k x S1) σ H Q)
    (q : ∀ (o : Wd) (S : Store) (x : T) (v : V) (H1 : Hp), HRel X.K o S H1 → Rep X.K o x v → Post X.K W rel o H1 (k x S) Q → Q' [v] H1) : mts X.K W (evs cf (.cons xa .nil)) σ H Q' := by
  rw [evs_one]
  obtain ⟨o, sg, S, rs, R, z⟩ := h
  refine ⟨o, sg, S, rs, R, ?_⟩
  show Post _ _ _ _ _ ((ev cf xa sg S).bnd _) _
  cases e2 : ev cf xa sg S with
  | ok t S1 =>
    simp only [e2, Mc.R.bnd] at z ⊢
    intro o1 vs H1 x1 R1 r1
    obtain ⟨v, rfl, r9⟩ := reps1 r1
    exact q o1 S1 t v H1 R1 r9 (Post.ext x1 z)
  | ex y S1 => simp only [e2, Mc.R.bnd] at z ⊢; exact z
  | no => simp only [e2, Mc.R.bnd] at z; exact z.elim
theorem m_rng1 (hg : Gl X "range") (hm : X.mg "range" = none) (ha : PE X a (mt X.K W (ev cf xa))) (hs : nst a = true) : PI X tg (.Call (.Name "range" p) [a] [] pos) (mi X.K W (evI cf (.rng1 xa))) := by
  refine (pi_range1 hg hm (m_arg1 ha hs) (star_cons hs)).imp fun σ H Q h => ?_
  have e : evI cf (.rng1 xa) = fun sg S => (ev cf xa sg S).bnd fun t S1 => rng1K t S1 := by funext sg S; rw [evI]
  rw [e] at h
  refine args1 h fun o S x v H1 R r1 q => ?_
  unfold rng1K at q
  split at q
  · split at q
    · rename_i i hi
      cases rep_int r1
      simp only [Bool.and_eq_true, decide_eq_true_eq] at hi
      refine ⟨i, rfl, by omega, by omega, q.here R ⟨?_, fun o2 S2 H2 _ R2 j => walks_rng R2 j⟩⟩
      rw [rng_len]
      have : sizeLine = 16777216 := sizeLine_eq
      omega
    · exact q.elim
  · exact q.elim
theorem m_rng2 (hg : Gl X "range") (hm : X.mg "range" = none) (ha : PE X a (mt X.K W (ev cf xa))) (hb : PE X b (mt X.K W (ev cf xb))) (hs : nst a = true) (hs2 : nst b = true) : PI X tg (.Call (.Name "range" p) [a, b] [] pos) (mi X.K W (evI cf (.rng2 xa xb))) := by
  refine (pi_range2 hg hm (m_arg2 ha hb hs hs2) (by rw [star_cons hs, star_cons hs2]; rfl) (by rw [star_cons hs2]; rfl)).imp fun σ H Q h => ?_
  have e : evI cf (.rng2 xa xb) = fun sg S => (ev cf xa sg S).bnd fun x S1 => (ev cf xb sg S1).bnd fun y S2 => rng2K x y S2 := by funext sg S; rw [evI]
  rw [e] at h
  refine args2 h fun o S x y v w H1 R r1 r2 q => ?_
  unfold rng2K at q
  split at q
  · split at q
    · rename_i i j hi
      cases rep_int r1
      cases rep_int r2
      simp only [Bool.and_eq_true, decide_eq_true_eq] at hi
      refine ⟨i, j, rfl, ⟨by omega, by omega, by omega, by omega⟩, q.here R ⟨?_, fun o2 S2 H2 _ R2 j => walks_rng R2 j⟩⟩
      rw [rng_len]
      have : sizeLine = 16777216 := sizeLine_eq
      omega
    · exact q.elim
  · exact q.elim
theorem still_list {K : PySem.W.Frag} {o : Wd} {S : Store} {H : Hp} {t : T} {v : V} {ts : List T} (R : HRel K o S H) (r : Rep K o t v) (h : stillL S t = some ts) : ∃ a vs, v = .ref a ∧ SqL K o.FH a vs ∧ Reps K o ts vs := by
  have r' := r.norm R
  unfold stillL at h
  split at h
  · rename_i ds en
    cases h
    rw [en] at r'
    cases r' with
    | d q c =>
      cases q with
      | lst f g => exact ⟨_, _, rfl, f, dqAll_reps g (by simpa [PyData.canLay0] using c)⟩
  · rename_i us en
    cases h
    rw [en] at r'
    cases r' with
    | lst f g => exact ⟨_, _, rfl, f, g⟩
  · cases h
theorem m_enum {elts : List Expr} {kk : Nat} (hg : Gl X "enumerate") (hm : X.mg "enumerate" = none) (ha : PE X a (mt X.K W (ev cf xa))) (hs : nst a = true) : PI X (.Tuple elts kk tpos) (.Call (.Name "enumerate" p) [a] [] pos) (mi X.K W (evI cf (.enum xa))) := by
  refine (pi_enum hg hm (m_arg1 ha hs) (by rw [star_cons hs]; rfl)).imp fun σ H Q h => ?_
  have e : evI cf (.enum xa) = fun sg S => (ev cf xa sg S).bnd fun t S1 => enumK t S1 := by funext sg S; rw [evI]
  rw [e] at h
  refine args1 h fun o S x v H1 R r1 q => ?_
  unfold enumK at q
  split at q
  · rename_i ts e2
    obtain ⟨l, vs, rfl, f, rr⟩ := still_list R r1 e2
    exact ⟨l, vs, rfl, sqL_mono R.sub f, q.here R ⟨by rw [enum_len, rr.length]; exact sqL_lenOk R.fl f, fun o2 S2 H2 u R2 j => walks_enum R2 (sqL_mono R2.sub (sqL_mono u.2 f)) (rr.mono u.1 u.2) j⟩⟩
  · exact q.elim
theorem m_zip {elts : List Expr} {kk : Nat} (hg : Gl X "zip") (hm : X.mg "zip" = none) (ha : PE X a (mt X.K W (ev cf xa))) (hb : PE X b (mt X.K W (ev cf xb))) (hs : nst a = true) (hs2 : nst b = true) : PI X (.Tuple elts kk tpos) (.Call (.Name "zip" p) [a, b] [] pos) (mi X.K W (evI cf (.zip xa xb))) := by
  refine (RZ.pi_zipA hg hm (m_arg2 ha hb hs hs2) (star_cons hs) (star_all (by simp [hs2]))).imp fun σ H Q h => ?_
  have e : evI cf (.zip xa xb) = fun sg S => (ev cf xa sg S).bnd fun x S1 => (ev cf xb sg S1).bnd fun y S2 => zipK x y S2 := by funext sg S; rw [evI]
  rw [e] at h
  refine args2 h fun o S x y v w H1 R r1 r2 q => ?_
  unfold zipK at q
  split at q
  · rename_i ts us e1 e2
    obtain ⟨l, vs, rfl, f, rr⟩ := still_list R r1 e1
    obtain ⟨l2, ws, rfl, f2, rr2⟩ := still_list R r2 e2
    refine ⟨l, l2, vs, ws, rfl, .inl ⟨sqL_mono R.sub f, sqL_mono R.sub f2, q.here R ⟨?_, fun o2 S2 H2 u R2 j => walks_zip R2 (sqL_mono R2.sub (sqL_mono u.2 f)) (sqL_mono R2.sub (sqL_mono u.2 f2)) (rr.mono u.1 u.2) (rr2.mono u.1 u.2) j⟩⟩⟩
    rw [zip_len, rr.length, rr2.length]
    have := sqL_lenOk R.fl f
    omega
  · split at q
    · rename_i ts us e1 e2
      obtain ⟨l, vs, rfl, h1, rr, f⟩ := rep_tupOf R r1 e1
      obtain ⟨l2, ws, rfl, h2, rr2, f2⟩ := rep_tupOf R r2 e2
      refine ⟨l, l2, vs, ws, rfl, .inr ⟨h1, h2, q.here R ⟨?_, fun o2 S2 H2 u R2 j => walks_zipT R2 (sqT_mono R2.sub (sqT_mono u.2 f)) (sqT_mono R2.sub (sqT_mono u.2 f2)) (rr.mono u.1 u.2) (rr2.mono u.1 u.2) j⟩⟩⟩
      rw [zip_len, rr.length, rr2.length]
      have := sqT_lenOk R.fl f
      omega
    · exact q.elim
end
end Mc
end

section
set_option Elab.async false
set_option linter.all false
set_option maxRecDepth 100000
set_option maxHeartbeats 4000000
set_option autoImplicit false
/-! McJ: statements, loops, comprehensions -/
namespace Mc
open PySem PySem.Spec PyProof.Rows L2

def PostS (K : PySem.W.Frag) (W : Wsh) (o : Wd) (H : Hp) (r : RS) (D : Ends) : Prop := match r with
  | .nx sg S => ∀ (o' : Wd) (σ' : L2.St) (H' : Hp), Ext o H o' H' → SRel K o' sg σ' → HRel K o' S H' → D.nx σ' H'
  | .bk sg S => ∀ (o' : Wd) (σ' : L2.St) (H' : Hp), Ext o H o' H' → SRel K o' sg σ' → HRel K o' S H' → D.bk σ' H'
  | .ct sg S => ∀ (o' : Wd) (σ' : L2.St) (H' : Hp), Ext o H o' H' → SRel K o' sg σ' → HRel K o' S H' → D.ct σ' H'
  | .rt t S => ∀ (o' : Wd) (v : V) (H' : Hp), Ext o H o' H' → HRel K o' S H' → Rep K o' t v → D.rt v H'
  | .ex x S => W.p o H x S
  | .no => False
def ms (K : PySem.W.Frag) (W : Wsh) (d : Sg → Store → RS) : TS := fun D σ H => ∃ (o : Wd) (sg : Sg) (S : Store), SRel K o sg σ ∧ HRel K o S H ∧ PostS K W o H (d sg S) D

section
variable {K : PySem.W.Frag} {W : Wsh} {o o1 : Wd} {H H1 : Hp} {D D' : Ends}
theorem PostS.ext {r : RS} (x : Ext o H o1 H1) (h : PostS K W o H r D) : PostS K W o1 H1 r D := by
  cases r with
  | nx sg S => exact fun o2 σ2 H2 x2 r R => h o2 σ2 H2 (x.trans R.nd x2) r R
  | bk sg S => exact fun o2 σ2 H2 x2 r R => h o2 σ2 H2 (x.trans R.nd x2) r R
  | ct sg S => exact fun o2 σ2 H2 x2 r R => h o2 σ2 H2 (x.trans R.nd x2) r R
  | rt t S => exact fun o2 v H2 x2 R r => h o2 v H2 (x.trans R.nd x2) R r
  | ex y S => exact W.mono _ _ _ _ _ _ x h
  | no => exact h
theorem PostS.s {α β : Type} {rel : Wd → α → β → Prop} {r : R α} {k : α → Store → RS} (h : PostS K W o H (r.s k) D) :
    Post K W rel o H r (fun v H1 => ∃ (o1 : Wd) (t : α) (S1 : Store), Ext o H o1 H1 ∧ HRel K o1 S1 H1 ∧ rel o1 t v ∧ PostS K W o1 H1 (k t S1) D) := by
  cases r with
  | ok t S => exact fun o1 v H1 x R rv => ⟨o1, t, S, x, R, rv, PostS.ext x h⟩
  | ex y S => exact h
  | no => exact h
theorem PostS.nx_here {sg : Sg} {S : Store} {σ : L2.St} (h : PostS K W o H (.nx sg S) D) (r : SRel K o sg σ) (R : HRel K o S H) : D.nx σ H := h o σ H Ext.refl r R
/-- a turn's end -/
theorem PostS.loop {r : RS} {k : Sg → Store → RS} (h : PostS K W o H (loopK r k) D) (N : L2.St → Hp → Prop)
    (hN : ∀ (o' : Wd) (sg' : Sg) (S' : Store) (σ' : L2.St) (H' : Hp), Ext o H o' H' → SRel K o' sg' σ' → HRel K o' S' H' → PostS K W o' H' (k sg' S') D → N σ' H') :
    PostS K W o H r { D with nx := N, ct := N, bk := D.nx } := by
  cases r with
  | nx sg S => exact fun o1 σ1 H1 x r R => hN o1 sg S σ1 H1 x r R (PostS.ext x h)
  | ct sg S => exact fun o1 σ1 H1 x r R => hN o1 sg S σ1 H1 x r R (PostS.ext x h)
  | bk sg S => exact h
  | rt t S => exact h
  | ex y S => exact h
  | no => exact h
theorem PostS.seq {r : RS} {k : Sg → Store → RS} (h : PostS K W o H (seqS r k) D) : PostS K W o H r { D with nx := ms K W k D } := by
  cases r with
  | nx sg S => exact fun o1 σ1 H1 x r R => ⟨o1, sg, S, r, R, PostS.ext x h⟩
  | ct sg S => exact h
  | bk sg S => exact h
  | rt t S => exact h
  | ex y S => exact h
  | no => exact h
end

section
variable {X : Cx} {W : Wsh} {cf : Nat → List T → Store → R T} {pos p tpos : Pos} {a b c tg : Expr} {xa xb xc : Ex} {g : Tg} {ta : Tx} {hp : Bool} {x y : Str}
/-- an expression, then the rest of a statement -/
theorem ms_two {α β : Type} {rel : Wd → α → β → Prop} {d : Sg → Store → R α} {k : Sg → α → Store → RS} {σ : L2.St} {H : Hp} {D : Ends} {Q' : β → Hp → Prop}
    (h : ms X.K W (fun sg S => (d sg S).s (k sg)) D σ H)
    (q : ∀ (o1 : Wd) (sg : Sg) (t : α) (S1 : Store) (v : β) (H1 : Hp), SRel X.K o1 sg σ → HRel X.K o1 S1 H1 → rel o1 t v → PostS X.K W o1 H1 (k sg t S1) D → Q' v H1) : mtG X.K W rel d σ H Q' := by
  obtain ⟨o, sg, S, rs, R, p⟩ := h
  refine ⟨o, sg, S, rs, R, (PostS.s (rel := rel) p).imp fun v H1 z => ?_⟩
  obtain ⟨o1, t, S1, x, R1, r1, p1⟩ := z
  exact q o1 sg t S1 v H1 (rs.ext x) R1 r1 p1
theorem s_asg_read {σ : L2.St} {H : Hp} {D : Ends} (h : ms X.K W (evS cf (.asg g xa)) D σ H) : tAsg (mt X.K W (ev cf xa)) (mg X.K W (slots g) (evG cf g)) D σ H := by
  have e : evS cf (.asg g xa) = fun sg S => (ev cf xa sg S).s fun t S1 => (evG cf g t sg S1).s fun sg1 S2 => .nx sg1 S2 := by funext sg S; rw [evS]
  rw [e] at h
  refine ms_two (rel := Rep X.K) (k := fun sg t S1 => (evG cf g t sg S1).s fun sg1 S2 => .nx sg1 S2) h fun o1 sg t S1 v H1 rs R r p => ?_
  refine ⟨o1, sg, S1, t, rs, R, r, (PostS.s (rel := relG X.K σ (slots g)) p).imp fun σ' H' z => ?_⟩
  obtain ⟨o2, sg2, S2, x2, R2, ⟨rs2, _⟩, p2⟩ := z
  exact p2.nx_here rs2 R2
theorem s_set {i : Nat} (hN : X.N.Nodup) (hi : X.N[i]? = some x) (hx : Loc X.env.scope x) (he : PE X a (mt X.K W (ev cf xa))) (hs : swapsWith a (some (.Name x p)) pos.line X.env = pure false) (hf : X.fn x = true ∨ X.env.scope.names.lookup x = some .local) :
    PS X (.Assign [.Name x p] a pos) (ms X.K W (evS cf (.asg (.nm i) xa))) := by
  refine (ps_set hN hi hx he hs hf).imp fun D σ H h => ?_
  have e : evS cf (.asg (.nm i) xa) = fun sg S => (ev cf xa sg S).s fun t S1 => .nx (sg.set i (some t)) S1 := by
    funext sg S
    rw [evS]
    congr 1
  rw [e] at h
  refine ms_two (rel := Rep X.K) (k := fun sg t S1 => .nx (sg.set i (some t)) S1) h fun o1 sg t S1 v H1 rs R r p => ?_
  exact p.nx_here (srel_set rs r) R
theorem s_asg (he : PE X a (mt X.K W (ev cf xa))) (hg : PG X tg (mg X.K W (slots g) (evG cf g))) (hs : swapsWithSole [tg] a pos.line X.env = pure false) (hw : swappedStores [tg] a X.env = pure none) (h1 : (assignEach [tg] X.env).map (·.2) = [assign tg X.env]) :
    PS X (.Assign [tg] a pos) (ms X.K W (evS cf (.asg g xa))) := (ps_asg he hg hs hw h1).imp fun D σ H h => s_asg_read h
theorem s_par {i j : Nat} {px py pt pt2 : Pos} {kt k2 : Nat} (hc : X.calm = true) (hN : X.N.Nodup) (hi : X.N[i]? = some x) (hj : X.N[j]? = some y) (hij : i ≠ j) (hx : X.env.scope.names.lookup x = some .local) (hy : X.env.scope.names.lookup y = some .local)
    (ha : PE X a (mt X.K W (ev cf xa))) (hb : PE X b (mt X.K W (ev cf xb))) (hs1 : nst a = true) (hs2 : nst b = true)
    (hw : swappedStores [.Tuple [.Name x px, .Name y py] kt pt] (.Tuple [a, b] k2 pt2) X.env = pure (some [x, y])) (hs : swapsWithSole [.Tuple [.Name x px, .Name y py] kt pt] (.Tuple [a, b] k2 pt2) pos.line X.env = pure false) :
    PS X (.Assign [.Tuple [.Name x px, .Name y py] kt pt] (.Tuple [a, b] k2 pt2) pos) (ms X.K W (evS cf (.par i j xa xb))) := by
  refine (ps_par hc hN hi hj hij hx hy (m_arg2 ha hb hs1 hs2) hw hs).imp fun D σ H h => ?_
  have e : evS cf (.par i j xa xb) = fun sg S => (ev cf xa sg S).s fun x S1 => (ev cf xb sg S1).s fun y S2 => .nx ((sg.set i (some x)).set j (some y)) S2 := by funext sg S; rw [evS]
  rw [e] at h
  show mts X.K W (evs cf (.cons xa (.cons xb .nil))) σ H _
  rw [evs_two]
  obtain ⟨o, sg, S, rs, R, z⟩ := h
  refine ⟨o, sg, S, rs, R, ?_⟩
  show Post _ _ _ _ _ ((ev cf xa sg S).bnd _) _
  cases e2 : ev cf xa sg S with
  | ok t S1 =>
    simp only [e2, Mc.R.bnd, Mc.R.s] at z ⊢
    cases e3 : ev cf xb sg S1 with
    | ok u S2 =>
      simp only [e3, Mc.R.bnd, Mc.R.s] at z ⊢
      intro o1 vs H1 x1 R1 r1
      obtain ⟨v, w, rfl, r8, r9⟩ := reps2 r1
      exact ⟨v, w, rfl, (PostS.ext x1 z).nx_here (srel_set (srel_set (rs.ext x1) r8) r9) R1⟩
    | ex y S2 => simp only [e3, Mc.R.bnd, Mc.R.s] at z ⊢; exact z
    | no => simp only [e3, Mc.R.bnd, Mc.R.s] at z; exact z.elim
  | ex y S1 => simp only [e2, Mc.R.bnd, Mc.R.s] at z ⊢; exact z
  | no => simp only [e2, Mc.R.bnd, Mc.R.s] at z; exact z.elim
theorem s_exp (he : PE X a (mt X.K W (ev cf xa))) (hs : swapsWith a none pos.line X.env = pure false) : PS X (.Expr a pos) (ms X.K W (evS cf (.exp xa))) := by
  refine (ps_expr he hs).imp fun D σ H h => ?_
  have e : evS cf (.exp xa) = fun sg S => (ev cf xa sg S).s fun _ S1 => .nx sg S1 := by funext sg S; rw [evS]
  rw [e] at h
  exact ms_two (rel := Rep X.K) (k := fun sg _ S1 => .nx sg S1) h fun o1 sg t S1 v H1 rs R r p => p.nx_here rs R
theorem s_doc {z : Str} {j : Nat} {pos' : Pos} : PS X (.Expr (.Constant (.str z) j pos) pos') (ms X.K W (evS cf .pass)) := by
  refine ps_doc.imp fun D σ H h => ?_
  obtain ⟨o, sg, S, rs, R, q⟩ := h
  have e : evS cf .pass sg S = .nx sg S := by rw [evS]
  rw [e] at q
  exact q.nx_here rs R
theorem s_pass : PS X (.Pass pos) (ms X.K W (evS cf .pass)) := by
  refine ps_pass.imp fun D σ H h => ?_
  obtain ⟨o, sg, S, rs, R, q⟩ := h
  have e : evS cf .pass sg S = .nx sg S := by rw [evS]
  rw [e] at q
  exact q.nx_here rs R
theorem s_brk : PS X (.Break pos) (ms X.K W (evS cf .brk)) := by
  refine ps_break.imp fun D σ H h => ?_
  obtain ⟨o, sg, S, rs, R, q⟩ := h
  have e : evS cf .brk sg S = .bk sg S := by rw [evS]
  rw [e] at q
  exact q o σ H Ext.refl rs R
theorem s_cont : PS X (.Continue pos) (ms X.K W (evS cf .cont)) := by
  refine ps_continue.imp fun D σ H h => ?_
  obtain ⟨o, sg, S, rs, R, q⟩ := h
  have e : evS cf .cont sg S = .ct sg S := by rw [evS]
  rw [e] at q
  exact q o σ H Ext.refl rs R
theorem s_stuck {st : Stmt} : PS X st (ms X.K W (evS cf .stuck)) := by
  refine ps_never.imp fun D σ H h => ?_
  obtain ⟨o, sg, S, rs, R, q⟩ := h
  have e : evS cf .stuck sg S = .no := by rw [evS]
  rw [e] at q
  exact q.elim
theorem s_ret (he : PE X a (mt X.K W (ev cf xa))) : PS X (.Return (some a) pos) (ms X.K W (evS cf (.ret xa))) := by
  refine (ps_ret he).imp fun D σ H h => ?_
  have e : evS cf (.ret xa) = fun sg S => (ev cf xa sg S).s fun t S1 => .rt t S1 := by funext sg S; rw [evS]
  rw [e] at h
  exact ms_two (rel := Rep X.K) (k := fun _ t S1 => .rt t S1) h fun o1 sg t S1 v H1 rs R r p => p o1 v H1 Ext.refl R r
theorem s_retN : PS X (.Return none pos) (ms X.K W (evS cf .retN)) := by
  refine ps_retN.imp fun D σ H h => ?_
  obtain ⟨o, sg, S, rs, R, q⟩ := h
  have e : evS cf .retN sg S = .rt tN S := by rw [evS]
  rw [e] at q
  exact q o _ H Ext.refl R rN
theorem b_nil : PSs X [] (ms X.K W (evB cf .nil)) := by
  refine pss_nil.imp fun D σ H h => ?_
  obtain ⟨o, sg, S, rs, R, q⟩ := h
  have e : evB cf .nil sg S = .nx sg S := by rw [evB]
  rw [e] at q
  exact q.nx_here rs R
theorem b_cons {st : Stmt} {rest : List Stmt} {s : Sx} {bx : Bx} (h1 : PS X st (ms X.K W (evS cf s))) (h2 : PSs X rest (ms X.K W (evB cf bx))) : PSs X (st :: rest) (ms X.K W (evB cf (.cons s bx))) := by
  refine (pss_cons h1 h2).imp fun D σ H h => ?_
  obtain ⟨o, sg, S, rs, R, q⟩ := h
  have e : evB cf (.cons s bx) sg S = seqS (evS cf s sg S) fun sg1 S1 => evB cf bx sg1 S1 := by rw [evB]
  rw [e] at q
  exact ⟨o, sg, S, rs, R, q.seq⟩
theorem s_if {bs cs : List Stmt} {bx cx : Bx} (hc : PT X a (mtT X.K W (evT cf ta))) (h1 : PSs X bs (ms X.K W (evB cf bx))) (h2 : PSs X cs (ms X.K W (evB cf cx))) : PS X (.If a bs cs pos) (ms X.K W (evS cf (.ite ta bx cx))) := by
  refine (ps_if hc h1 h2).imp fun D σ H h => ?_
  have e : evS cf (.ite ta bx cx) = fun sg S => (evT cf ta sg S).s fun k S1 => cond k (evB cf bx sg S1) (evB cf cx sg S1) := by funext sg S; rw [evS]
  rw [e] at h
  refine ms_two (rel := fun _ (x y : Bool) => x = y) (k := fun sg k S1 => cond k (evB cf bx sg S1) (evB cf cx sg S1)) h fun o1 sg t S1 v H1 rs R r p => ?_
  cases r
  cases t with
  | true => exact ⟨o1, sg, S1, rs, R, p⟩
  | false => exact ⟨o1, sg, S1, rs, R, p⟩
theorem s_while {bs : List Stmt} {bx : Bx} (hpo : PassesOwn (model X.prog X.w) X.A X.env X.xe) (hc : PT X a (mtT X.K W (evT cf ta))) (h1 : PSs X bs (ms X.K W (evB cf bx))) : PS X (.While a bs [] pos) (ms X.K W (evS cf (.wh ta bx))) := by
  refine (ps_while hpo hc h1).imp fun D σ H h => ?_
  have e : evS cf (.wh ta bx) = fun sg S => whN (fun sg S => evT cf ta sg S) (fun sg S => evB cf bx sg S) FU sg S := by funext sg S; rw [evS]
  rw [e] at h
  refine ⟨fun m σ H => ms X.K W (fun sg S => whN (fun sg S => evT cf ta sg S) (fun sg S => evB cf bx sg S) m sg S) D σ H, ⟨_, h⟩, fun m σ H h => ?_⟩
  cases m with
  | zero => obtain ⟨o, sg, S, rs, R, q⟩ := h; exact q.elim
  | succ m =>
    refine ms_two (rel := fun _ (x y : Bool) => x = y) (k := fun sg b S1 => cond b (loopK (evB cf bx sg S1) fun sg1 S2 => whN (fun sg S => evT cf ta sg S) (fun sg S => evB cf bx sg S) m sg1 S2) (.nx sg S1)) h fun o1 sg t S1 v H1 rs R r p => ?_
    cases r
    cases t with
    | false => exact p.nx_here rs R
    | true =>
      refine ⟨ms X.K W (fun sg S => whN (fun sg S => evT cf ta sg S) (fun sg S => evB cf bx sg S) m sg S) D, fun σ' H' h' => ⟨m, Nat.lt_succ_self m, h'⟩, o1, sg, S1, rs, R, ?_⟩
      exact PostS.loop p _ fun o2 sg2 S2 σ2 H2 x2 r2 R2 p2 => ⟨o2, sg2, S2, r2, R2, p2⟩

/-! ### for -/
/-- what a walker gives at turn i of a store -/
def wget : Wk → Nat → Store → Option (Option T)
  | .its ts, i, _ => some ts[i]?
  | .cell n, i, S => match lstOf S (.obj n) with | some ts => some ts[i]? | none => none
theorem wget_walks {K : PySem.W.Frag} {o : Wd} {w : Wk} {J : L2.It} (h : relW K o w J) {o1 : Wd} {S1 : Store} {H1 : Hp} (u : Up o o1) (R : HRel K o1 S1 H1) {i : Nat} {r : Option T} (e : wget w i S1 = some r) :
    (r = none → J.stop i H1) ∧ (∀ t, r = some t → J.go i H1 ∧ ∀ x H', J.yld i H1 x H' → ∃ o', Ext o1 H1 o' H' ∧ HRel K o' S1 H' ∧ Rep K o' t x) := by
  cases w with
  | its ts =>
    have q := h.2 o1 S1 H1 u R i
    cases e
    exact q
  | cell n =>
    unfold wget at e
    simp only at e
    split at e
    · rename_i ts e2
      cases e
      exact h o1 S1 H1 ts u R e2 i
    · cases e
/-- the rest of a loop from turn i on -/
def forI (body : T → Sg → Store → RS) : Wk → Nat → Sg → Store → RS
  | .its ts, i, sg, S => forL body (ts.drop i) sg S
  | .cell n, i, sg, S => forN body n (FU - i) i sg S
theorem forI_zero (body : T → Sg → Store → RS) (w : Wk) (sg : Sg) (S : Store) : forI body w 0 sg S = forW body w sg S := by cases w <;> rfl
def wbound : Wk → Nat
  | .its ts => ts.length
  | .cell _ => FU
theorem forI_step (body : T → Sg → Store → RS) (w : Wk) (i : Nat) (sg : Sg) (S : Store) : forI body w i sg S = .no ∨ (wget w i S = some none ∧ forI body w i sg S = .nx sg S) ∨
    ∃ t, wget w i S = some (some t) ∧ i < wbound w ∧ forI body w i sg S = loopK (body t sg S) fun sg1 S1 => forI body w (i + 1) sg1 S1 := by
  cases w with
  | its ts =>
    by_cases h : i < ts.length
    · refine .inr (.inr ⟨ts[i], by simp [wget, h], h, ?_⟩)
      show forL body (ts.drop i) sg S = _
      rw [List.drop_eq_getElem_cons h]; rfl
    · refine .inr (.inl ⟨by simp [wget]; omega, ?_⟩)
      show forL body (ts.drop i) sg S = _
      rw [List.drop_of_length_le (by omega)]; rfl
  | cell n =>
    cases e : FU - i with
    | zero => exact .inl (by show forN body n (FU - i) i sg S = .no; rw [e]; rfl)
    | succ k =>
      have hk : FU - (i + 1) = k := by omega
      cases e2 : lstOf S (.obj n) with
      | none => exact .inl (by show forN body n (FU - i) i sg S = .no; rw [e, forN, e2])
      | some ts =>
        cases e3 : ts[i]? with
        | none => exact .inr (.inl ⟨by simp [wget, e2, e3], by show forN body n (FU - i) i sg S = _; rw [e, forN, e2]; simp only [e3]⟩)
        | some t =>
          refine .inr (.inr ⟨t, by simp [wget, e2, e3], by show i < FU; omega, ?_⟩)
          show forN body n (FU - i) i sg S = loopK (body t sg S) fun sg1 S1 => forN body n (FU - (i + 1)) (i + 1) sg1 S1
          rw [e, hk, forN, e2]
          simp only [e3]
theorem s_for {bs : List Stmt} {bx : Bx} {it : It} {iter : Expr} (hpo : PassesOwn (model X.prog X.w) X.A X.env X.xe) (hc : X.calm = true) (hi : PI X tg iter (mi X.K W (evI cf it))) (hg : PG X tg (mg X.K W (slots g) (evG cf g))) (h1 : PSs X bs (ms X.K W (evB cf bx)))
    (hs : ∀ x, foldedSetIterable iter X.env x = pure x) : PS X (.For tg iter bs [] pos) (ms X.K W (evS cf (.for_ g it bx))) := by
  refine (ps_for hpo hc hi hg h1 hs).imp fun D σ H h => ?_
  have e : evS cf (.for_ g it bx) = fun sg S => (evI cf it sg S).s fun w S1 => forW (fun t sg1 S2 => (evG cf g t sg1 S2).s fun sg2 S3 => evB cf bx sg2 S3) w sg S1 := by funext sg S; rw [evS]
  rw [e] at h
  refine ms_two (rel := relW X.K) (k := fun sg w S1 => forW (fun t sg1 S2 => (evG cf g t sg1 S2).s fun sg2 S3 => evB cf bx sg2 S3) w sg S1) h fun o1 sg w S1 J H1 rs R r p => ?_
  refine ⟨fun i m σ H => ∃ (o : Wd) (sg : Sg) (S : Store), SRel X.K o sg σ ∧ HRel X.K o S H ∧ Up o1 o ∧ m = wbound w - i ∧ PostS X.K W o H (forI (fun t sg1 S2 => (evG cf g t sg1 S2).s fun sg2 S3 => evB cf bx sg2 S3) w i sg S) D,
    ⟨_, o1, sg, S1, rs, R, Up.refl, rfl, by rw [forI_zero]; exact p⟩, fun i m σ2 H2 ⟨o2, sg2, S2, rs2, R2, u2, hm, p2⟩ => ?_⟩
  rcases forI_step (fun t sg1 S2 => (evG cf g t sg1 S2).s fun sg2 S3 => evB cf bx sg2 S3) w i sg2 S2 with e | ⟨hw, e⟩ | ⟨t, hw, hlt, e⟩
  · rw [e] at p2; exact p2.elim
  · rw [e] at p2
    exact .inl ⟨(wget_walks r u2 R2 hw).1 rfl, p2.nx_here rs2 R2⟩
  · rw [e] at p2
    obtain ⟨hgo, hy⟩ := (wget_walks r u2 R2 hw).2 t rfl
    refine .inr ⟨hgo, fun σ' H' => ∃ (o : Wd) (sg : Sg) (S : Store), SRel X.K o sg σ' ∧ HRel X.K o S H' ∧ Up o1 o ∧ PostS X.K W o H' (forI (fun t sg1 S2 => (evG cf g t sg1 S2).s fun sg2 S3 => evB cf bx sg2 S3) w (i + 1) sg S) D, ?_, fun v H3 y3 => ?_⟩
    · rintro σ' H' ⟨o3, sg3, S3, rs3, R3, u3, p3⟩
      exact ⟨wbound w - (i + 1), by omega, o3, sg3, S3, rs3, R3, u3, rfl, p3⟩
    · obtain ⟨o3, x3, R3, r3⟩ := hy v H3 y3
      have p3 := PostS.ext x3 p2
      have q3 := PostS.loop p3 (fun σ' H' => ∃ (o : Wd) (sg : Sg) (S : Store), SRel X.K o sg σ' ∧ HRel X.K o S H' ∧ Up o1 o ∧ PostS X.K W o H' (forI (fun t sg1 S2 => (evG cf g t sg1 S2).s fun sg2 S3 => evB cf bx sg2 S3) w (i + 1) sg S) D)
        fun o4 sg4 S4 σ4 H4 x4 r4 R4 p4 => ⟨o4, sg4, S4, r4, R4, (u2.trans (Up.of x3)).trans (Up.of x4), p4⟩
      refine ⟨o3, sg2, S2, t, rs2.ext x3, R3, r3, (PostS.s (rel := relG X.K σ2 (slots g)) q3).imp fun σ4 H4 z => ?_⟩
      obtain ⟨o4, sg4, S4, x4, R4, ⟨rs4, _⟩, p4⟩ := z
      exact ⟨o4, sg4, S4, rs4, R4, p4⟩
end
end Mc
end

section
set_option Elab.async false
set_option linter.all false
set_option maxRecDepth 100000
set_option maxHeartbeats 4000000
set_option autoImplicit false
/-! McK: comprehensions, list(range(..)) -/
namespace Mc
open PySem PySem.Spec PyProof.Rows L2

def WF : Wsh := ⟨fun _ _ _ _ => False, fun _ _ _ _ _ _ _ h => h⟩
section
variable {K : PySem.W.Frag} {W : Wsh} {o : Wd} {H : Hp} {S : Store}
theorem post_calm {α β : Type} {rel : Wd → α → β → Prop} {r : R α} {Q : β → Hp → Prop} (h : Post K W rel o H r.calm Q) : Post K WF rel o H r Q := by
  cases r with
  | ok t S => exact h
  | ex x S => exact h.elim
  | no => exact h
/-- the rest of a comprehension from turn i on -/
def lcI (body : T → Store → R (Option T)) : Wk → Nat → Store → R (List T)
  | .its ts, i, S => lcL body (ts.drop i) S
  | .cell n, i, S => lcN body n (FU - i) i S
theorem lcI_zero (body : T → Store → R (Option T)) (w : Wk) (S : Store) : lcI body w 0 S = lcW body w S := by cases w <;> rfl
theorem lcI_step (body : T → Store → R (Option T)) (w : Wk) (i : Nat) (S : Store) : lcI body w i S = .no ∨ (wget w i S = some none ∧ lcI body w i S = .ok [] S) ∨
    ∃ t, wget w i S = some (some t) ∧ i < wbound w ∧ lcI body w i S = (body t S).bnd fun o S1 => (lcI body w (i + 1) S1).bnd fun xs S2 => .ok (consO o xs) S2 := by
  cases w with
  | its ts =>
    by_cases h : i < ts.length
    · refine .inr (.inr ⟨ts[i], by simp [wget, h], h, ?_⟩)
      show lcL body (ts.drop i) S = _
      rw [List.drop_eq_getElem_cons h]; rfl
    · refine .inr (.inl ⟨by simp [wget]; omega, ?_⟩)
      show lcL body (ts.drop i) S = _
      rw [List.drop_of_length_le (by omega)]; rfl
  | cell n =>
    cases e : FU - i with
    | zero => exact .inl (by show lcN body n (FU - i) i S = .no; rw [e]; rfl)
    | succ k =>
      have hk : FU - (i + 1) = k := by omega
      cases e2 : lstOf S (.obj n) with
      | none => exact .inl (by show lcN body n (FU - i) i S = .no; rw [e, lcN, e2])
      | some ts =>
        cases e3 : ts[i]? with
        | none => exact .inr (.inl ⟨by simp [wget, e2, e3], by show lcN body n (FU - i) i S = _; rw [e, lcN, e2]; simp only [e3]⟩)
        | some t =>
          refine .inr (.inr ⟨t, by simp [wget, e2, e3], by show i < FU; omega, ?_⟩)
          show lcN body n (FU - i) i S = (body t S).bnd fun o S1 => (lcN body n (FU - (i + 1)) (i + 1) S1).bnd fun xs S2 => .ok (consO o xs) S2
          rw [e, hk, lcN, e2]
          simp only [e3]
theorem wbound_line {J : L2.It} {w : Wk} (h : relW K o w J) : wbound w ≤ sizeLine := by
  cases w with
  | its ts => exact h.1
  | cell n => show FU ≤ sizeLine; decide
/-- a list that is tracked beside, taken in -/
theorem HRel.stray (R : HRel K o S H) {p : Addr} {u u' : HO} (hp : H p = some u) (fp : o.FH p = none) (np : p ∉ o.rho) : HRel K o S (upd H p u') := by
  refine ⟨fun x w h => ?_, R.fl, R.dom, R.nd, fun n x h => ?_, fun n ts x h1 h2 => ?_, R.fz⟩
  · rw [upd_ne (fun e : x = p => by subst e; rw [fp] at h; cases h)]; exact R.sub x w h
  · obtain ⟨w, e⟩ := R.al n x h
    have : x ≠ p := fun e => np (e ▸ List.mem_of_getElem? h)
    exact ⟨w, by rw [upd_ne this]; exact e⟩
  · obtain ⟨f, vs, e, hz, r⟩ := R.lst n ts x h1 h2
    have : x ≠ p := fun e => np (e ▸ List.mem_of_getElem? h2)
    exact ⟨f, vs, by rw [upd_ne this]; exact e, hz, r⟩
/-- before p was laid -/
def hide (H : Hp) (p : Addr) : Hp := fun b => if b = p then none else H b
theorem upd_hide {p : Addr} {u : HO} (hp : H p = some u) : upd (hide H p) p u = H := by
  funext b
  by_cases e : b = p
  · subst e; rw [upd_same, hp]
  · rw [upd_ne e]; unfold hide; rw [if_neg e]
theorem HRel.hidden (R : HRel K o S H) {p : Addr} (fp : o.FH p = none) (np : p ∉ o.rho) : HRel K o S (hide H p) := by
  have ne : ∀ x, x ≠ p → hide H p x = H x := fun x h => by unfold hide; rw [if_neg h]
  refine ⟨fun x w h => ?_, R.fl, R.dom, R.nd, fun n x h => ?_, fun n ts x h1 h2 => ?_, R.fz⟩
  · rw [ne x (fun e : x = p => by subst e; rw [fp] at h; cases h)]; exact R.sub x w h
  · obtain ⟨w, e⟩ := R.al n x h
    have : x ≠ p := fun e => np (e ▸ List.mem_of_getElem? h)
    exact ⟨w, by rw [ne x this]; exact e⟩
  · obtain ⟨f, vs, e, hz, r⟩ := R.lst n ts x h1 h2
    have : x ≠ p := fun e => np (e ▸ List.mem_of_getElem? h2)
    exact ⟨f, vs, by rw [ne x this]; exact e, hz, r⟩
/-- a list made beside, as an operation's answer -/
theorem fin_stray {o1 : Wd} {H1 : Hp} {hp : Bool} {ts : List T} {vs : List V} {p : Addr} {Q : VK} (h : Post K W (Rep K) o1 H1 (fin hp S (some (.l ts))) Q) (x : Ext o1 H1 o H) (p1 : H1 p = none) (R : HRel K o S H) (fp : o.FH p = none) (np : p ∉ o.rho) (hH : H p = some (.lst vs))
    (r : Reps K o ts vs) (hz : vs.length ≤ sizeLine) : Q (.ref p) H := by
  have R' := R.hidden fp np
  have hn : hide H p p = none := by unfold hide; rw [if_pos rfl]
  have x' : Ext o1 H1 o (hide H p) := ⟨x.rho, x.new, x.fh, x.fhn, fun a u h hn' => by
    have : a ≠ p := fun e => by subst e; rw [p1] at h; cases h
    show hide H p a = some u
    unfold hide; rw [if_neg this]; exact x.keep a u h hn'⟩
  have := fin_l (Post.ext x' h) R' r hz p hn
  rw [upd_hide hH] at this
  exact this
end

section
variable {X : Cx} {W : Wsh} {cf : Nat → List T → Store → R T} {pos p tpos : Pos} {a b elt tg iter : Expr} {xa xb e : Ex} {g : Tg} {c : Tx} {it : It} {hp : Bool} {x y : Str} {ifs : List Expr} {scope : Scope} {own : List (Str × Nat)}
abbrev lcBody (cf : Nat → List T → Store → R T) (g : Tg) (c : Tx) (e : Ex) (sg : Sg) : T → Store → R (Option T) := fun t S2 => ((evG cf g t sg S2).bnd fun sg1 S3 => (evT cf c sg1 S3).bnd fun k S4 =>
        cond k ((ev cf e sg1 S4).bnd fun x S5 => .ok (some x) S5) (.ok none S4)).calm
theorem wipe_get (σ : L2.St) (i : Nat) : ∀ vs : List Nat, (L2.wipe σ vs)[i]? = if i ∈ vs then σ[i]?.map (fun _ => none) else σ[i]?
  | [] => by simp [L2.wipe]
  | v :: vs => by
    unfold L2.wipe
    by_cases h : v = i
    · subst h
      rw [if_pos List.mem_cons_self]
      by_cases hl : v < σ.length
      · rw [List.getElem?_set_self (by rw [wipe_length]; exact hl), List.getElem?_eq_getElem hl]; rfl
      · rw [List.getElem?_eq_none (by simp [wipe_length]; omega), List.getElem?_eq_none (by omega)]; rfl
    · rw [List.getElem?_set_ne h, wipe_get σ i vs]
      by_cases h2 : i ∈ vs
      · rw [if_pos h2, if_pos (List.mem_cons_of_mem _ h2)]
      · rw [if_neg h2, if_neg (by simp only [List.mem_cons, not_or]; exact ⟨fun e => h e.symm, h2⟩)]
theorem wipe_wipe {σ : L2.St} {vs : List Nat} : L2.wipe (L2.wipe σ vs) vs = L2.wipe σ vs := by
  apply List.ext_getElem?
  intro i
  rw [wipe_get, wipe_get]
  by_cases h : i ∈ vs
  · rw [if_pos h, if_pos h, Option.map_map]; rfl
  · rw [if_neg h, if_neg h]
theorem ev_lc {vs : List Nat} : ev cf (.lc hp vs g it c e) = fun sg S => (evI cf it sg S).bnd fun w S1 => (lcW (lcBody cf g c e (wipe sg vs)) w S1).bnd fun xs S2 => fin hp S2 (some (.l xs)) := by funext sg S; rw [ev]
theorem tt_of (hb : PTs X [] tYes) : PTs X [] (mtT X.K W (evT cf .tt)) := ⟨fun pins s σ H Q I h => hb.run pins s σ H Q I (by
  obtain ⟨o, sg, S, rs, R, q⟩ := h
  have e : evT cf .tt sg S = .ok true S := by rw [evT]
  rw [e] at q
  exact q.here R rfl)⟩
theorem m_pts0 : PTs X [] (mtT X.K W (evT cf .tt)) := tt_of pts_nil
/-- the reading of a comprehension -/
theorem lc_read (hsl : ∀ i ∈ slots g, i ∈ own.map (·.2)) {σ : L2.St} {H : Hp} {Q : VK} (h : mt X.K W (ev cf (.lc hp (own.map (·.2)) g it c e)) σ H Q) :
    tLc (mi X.K W (evI cf it)) (mg X.K WF (slots g) (evG cf g)) (mtT X.K WF (evT cf c)) (mt X.K WF (ev cf e)) (own.map (·.2)) σ H Q := by
  generalize hvs : own.map (·.2) = vs at h hsl ⊢
  rw [ev_lc] at h
  refine mt_two' (rel := relW X.K) (k := fun sg w S1 => (lcW (lcBody cf g c e (wipe sg vs)) w S1).bnd fun xs S2 => fin hp S2 (some (.l xs))) h fun o1 sg w S1 J H1 rs R1 r p => ?_
  intro D hD
  refine ⟨fun i m H => ∃ (o : Wd) (S : Store) (acc : List V) (tacc : List T), SRel X.K o (wipe sg vs) (L2.wipe σ vs) ∧ HRel X.K o S H ∧ Ext o1 H1 o H ∧ H D = some (.lst acc) ∧ D ∉ o.rho ∧ o.FH D = none ∧ Reps X.K o tacc acc ∧ acc.length ≤ i ∧ i ≤ wbound w ∧ m = wbound w - i ∧
      Post X.K W (Rep X.K) o1 H1 ((lcI (lcBody cf g c e (wipe sg vs)) w i S).bnd fun xs S2 => fin hp S2 (some (.l (tacc ++ xs)))) Q, ?_, ?_⟩
  · refine ⟨_, o1, S1, [], [], srel_wipe rs vs, ?_, ?_, upd_same, R1.rhoN hD, R1.fhN hD, .nil, Nat.le_refl _, Nat.zero_le _, rfl, by rw [lcI_zero]; exact p⟩
    · refine ⟨fun x w h => ?_, R1.fl, R1.dom, R1.nd, fun n x h => ?_, fun n ts x h1 h2 => ?_, R1.fz⟩
      · have := R1.sub x w h
        rw [upd_ne (ne_of_none this hD)]; exact this
      · obtain ⟨w, e⟩ := R1.al n x h
        exact ⟨w, by rw [upd_ne (ne_of_none e hD)]; exact e⟩
      · obtain ⟨f, vs, e, hz, r⟩ := R1.lst n ts x h1 h2
        exact ⟨f, vs, by rw [upd_ne (ne_of_none e hD)]; exact e, hz, r⟩
    · exact ⟨fun _ _ h => h, fun _ h => .inl h, fun _ _ h => h, fun _ _ h => .inl h, fun x w h _ => by rw [upd_ne (ne_of_none h hD)]; exact h⟩
  · rintro i m H2 ⟨o, S, acc, tacc, rs2, R2, x2, hH, nD, fD, ra, hl, hi, hm, p2⟩
    have hz : acc.length ≤ sizeLine := Nat.le_trans (Nat.le_trans hl hi) (wbound_line r)
    rcases lcI_step (lcBody cf g c e (wipe sg vs)) w i S with q | ⟨hw, q⟩ | ⟨t, hw, hlt, q⟩
    · rw [q] at p2; exact p2.elim
    · rw [q] at p2
      have p3 : Post X.K W (Rep X.K) o1 H1 (fin hp S (some (.l tacc))) Q := by
        have : Post X.K W (Rep X.K) o1 H1 (fin hp S (some (.l (tacc ++ [])))) Q := p2
        rw [List.append_nil] at this
        exact this
      exact .inl ⟨(wget_walks r (Up.of x2) R2 hw).1 rfl, fin_stray p3 x2 hD R2 fD nD hH ra hz⟩
    · rw [q] at p2
      obtain ⟨hgo, hy⟩ := (wget_walks r (Up.of x2) R2 hw).2 t rfl
      refine .inr ⟨hgo, fun H' => ∃ (o : Wd) (S : Store) (acc : List V) (tacc : List T), SRel X.K o (wipe sg vs) (L2.wipe σ vs) ∧ HRel X.K o S H' ∧ Ext o1 H1 o H' ∧ H' D = some (.lst acc) ∧ D ∉ o.rho ∧ o.FH D = none ∧ Reps X.K o tacc acc ∧ acc.length ≤ i + 1 ∧
          Post X.K W (Rep X.K) o1 H1 ((lcI (lcBody cf g c e (wipe sg vs)) w (i + 1) S).bnd fun xs S2 => fin hp S2 (some (.l (tacc ++ xs)))) Q, ?_, fun v H3 y3 => ?_⟩
      · rintro H' ⟨o3, S3, acc3, tacc3, a1, a2, a3, a4, a5, a6, a7, a8, a9⟩
        exact ⟨wbound w - (i + 1), by omega, o3, S3, acc3, tacc3, a1, a2, a3, a4, a5, a6, a7, a8, hlt, rfl, a9⟩
      · obtain ⟨o3, x3, R3, r3⟩ := hy v H3 y3
        have keepD : ∀ {oa ob : Wd} {Ha Hb : Hp}, Ext oa Ha ob Hb → Ha D = some (.lst acc) → D ∉ oa.rho → oa.FH D = none → Hb D = some (.lst acc) ∧ D ∉ ob.rho ∧ ob.FH D = none := fun {oa ob Ha Hb} x h1 h2 h3 => by
          refine ⟨x.keep D _ h1 h2, fun z => ?_, ?_⟩
          · rcases x.new D z with z | z
            · exact h2 z
            · rw [h1] at z; cases z
          · cases e : ob.FH D with
            | none => rfl
            | some u =>
              rcases x.fhn D u e with z | z | z
              · rw [h3] at z; cases z
              · rw [h1] at z; cases z
              · exact (h2 z).elim
        obtain ⟨d3, e3, f3⟩ := keepD x3 hH nD fD
        have p3 := p2
        -- what the turn gives
        have tail : ∀ (o4 : Wd) (H4 : Hp) (S4 : Store) (r4 : Option T), Ext o3 H3 o4 H4 → HRel X.K o4 S4 H4 → lcBody cf g c e (wipe sg vs) t S = .ok r4 S4 → Post X.K W (Rep X.K) o1 H1 ((lcI (lcBody cf g c e (wipe sg vs)) w (i + 1) S4).bnd fun xs S2 => fin hp S2 (some (.l (tacc ++ consO r4 xs)))) Q := fun o4 H4 S4 r4 x4 R4 e4 => by
          rw [e4] at p3
          have p4 : Post X.K W (Rep X.K) o1 H1 (((lcI (lcBody cf g c e (wipe sg vs)) w (i + 1) S4).bnd fun xs S2 => .ok (consO r4 xs) S2).bnd fun xs S2 => fin hp S2 (some (.l (tacc ++ xs)))) Q := p3
          rw [R.bnd_bnd] at p4
          exact p4
        have x13 : Ext o1 H1 o3 H3 := x2.trans R3.nd x3
        have notno : lcBody cf g c e (wipe sg vs) t S ≠ .no := fun z => by rw [z] at p3; exact p3
        have notex : ∀ y S', lcBody cf g c e (wipe sg vs) t S ≠ .ex y S' := fun y S' z => by
          unfold lcBody at z
          cases e : ((evG cf g t (wipe sg vs) S).bnd fun sg1 S3 => (evT cf c sg1 S3).bnd fun k S4 => cond k ((ev cf e sg1 S4).bnd fun x S5 => .ok (some x) S5) (.ok none S4)) with
          | ok u S'' => rw [e] at z; cases z
          | ex u S'' => rw [e] at z; cases z
          | no => rw [e] at z; cases z
        -- the raw turn
        have raw : ∃ r4 S4, ((evG cf g t (wipe sg vs) S).bnd fun sg1 S3 => (evT cf c sg1 S3).bnd fun k S4 => cond k ((ev cf e sg1 S4).bnd fun x S5 => .ok (some x) S5) (.ok none S4)) = .ok r4 S4 ∧ lcBody cf g c e (wipe sg vs) t S = .ok r4 S4 := by
          cases e5 : ((evG cf g t (wipe sg vs) S).bnd fun sg1 S3 => (evT cf c sg1 S3).bnd fun k S4 => cond k ((ev cf e sg1 S4).bnd fun x S5 => .ok (some x) S5) (.ok none S4)) with
          | ok u S'' => exact ⟨u, S'', rfl, by unfold lcBody; rw [e5]; rfl⟩
          | ex u S'' => exact (notno (by unfold lcBody; rw [e5]; rfl)).elim
          | no => exact (notno (by unfold lcBody; rw [e5]; rfl)).elim
        obtain ⟨r4, S4, raw, cal⟩ := raw
        obtain ⟨sg1, S5, g1, raw⟩ := R.bnd_ok raw
        obtain ⟨k, S6, g2, raw⟩ := R.bnd_ok raw
        refine ⟨o3, wipe sg vs, S, t, rs2.ext x3, R3, r3, ?_⟩
        rw [g1]
        intro o4 σ4 H4 x4 R4 ⟨rs4, wp4⟩
        obtain ⟨d4, e4, f4⟩ := keepD x4 d3 e3 f3
        refine ⟨(wp4 vs hsl).trans wipe_wipe, o4, sg1, S5, rs4, R4, ?_⟩
        rw [g2]
        intro o5 k' H5 x5 R5 ek
        cases ek
        obtain ⟨d5, e5, f5⟩ := keepD x5 d4 e4 f4
        have x35 : Ext o3 H3 o5 H5 := x4.trans R5.nd x5
        cases k with
        | false =>
          cases raw
          rw [if_neg Bool.false_ne_true]
          exact ⟨o5, S4, acc, tacc, (rs2.ext x3).ext x35, R5, x13.trans R5.nd x35, d5, e5, f5, (ra.ext x3).ext x35, by omega, tail o5 H5 S4 none x35 R5 cal⟩
        | true =>
          obtain ⟨u, S7, g3, raw⟩ := R.bnd_ok raw
          cases raw
          rw [if_pos rfl]
          refine ⟨o5, sg1, S6, rs4.ext x5, R5, ?_⟩
          rw [g3]
          intro o6 w6 H6 x6 R6 r6
          obtain ⟨d6, e6, f6⟩ := keepD x6 d5 e5 f5
          have x36 : Ext o3 H3 o6 H6 := x35.trans R6.nd x6
          have hacc : acc.length < sizeLine := Nat.lt_of_le_of_lt hl (Nat.lt_of_lt_of_le hlt (wbound_line r))
          have x16 : Ext o1 H1 o6 H6 := x13.trans R6.nd x36
          refine ⟨acc, d6, hacc, o6, S4, acc ++ [w6], tacc ++ [u], (rs2.ext x3).ext x36, R6.stray d6 f6 e6, ?_, upd_same, e6, f6, ((ra.ext x3).ext x36).append (.cons r6 .nil), by simp; omega, ?_⟩
          · exact ⟨x16.rho, x16.new, x16.fh, x16.fhn, fun a u h hn => by
              rw [upd_ne (ne_of_none h hD)]
              exact x16.keep a u h hn⟩
          · have := tail o6 H6 S4 (some u) x36 R6 cal
            simpa [consO, List.append_assoc] using this
theorem m_lc (hc : X.calm = true) (hN : X.N.Nodup) (hi : PI X tg iter (mi X.K W (evI cf it))) (ok : BlkOk X.N X.env.scope scope own) (hsl : ∀ i ∈ slots g, i ∈ own.map (·.2))
    (hg : ∀ (s : Shared) (H : Hp) (C : Addr) (cl : List (Str × Addr)) (fp : List Addr), PG (X.blk s H scope (compEnvC scope cl C X.env) fp) tg (mg X.K WF (slots g) (evG cf g)))
    (ht : ∀ (s : Shared) (H : Hp) (C : Addr) (cl : List (Str × Addr)) (fp : List Addr), PTs (X.blk s H scope (compEnvC scope cl C X.env) fp) ifs (mtT X.K WF (evT cf c)))
    (he : ∀ (s : Shared) (H : Hp) (C : Addr) (cl : List (Str × Addr)) (fp : List Addr), PE (X.blk s H scope (compEnvC scope cl C X.env) fp) elt (mt X.K WF (ev cf e))) (hs : ∀ x, foldedSetIterable iter X.env x = pure x) :
    PE X (.ListComp elt [⟨tg, iter, ifs, 0⟩] scope pos) (mt X.K W (ev cf (.lc hp (own.map (·.2)) g it c e))) := (pe_lc hc hN hi ok hg ht he hs).imp fun σ H Q h => lc_read hsl h
theorem s_setLc {i : Nat} {py spos : Pos} (hc : X.calm = true) (hN : X.N.Nodup) (hy : X.N[i]? = some y) (hyl : X.env.scope.names.lookup y = some .local)
    (hsw : swapsWith (.ListComp elt [⟨tg, iter, ifs, 0⟩] scope pos) (some (.Name y py)) spos.line X.env = pure true) (hi : PI X tg iter (mi X.K W (evI cf it))) (ok : BlkOk X.N X.env.scope scope own) (hsl : ∀ i ∈ slots g, i ∈ own.map (·.2))
    (hg : ∀ (s : Shared) (H : Hp) (C : Addr) (cl : List (Str × Addr)) (fp : List Addr), PG (X.blk s H scope (compEnvC scope cl C X.env) fp) tg (mg X.K WF (slots g) (evG cf g)))
    (ht : ∀ (s : Shared) (H : Hp) (C : Addr) (cl : List (Str × Addr)) (fp : List Addr), PTs (X.blk s H scope (compEnvC scope cl C X.env) fp) ifs (mtT X.K WF (evT cf c)))
    (he : ∀ (s : Shared) (H : Hp) (C : Addr) (cl : List (Str × Addr)) (fp : List Addr), PE (X.blk s H scope (compEnvC scope cl C X.env) fp) elt (mt X.K WF (ev cf e))) (hs : ∀ x, foldedSetIterable iter X.env x = pure x) :
    PS X (.Assign [.Name y py] (.ListComp elt [⟨tg, iter, ifs, 0⟩] scope pos) spos) (ms X.K W (evS cf (.asg (.nm i) (.lc hp (own.map (·.2)) g it c e)))) := by
  refine (ps_setLc hc hN hy hyl hsw hi ok hg ht he hs).imp fun D σ H h => ?_
  refine lc_read (hp := hp) hsl ?_
  have e : evS cf (.asg (.nm i) (.lc hp (own.map (·.2)) g it c e)) = fun sg S => (ev cf (.lc hp (own.map (·.2)) g it c e) sg S).s fun t S1 => .nx (sg.set i (some t)) S1 := by
    funext sg S
    rw [evS]
    congr 1
  rw [e] at h
  exact ms_two (rel := Rep X.K) (k := fun sg t S1 => .nx (sg.set i (some t)) S1) h fun o1 sg t S1 v H1 rs R r p => p.nx_here (srel_set rs r) R
/-- list(range(..)) -/
theorem m_listRg1 {q p2 : Pos} (hc : X.calm = true) (hgl : Gl X "list") (hml : X.mg "list" = none) (hgr : Gl X "range") (hmr : X.mg "range" = none) (ha : PE X a (mt X.K W (ev cf xa))) (hs : nst a = true) :
    PE X (.Call (.Name "list" p) [.Call (.Name "range" q) [a] [] p2] [] pos) (mt X.K W (ev cf (.ofIt hp (.rng1 xa)))) := by
  refine (pe_listRg hc hgl hml (prg_1 hgr hmr ha (star_cons hs)) (star_cons rfl)).imp fun σ H Q h => ?_
  have e : ev cf (.ofIt hp (.rng1 xa)) = fun sg S => (ev cf xa sg S).bnd fun t S1 => (rng1K t S1).bnd fun w S2 => (itsK w S2).bnd fun xs S3 => fin hp S3 (some (.l xs)) := by
    funext sg S
    rw [ev, evI, R.bnd_bnd]
  rw [e] at h
  refine mt_two' (rel := Rep X.K) (k := fun sg t S1 => (rng1K t S1).bnd fun w S2 => (itsK w S2).bnd fun xs S3 => fin hp S3 (some (.l xs))) h fun o1 sg t S1 v H1 rs R r p => ?_
  unfold rng1K at p
  split at p
  · split at p
    · rename_i i hi
      cases rep_int r
      simp only [Bool.and_eq_true, decide_eq_true_eq] at hi
      have p' : Post X.K W (Rep X.K) o1 H1 (fin hp S1 (some (.l (rng 0 i.toNat)))) Q := p
      have hreps : ∀ (n : Nat) (lo : Int), Reps X.K o1 (rng lo n) ((List.range n).map fun j => V.int (lo + (j : Nat))) := by
        intro n
        induction n with
        | zero => intro lo; exact .nil
        | succ n ih =>
          intro lo
          rw [rng, List.range_succ_eq_map, List.map_cons, List.map_map]
          refine .cons (by simpa using (rI (i := lo))) ?_
          have := ih (lo + 1)
          refine cast ?_ this
          congr 1
          apply List.map_congr_left
          intro j _
          simp only [Function.comp]
          congr 1
          omega
      refine ⟨i, rfl, ⟨by omega, by omega, by omega, by omega, by omega⟩, ?_⟩
      have hr := hreps i.toNat 0
      have e9 : rgV 0 i = (List.range i.toNat).map fun j => V.int (0 + (j : Nat)) := by unfold rgV; rw [Int.sub_zero]
      rw [e9]
      refine fin_l p' R hr ?_
      rw [List.length_map, List.length_range]
      have : sizeLine = 16777216 := sizeLine_eq
      omega
    · exact p.elim
  · exact p.elim
end
end Mc
end

section
set_option Elab.async false
set_option linter.all false
set_option maxRecDepth 100000
set_option maxHeartbeats 4000000
set_option autoImplicit false
/-! McR: defs and calls where the calls that are under way are known (needed for repr of lists) -/
namespace Mc
open PySem PySem.Spec PyProof.Rows L2

/-- as the hand layer's FnOk, for calls under which no guarded call stands -/
structure FnG (P : Program) (w : World) (K : PySem.W.Frag) (mg : Str → Option Value) (base : Heap) (CX : CXT) (k : Nat) (f : Addr) (fd : FuncData) (ps : List Str) (sp : Sp) : Prop where
  len : ∀ vs H Q E, sp vs H Q E → vs.length = ps.length
  run : ∀ (A : Around) (outer : List Env) (s : Shared) (H : Hp) (args : Args) (us : List Value) (vs : List V) (Q : VK) (E : XK), Room k A → A.guards = some [] → Env0 P w K mg base A outer s H → BindsTo s fd args (ps.zip us) → Vals vs us → sp vs H Q E →
    codeAny (model P w) A (.call (.ref f) args) (CR CX outer P w H s Q E) s
section
variable {X : Cx} {CX : CXT} {k n : Nat} {f : Addr} {fd : FuncData} {ps ks : List Str} {sp : Sp} {E : XK} {x : Str} {p pos : Pos} {e : Expr} {es : List Expr} {kws : List Keyword} {t tk : TA} {g : List Value → List Value → List Value} {gV : List V → List V → List V}
theorem FnG.go (F : FnG X.prog X.w X.K X.mg X.base CX k f fd ps sp) {pins : List (Addr × Obj)} {σ : L2.St} {H : Hp} {s : Shared} {Q : VK} {us : List Value} {vs : List V} {args : Args} (hr : Room k X.A) (hG : X.A.guards = some []) (hx : Passes CX X E) (I : Inv X pins σ H s)
    (hb : BindsTo s fd args (ps.zip us)) (r : Vals vs us) (h : sp vs H Q E) : codeAny (model X.prog X.w) X.A (.call (.ref f) args) (fun r s' => match r with | .ok (.ret u) => EP X pins σ Q u s' | .ok _ => False | .error e => X.xe e s') s := by
  refine codeAny_mono (F.run X.A X.stack s H args us vs Q E hr hG I.env0 hb r h) fun r s' hq => ?_
  cases r with
  | error e => exact hx pins σ H s e s' I hq
  | ok fl =>
    cases fl with
    | ret u => exact I.after hq
    | next => exact False.elim hq
    | brk => exact False.elim hq
    | cont => exact False.elim hq
theorem of_go {M : Model} {A : Around} {f : Value} {us : List Value} {kw : List (Str × Value)} {R : Value → Shared → Prop} {E : Value → Shared → Prop} {s : Shared} (h : codeAny M A (.call f ⟨us, kw⟩) (fun r s' => match r with | .ok (.ret u) => R u s' | .ok _ => False | .error e => E e s') s) :
    wpAny M A (call f us kw) R E s := wpAny_call (codeAny_mono h fun r s' hq => by
  cases r with
  | error e => exact hq
  | ok fl =>
    cases fl with
    | ret u => exact hq
    | next => exact False.elim hq
    | brk => exact False.elim hq
    | cont => exact False.elim hq)
theorem run_fnG {ds : List Value} {dvs : List V} {pins : List (Addr × Obj)} {σ : L2.St} {H : Hp} {s : Shared} {Q : VK} {us : List Value} {vs : List V} (F : FnG X.prog X.w X.K X.mg X.base CX k f fd ps sp) (hr : Room k X.A) (hG : X.A.guards = some []) (hb : Binds X.K fd ps ds) (hd : Vals dvs ds) (hx : Passes CX X E)
    (I : Inv X pins σ H s) (r : Vals vs us) (h : sp (vs ++ dvs) H Q E) : wpAny (model X.prog X.w) X.A (call (.ref f) us) (EP X pins σ Q) X.xe s := by
  have r2 : Vals (vs ++ dvs) (us ++ ds) := r.append hd
  have hl : (us ++ ds).length = ps.length := by rw [← r2.length]; exact F.len _ _ _ _ h
  exact of_go (F.go hr hG hx I (hb s us I.kIn hl) r2 h)
theorem pe_callG {ds : List Value} {dvs : List V} (F : FnG X.prog X.w X.K X.mg X.base CX k f fd ps sp) (hr : Room k X.A) (hG : X.A.guards = some []) (hg : Gl X x) (hm : X.mg x = some (.ref f)) (hk : PySem.W.keepIn X.K (.ref f) = true) (hb : Binds X.K fd ps ds) (hd : Vals dvs ds) (hx : Passes CX X E)
    (ha : PA X (e :: es) t) (hdb : (x == ("__debug__" : Str)) = false) (he : starEach (e :: es) X.env = (false, eval e X.env) :: starEach es X.env) (hpl : (backTo pos (starEach es X.env)).any (·.1) = false) :
    PE X (.Call (.Name x p) (e :: es) [] pos) (tCall sp dvs E t) := by
  refine ⟨fun pins s σ H Q I h => ?_⟩
  refine wpAny_Call_Name_kw (ld_glob I hg hm ?_ hdb)
  refine PySem.W.callWith_K (h₀ := X.base) I.ok.mod.kin hk (thn (ha.run pos pins s σ H _ I h) fun us s1 ⟨vs, H1, I1, r, q⟩ => ⟨I1.kIn, ?_⟩) he hpl
  exact run_fnG F hr hG hb hd hx I1 r q
theorem pe_call0G {ds : List Value} {dvs : List V} (F : FnG X.prog X.w X.K X.mg X.base CX k f fd ps sp) (hr : Room k X.A) (hG : X.A.guards = some []) (hg : Gl X x) (hm : X.mg x = some (.ref f)) (hk : PySem.W.keepIn X.K (.ref f) = true) (hb : Binds X.K fd ps ds) (hd : Vals dvs ds) (hx : Passes CX X E)
    (hdb : (x == ("__debug__" : Str)) = false) : PE X (.Call (.Name x p) [] [] pos) (tCall sp dvs E tNil) := by
  refine ⟨fun pins s σ H Q I h => ?_⟩
  refine wpAny_Call_Name_kw (ld_glob I hg hm ?_ hdb)
  exact PySem.W.callWith_K0 I.kIn hk (run_fnG (us := []) F hr hG hb hd hx I .nil h)
theorem run_fnNG {pins : List (Addr × Obj)} {σ : L2.St} {H : Hp} {s : Shared} {Q : VK} {us ws : List Value} {vs zs : List V} (F : FnG X.prog X.w X.K X.mg X.base CX k f fd ps sp) (hr : Room k X.A) (hG : X.A.guards = some []) (hb : KBn X.K fd ps n ks g gV) (hx : Passes CX X E)
    (I : Inv X pins σ H s) (r : Vals vs us) (rz : Vals zs ws) (l1 : vs.length = n) (l2 : zs.length = ks.length) (h : sp (gV vs zs) H Q E) : wpAny (model X.prog X.w) X.A (call (.ref f) us (ks.zip ws)) (EP X pins σ Q) X.xe s :=
  of_go (F.go hr hG hx I (hb.to s us ws I.kIn (r.length.symm.trans l1) (rz.length.symm.trans l2)) (hb.rel r rz) h)
theorem pe_callNG (F : FnG X.prog X.w X.K X.mg X.base CX k f fd ps sp) (hr : Room k X.A) (hG : X.A.guards = some []) (hg : Gl X x) (hm : X.mg x = some (.ref f)) (hk : PySem.W.keepIn X.K (.ref f) = true) (hb : KBn X.K fd ps n ks g gV) (hx : Passes CX X E)
    (ha : PA X (e :: es) t) (hkw : PK X kws tk) (hall : (backToKw pos (keywordEach kws X.env)).all (·.1.isSome) = true) (hks : (backToKw pos (keywordEach kws X.env)).filterMap (·.1) = ks)
    (hdb : (x == ("__debug__" : Str)) = false) (he : starEach (e :: es) X.env = (false, eval e X.env) :: starEach es X.env)
    (hpl : ((backTo pos (starEach (e :: es) X.env)).any (·.1) || (backToKw pos (keywordEach kws X.env)).any (·.1.isNone)) = false) :
    PE X (.Call (.Name x p) (e :: es) kws pos) (tCallN n ks.length sp gV E t tk) := by
  refine ⟨fun pins s σ H Q I h => ?_⟩
  refine wpAny_Call_Name_kw (ld_glob I hg hm ?_ hdb)
  refine PySem.W.callWith_KW (h₀ := X.base) I.ok.mod.kin hk hall (thn (ha.run pos pins s σ H _ I h) fun us s1 ⟨vs, H1, I1, r, q⟩ => ?_) hpl he
  refine thn (hkw.run pos pins s1 σ H1 _ I1 q) fun ws s2 ⟨zs, H2, I2, rz, l1, l2, q2⟩ => ⟨I2.kIn, ?_⟩
  rw [hks]
  exact run_fnNG F hr hG hb hx I2 r rz l1 l2 q2
end
/-- a def by its body -/
theorem fnG_of {CX : CXT} {P : Program} {w : World} {K : PySem.W.Frag} {mg : Str → Option Value} {base : Heap} {k : Nat} {f : Addr} {qual x : Str} {params : Arguments} {body : List Stmt} {scope : Scope} {fd : FuncData} {N ps : List Str} {sp : Sp}
    (F : FunD K x qual params body scope [] [] f fd) (S : FnScope N ps scope)
    (len : ∀ vs H Q E, sp vs H Q E → vs.length = ps.length)
    (hbody : ∀ (cdv : Value) (A : Around) (outer : List Env) (s : Shared) (H : Hp) (vs : List V) (Q : VK) (E : XK), Room k (A.deeper (envOfC qual scope s.heap.objs.size f cdv)) → A.guards = some [] → sp vs H Q E →
      ∃ t, PSs (cxOf CX P w K mg base N qual scope f cdv A outer s H E) body t ∧ t { nx := fun _ H' => Q .non H', rt := Q } (L2.start N vs) H) :
    FnG P w K mg base CX (k + 1) f fd ps sp := by
  obtain ⟨oc, od, dV, kV, doc, pm, an, cdv, ct, osl, rfl, lk, hcd, _, _⟩ := F.ex
  refine ⟨len, fun A outer s H args us vs Q E hr hG e0 hb r hsp => ?_⟩
  -- the rule of the hand layer, asked at this place only
  have hl := len _ _ _ _ hsp
  have KX : K.In s.heap := e0.mod.kin.keeps fun b o e => (e0.bs b o e).1
  have lim : s.heap.NoLimit := e0.mod.nolimit.keeps fun b o e => (e0.bs b o e).1
  have hkind : ∀ y ∈ ps.zip us, scope.names.lookup y.1 = some .local ∨ (scope.names.lookup y.1 = some .cell ∧ ((cellsFrom (s.heap.objs.size + 1) scope.names []).lookup y.1).isSome = true) := fun ⟨n, v⟩ hy => by
    rcases S.par n (List.of_mem_zip hy).1 with q | q
    · exact .inl q
    · exact .inr ⟨q, PySem.W.cellsFrom_some _ _ _ (.inl q)⟩
  refine codeAny_call_function hr.depth (KX _ _ lk) rfl S.co S.gen rfl (PySem.W.codeRec_of KX hcd) (hb _ _ _ _ ?_)
  refine wpAny_newFunctionEnv_cells S.kind hkind fun env he s1 x => ?_
  subst he
  refine ⟨lim.keeps x.toInCall.keep, codeAny_func ?_⟩
  obtain ⟨t, ht, hq⟩ := hbody cdv A outer s H vs Q E (hr.deeper _) hG hsp
  have I : Inv (cxOf CX P w K mg base N qual scope f cdv A outer s H E) [] (L2.start N vs) H s1 := inv_start S hr.hd e0 hl r x
  refine wpAny_mono (ht.run [] s1 (L2.start N vs) H _ I hq) (fun fl s' hs => ?_) fun e s' hs => hs
  cases fl with
  | ret u =>
    obtain ⟨v, σ', H', J, rv, q⟩ := hs
    exact ⟨v, H', J.os, J.bare, J.base, J.hok, rv, q⟩
  | next =>
    obtain ⟨σ', H', J, q⟩ := hs
    exact ⟨V.non, H', J.os, J.bare, J.base, J.hok, rfl, q⟩
  | brk =>
    obtain ⟨_, _, _, q⟩ := hs
    exact False.elim q
  | cont =>
    obtain ⟨_, _, _, q⟩ := hs
    exact False.elim q
/-! ### the law's own call -/
theorem law_callG {P : Program} {w : World} {K : PySem.W.Frag} {mg mb : Str → Option Value} {CX : CXT} {k : Nat} {fa a : Addr} {fd : FuncData} {x : Str} {sp : Sp} {s₁ : Shared} {vs : List Value} {ns : List Int}
    (KX : K.In s₁.heap) (hns : s₁.heap.Ns mainGlobals mg) (hb : s₁.heap.Ns builtinsNs mb) (hbb : ∀ x : Str, x ≠ "__name__" → mb x = bootBuiltins x) (hlim : s₁.heap.NoLimit) (hg : s₁.gens = #[])
    (ha : s₁.heap.get? a = some { cls := .type "list", data := .seq vs.toArray }) (hi : IntsAre vs ns) (hl : ns.length ≤ sizeLine) (hr : Room k callerA)
    (F : ∀ base : Heap, K.In base → base.Ns mainGlobals mg → FnG P w K mg base CX k fa fd [x] sp) (hbind : ∀ (s : Shared) (u : Value), BindsTo s fd ⟨[u], []⟩ [(x, u)])
    (hsp : ∀ H : Hp, Only H → SqL K H a (ns.map V.int) → sp [.ref a] H (fun v _ => v = .bl true) fun _ _ _ => False)
    (hCX : ∀ H e s', CX [] H s₁ (fun _ _ _ => False) e s' → False) :
    codeAny (model P w) callerA (.call (.ref fa) ⟨[.ref a], []⟩) (fun r s' => r = .ok (.ret (.bool true)) ∧ OldK s₁.heap s'.heap ∧ s'.os = s₁.os ∧ AllBare s'.gens) s₁ := by
  have rv := vals_ints hi
  have lenV := hi.length
  -- from an abstract heap in which nothing but the script may be tracked
  have core : ∀ H : Hp, Only H → SqL K H a (ns.map V.int) → HOk P w H s₁.heap → (∀ b, H b ≠ none → b = a) → (H a ≠ none → K.lookup a = none) →
      codeAny (model P w) callerA (.call (.ref fa) ⟨[.ref a], []⟩) (fun r s' => r = .ok (.ret (.bool true)) ∧ OldK s₁.heap s'.heap ∧ s'.os = s₁.os ∧ AllBare s'.gens) s₁ := by
    intro H hO hS hok hA hK
    have base_of : ∀ {b : Addr} {o : Obj}, s₁.heap.get? b = some o → H b = none → (hidT s₁.heap H).get? b = some o := fun e n => hidT_get e n
    have noA : ∀ {b : Addr} {o : Obj} {es : Array DictEntry} {ep : Nat}, s₁.heap.get? b = some o → o.data = .dict es ep → H b = none := fun {b o es ep} e d => by
      cases q : H b with
      | none => rfl
      | some u =>
        have e' : b = a := hA b (by rw [q]; simp)
        subst e'
        rw [ha] at e; cases e
        have d' : Data.seq vs.toArray _ = Data.dict es ep := d
        cases d'
    have nsK : ∀ {b : Addr} {m : Str → Option Value}, s₁.heap.Ns b m → (hidT s₁.heap H).Ns b m := fun {b m} ⟨o, es, ep, e, d, r⟩ => ⟨o, es, ep, base_of e (noA e d), d, r⟩
    have hKb : K.In (hidT s₁.heap H) := fun b o e => base_of (KX b o e) (by
      cases q : H b with
      | none => rfl
      | some u =>
        have e' : b = a := hA b (by rw [q]; simp)
        subst e'
        rw [hK (by rw [q]; simp)] at e; cases e)
    have hM : Mod K mg (hidT s₁.heap H) := ⟨hKb, nsK hns, ⟨mb, nsK hb, hbb⟩, let ⟨mc, h1, h2⟩ := hlim; ⟨mc, nsK h1, h2⟩⟩
    have e0 : Env0 P w K mg (hidT s₁.heap H) callerA [] s₁ H := ⟨rfl, hM, fun b o e => of_hidT e, Nat.le_of_eq (hidT_size _ _), trivial, fun b hb => absurd (show b ∈ ([] : List Addr) from hb) (by simp), hok, .of_eq hg⟩
    refine codeAny_mono ((F _ hKb (nsK hns)).run callerA [] s₁ H ⟨[.ref a], []⟩ [.ref a] [.ref a] _ _ hr rfl e0 (hbind s₁ (.ref a)) (.cons rfl .nil) (hsp H hO hS)) fun r s' h => ?_
    cases r with
    | error e => exact (hCX H e s' h).elim
    | ok fl =>
      cases fl with
      | next => exact False.elim h
      | brk => exact False.elim h
      | cont => exact False.elim h
      | ret u =>
        obtain ⟨v, H', os, bare, un, hok', r', q⟩ := h
        have q' : v = .bl true := q
        subst q'
        obtain rfl : u = Value.bool true := r'
        refine ⟨rfl, OldK.of_keep fun b o e => ?_, os, bare⟩
        cases q : H b with
        | none => exact un.keep b o e q (by intro z; exact absurd (show b ∈ ([] : List Addr) from z) (by simp)) (by simp)
        | some u =>
          rcases hO b with z | ⟨ob, xs, z⟩
          · rw [q] at z; cases z
          · have z2 := un.frzs b ob _ z
            obtain ⟨e1, _⟩ := hok b _ z
            obtain ⟨e2, _⟩ := hok' b _ z2
            rw [e] at e1; cases e1
            exact e2
  cases hk : K.lookup a with
  | some o =>
    -- the script is one of the module's own objects
    have e := KX a o hk
    rw [ha] at e
    cases e
    refine core (fun _ => none) (fun _ => .inl rfl) (.inr ⟨_, vs.toArray, _, hk, rfl, rfl, rfl, by rw [List.size_toArray, lenV]; exact hl, by simpa using rv⟩) (fun b u z => by have z' : (none : Option HO) = some u := z; cases z') (fun b z => absurd rfl z) fun z => absurd rfl z
  | none =>
    refine core (fun b => if b = a then some (.frz { cls := .type "list", data := .seq vs.toArray } (.lst (ns.map V.int))) else none) (fun b => ?_) (.inl (.inr ⟨{ cls := .type "list", data := .seq vs.toArray }, if_pos rfl⟩)) (fun b u z => ?_) (fun b z => ?_) fun _ => hk
    · by_cases hb : b = a
      · exact .inr ⟨_, _, if_pos hb⟩
      · exact .inl (if_neg hb)
    · by_cases hb : b = a
      · have z' := (if_pos hb).symm.trans z
        cases z'
        subst hb
        exact ⟨ha, by rw [List.length_map]; exact hl, vs, _, rv, ha⟩
      · have z' := (if_neg hb).symm.trans z
        cases z'
    · by_cases hb : b = a
      · exact hb
      · exact absurd (if_neg hb) z
theorem walk_ofG {l : PySem.W.OpenLaw} {n k : Nat} {q : Program} {loose : List Str} {XP : (Str → Option Value) → Heap → Prop} {YP : World → Heap → Prop} {d : DefRec} {CX : World → CXT} {x : Str}
    (hn : l.most = some n) (hn2 : n ≤ sizeLine) (hdf : d.params.defaults = []) (hr : Room k callerA)
    (F : ∀ (w : World) (mg : Str → Option Value) (fa : Addr) (h : Heap), YP w h → h.Ns mainGlobals mg → mg d.name = some (.ref fa) →
      ∃ (K : PySem.W.Frag) (fd : FuncData) (sp : Sp), K.In h ∧ (∀ (s : Shared) (u : Value), BindsTo s fd ⟨[u], []⟩ [(x, u)]) ∧
        (∀ (H : Hp) (a : Addr) (ns : List Int), ns.length ≤ n → Only H → SqL K H a (ns.map V.int) → sp [.ref a] H (fun v _ => v = .bl true) fun _ _ _ => False) ∧
        ∀ base : Heap, K.In base → base.Ns mainGlobals mg → FnG l.prog w K mg base (CX w) k fa fd [x] sp)
    (hCX : ∀ (w : World) (H : Hp) (s : Shared) (e : Value) (s' : Shared), CX w [] H s (fun _ _ _ => False) e s' → False) :
    PySem.W.WalkO q loose XP YP l.row.toRowW d [] (fun f vs => PySem.call f vs) := by
  refine Att.attach_call hn hdf fun w s₀ s₁ mg mb fa o pm cd doc a vs ns G Y ho hd hcd hmg hobj hints hlen hg => ?_
  obtain ⟨K, fd, sp, KX, hb, hsp, hF⟩ := F w mg fa _ Y G.T.g hmg
  exact law_callG KX G.T.g G.T.b G.T.builtins G.T.nolimit hg hobj hints (Nat.le_trans hlen hn2) hr hF hb (fun H hO hS => hsp H a ns hlen hO hS) fun H e s' => hCX w H s₁ e s'
end Mc
end

section
set_option Elab.async false
set_option linter.all false
set_option maxRecDepth 100000
set_option maxHeartbeats 4000000
set_option autoImplicit false
/-! McL: freezing, calls -/
namespace Mc
open PySem PySem.Spec PyProof.Rows L2
section
variable {K : PySem.W.Frag} {o : Wd} {H : Hp} {S : Store}
theorem HRel.freeze (R : HRel K o S H) {n : Nat} {a : Addr} {vs : List V} {ds : List PyData} (hr : o.rho[n]? = some a) (hH : H a = some (.lst vs)) (hz : vs.length ≤ sizeLine) (hd : DqAll K o.FH vs ds) (hc : PyData.canLayAll0 ds = true) :
    ∃ o1 : Wd, o1.rho = o.rho ∧ Ext o H o1 H ∧ HRel K o1 (S.set n (.fz (.list ds))) H ∧ Dq K o1.FH (.ref a) (.list ds) := by
  have up : ∀ x w, o.FH x = some w → upd o.FH a (.lst vs) x = some w := fun x w h => by
    by_cases e : x = a
    · subst e
      have := R.sub x w h
      rw [hH] at this; cases this
      exact upd_same
    · rw [upd_ne e]; exact h
  have nn : n < S.length := by rw [← R.dom]; exact (List.getElem?_eq_some_iff.mp hr).1
  have hq : Dq K (upd o.FH a (.lst vs)) (.ref a) (.list ds) := .lst (.inl (.of upd_same)) (dqAll_mono up hd)
  refine ⟨⟨o.rho, upd o.FH a (.lst vs)⟩, rfl, ⟨fun _ _ h => h, fun _ h => .inl h, up, fun x w h => ?_, fun x w h _ => h⟩, ⟨fun x w h => ?_, fun x w h => ?_, by simp [R.dom], R.nd, R.al, fun m ts x h1 h2 => ?_, fun m t x h1 h2 => ?_⟩, hq⟩
  · by_cases e : x = a
    · subst e; exact .inr (.inr (List.mem_of_getElem? hr))
    · have h' : upd o.FH a (.lst vs) x = some w := h
      rw [upd_ne e] at h'; exact .inl h'
  · have h' : upd o.FH a (.lst vs) x = some w := h
    by_cases e : x = a
    · subst e; rw [upd_same] at h'; cases h'; exact hH
    · rw [upd_ne e] at h'; exact R.sub x w h'
  · have h' : upd o.FH a (.lst vs) x = some w := h
    by_cases e : x = a
    · subst e; rw [upd_same] at h'; cases h'; exact hz
    · rw [upd_ne e] at h'; exact R.fl x w h'
  · by_cases e : m = n
    · subst e
      rw [List.getElem?_set_self nn] at h1; cases h1
    · rw [List.getElem?_set_ne (Ne.symm e)] at h1
      obtain ⟨f, ws, q, hz', r⟩ := R.lst m ts x h1 h2
      have ne : x ≠ a := fun ea => e (nodup_at R.nd (ea ▸ h2) hr)
      exact ⟨by show upd o.FH a (.lst vs) x = none; rw [upd_ne ne]; exact f, ws, q, hz', Reps.mono (o := o) (o1 := ⟨o.rho, upd o.FH a (.lst vs)⟩) (fun _ _ h => h) up r⟩
  · by_cases e : m = n
    · subst e
      rw [List.getElem?_set_self nn] at h1
      cases h1
      rw [show o.rho[m]? = some x from h2] at hr
      cases hr
      exact .d hq (by simpa [PyData.canLay0] using hc)
    · rw [List.getElem?_set_ne (Ne.symm e)] at h1
      exact Rep.mono (o := o) (o1 := ⟨o.rho, upd o.FH a (.lst vs)⟩) (fun _ _ h => h) up (R.fz m t x h1 h2)
def FrzOk (K : PySem.W.Frag) (H : Hp) (f : T → Store → Option (PyData × Store)) : Prop := ∀ (t : T) (S : Store) (d : PyData) (S1 : Store) (o : Wd) (v : V), HRel K o S H → Rep K o t v → f t S = some (d, S1) →
  ∃ o1 : Wd, o1.rho = o.rho ∧ Ext o H o1 H ∧ HRel K o1 S1 H ∧ Dq K o1.FH v d ∧ d.canLay0 = true
theorem frzs_ok {f : T → Store → Option (PyData × Store)} (hf : FrzOk K H f) : ∀ (ts : List T) (S : Store) (ds : List PyData) (S1 : Store) (o : Wd) (vs : List V), HRel K o S H → Reps K o ts vs → frzs f ts S = some (ds, S1) →
    ∃ o1 : Wd, o1.rho = o.rho ∧ Ext o H o1 H ∧ HRel K o1 S1 H ∧ DqAll K o1.FH vs ds ∧ PyData.canLayAll0 ds = true
  | [], S, ds, S1, o, vs, R, r, h => by
    cases r
    simp only [frzs, Option.some.injEq, Prod.mk.injEq] at h
    obtain ⟨rfl, rfl⟩ := h
    exact ⟨o, rfl, Ext.refl, R, .nil, by simp [PyData.canLayAll0]⟩
  | t :: ts, S, ds, S1, o, vs, R, r, h => by
    cases r with
    | cons r q =>
      unfold frzs at h
      split at h
      · rename_i d S2 e
        split at h
        · rename_i es S3 e2
          simp only [Option.some.injEq, Prod.mk.injEq] at h
          obtain ⟨rfl, rfl⟩ := h
          obtain ⟨o1, p1, x1, R1, d1, c1⟩ := hf _ _ _ _ _ _ R r e
          obtain ⟨o2, p2, x2, R2, d2, c2⟩ := frzs_ok hf ts S2 es S3 o1 _ R1 (q.ext x1) e2
          exact ⟨o2, p2.trans p1, x1.trans R2.nd x2, R2, .cons (dq_mono x2.fh d1) d2, by simp only [PyData.canLayAll0, Bool.and_eq_true]; exact ⟨c1, c2⟩⟩
        · cases h
      · cases h
theorem frz_ok : ∀ k : Nat, FrzOk K H (frz k) := by
  intro k
  induction k with
  | zero =>
    intro t S d S1 o v R r h
    cases t with
    | d t =>
      simp only [frz, Option.some.injEq, Prod.mk.injEq] at h
      obtain ⟨rfl, rfl⟩ := h
      cases r with
      | d r c => exact ⟨o, rfl, Ext.refl, R, r, c⟩
    | _ => simp [frz] at h
  | succ k ih =>
    intro t S d S1 o v R r h
    unfold frz at h
    cases r with
    | d r c =>
      simp only [Option.some.injEq, Prod.mk.injEq] at h
      obtain ⟨rfl, rfl⟩ := h
      exact ⟨o, rfl, Ext.refl, R, r, c⟩
    | tup q r =>
      simp only at h
      split at h
      · rename_i ds S2 e
        simp only [Option.some.injEq, Prod.mk.injEq] at h
        obtain ⟨rfl, rfl⟩ := h
        obtain ⟨o1, p1, x1, R1, d1, c1⟩ := frzs_ok ih _ _ _ _ _ _ R r e
        exact ⟨o1, p1, x1, R1, .tup (sqT_mono x1.fh q) d1, by simpa [PyData.canLay0] using c1⟩
      · cases h
    | lst q r =>
      simp only at h
      split at h
      · rename_i ds S2 e
        simp only [Option.some.injEq, Prod.mk.injEq] at h
        obtain ⟨rfl, rfl⟩ := h
        obtain ⟨o1, p1, x1, R1, d1, c1⟩ := frzs_ok ih _ _ _ _ _ _ R r e
        exact ⟨o1, p1, x1, R1, .lst (sqL_mono x1.fh q) d1, by simpa [PyData.canLay0] using c1⟩
      · cases h
    | @obj n a hr =>
      simp only at h
      split at h
      · rename_i t e
        simp only [Option.some.injEq, Prod.mk.injEq] at h
        obtain ⟨rfl, rfl⟩ := h
        have q := R.fz n _ _ e hr
        cases q with
        | d r c => exact ⟨o, rfl, Ext.refl, R, r, c⟩
      · rename_i ts e
        split at h
        · rename_i ds S2 e2
          simp only [Option.some.injEq, Prod.mk.injEq] at h
          obtain ⟨rfl, rfl⟩ := h
          obtain ⟨_, vs, h1, hz, h2⟩ := R.lst n _ _ e hr
          obtain ⟨o1, p1, x1, R1, d1, c1⟩ := frzs_ok ih _ _ _ _ _ _ R h2 e2
          obtain ⟨o2, p2, x2, R2, d2⟩ := R1.freeze (by rw [p1]; exact hr) h1 hz d1 c1
          exact ⟨o2, p2.trans p1, x1.trans R2.nd x2, R2, d2, by simpa [PyData.canLay0] using c1⟩
        · cases h
      · cases h

/-! ### a def's promise -/
/-- what a def does with n arguments: g -/
def spF (K : PySem.W.Frag) (n : Nat) (g : List T → Store → R T) : Sp := fun vs H Q E => vs.length = n ∧ ∃ (o : Wd) (S : Store) (ts : List T), HRel K o S H ∧ Reps K o ts vs ∧ Post K WF (Rep K) o H (g ts S) Q
theorem callM_sound {cf : Nat → List T → Store → R T} {md f n : Nat} {ts : List T} {vs : List V} {Q : VK} {E : XK} (R : HRel K o S H) (r : Reps K o ts vs) (hn : ts.length = n) (h : Post K WF (Rep K) o H (callM cf md f ts S) Q) : spF K n (cf f) vs H Q E := by
  refine ⟨by rw [← r.length]; exact hn, ?_⟩
  unfold callM at h
  by_cases hm : md = 0
  · rw [if_pos hm] at h
    split at h
    · exact h.elim
    · rename_i ds S1 e
      obtain ⟨o1, p1, x1, R1, d1, c1⟩ := frzs_ok (frz_ok deep) _ _ _ _ _ _ R r e
      have Rc : HRel K ⟨[], o1.FH⟩ [] H := ⟨R1.sub, R1.fl, rfl, List.nodup_nil, fun n a h => by simp at h, fun n ts a h => by simp at h, fun n ts a h => by simp at h⟩
      refine ⟨⟨[], o1.FH⟩, [], ds.map .d, Rc, dqAll_reps d1 c1, ?_⟩
      cases e2 : cf f (ds.map .d) [] with
      | no => rw [e2] at h; exact h.elim
      | ex x S2 =>
        rw [e2] at h
        simp only at h
        split at h
        · exact h.elim
        · exact h.elim
      | ok t S2 =>
        rw [e2] at h
        simp only at h
        intro o2 v H2 x2 R2 r2
        split at h
        · rename_i d S3 e3
          obtain ⟨o3, p3, x3, R3, d3, c3⟩ := frz_ok deep _ _ _ _ _ _ R2 r2 e3
          have x23 : Ext ⟨[], o1.FH⟩ H o3 H2 := x2.trans R3.nd x3
          have keepA : ∀ x u, H x = some u → H2 x = some u := fun x u hx => x23.keep x u hx (by simp)
          have fnew : ∀ x u, o3.FH x = some u → o1.FH x = some u ∨ H x = none := fun x u hx => by
            rcases x23.fhn x u hx with q | q | q
            · exact .inl q
            · exact .inr q
            · simp at q
          have xw : Ext o1 H ⟨o1.rho, o3.FH⟩ H2 := ⟨fun _ _ h => h, fun _ h => .inl h, x23.fh, fun x u hx => by
            rcases fnew x u hx with q | q
            · exact .inl q
            · exact .inr (.inl q), fun x u hx _ => keepA x u hx⟩
          have Rw : HRel K ⟨o1.rho, o3.FH⟩ S1 H2 := by
            refine ⟨R3.sub, R3.fl, R1.dom, R1.nd, fun n x hx => ?_, fun n us x k1 k2 => ?_, fun n t x k1 k2 => (R1.fz n t x k1 k2).ext xw⟩
            · obtain ⟨u, hu⟩ := R1.al n x hx
              exact ⟨u, keepA x u hu⟩
            · obtain ⟨fN, ws, hw, hz, rw'⟩ := R1.lst n us x k1 k2
              refine ⟨?_, ws, keepA x _ hw, hz, rw'.ext xw⟩
              cases q : o3.FH x with
              | none => rfl
              | some u =>
                rcases fnew x u q with q2 | q2
                · rw [fN] at q2; cases q2
                · rw [hw] at q2; cases q2
          exact h ⟨o1.rho, o3.FH⟩ v H2 (x1.trans R1.nd xw) Rw (.d d3 c3)
        · exact h.elim
  · rw [if_neg hm] at h
    exact ⟨o, S, ts, R, r, h⟩
end

/-! ### calls -/
section
variable {X : Cx} {cf : Nat → List T → Store → R T} {md f n : Nat} {x : Str} {p pos : Pos} {e : Expr} {es : List Expr} {xs : Exs} {kws : List Keyword}
/-- the def at the name x is the machine's f-th -/
structure Callee (X : Cx) (cf : Nat → List T → Store → R T) (x : Str) (f n : Nat) (fd : FuncData) (ps : List Str) : Prop where
  ex : ∃ (k : Nat) (a : Addr) (CX : CXT), FnG X.prog X.w X.K X.mg X.base CX k a fd ps (spF X.K n (cf f)) ∧ Room k X.A ∧ X.A.guards = some [] ∧ X.mg x = some (.ref a) ∧ PySem.W.keepIn X.K (.ref a) = true ∧ Passes CX X E0
  np : ps.length = n
theorem ev_call : ev cf (.call md f xs) = fun sg S => (evs cf xs sg S).bnd fun ts S1 => callM cf md f ts S1 := by funext sg S; rw [ev]
theorem ev_callK {pm : List Nat} : ev cf (.callK md f pm xs) = fun sg S => (evs cf xs sg S).bnd fun ts S1 => (permK ts pm S1).bnd fun us S2 => callM cf md f us S2 := by funext sg S; rw [ev]
theorem call_read {σ : L2.St} {H : Hp} {Q : VK} (hl : xs.len = n) (h : mt X.K WF (ev cf (.call md f xs)) σ H Q) : mts X.K WF (evs cf xs) σ H fun vs H1 => spF X.K n (cf f) (vs ++ []) H1 Q E0 := by
  rw [ev_call] at h
  obtain ⟨o, sg, S, rs, R, p⟩ := h
  have p := Post.bnd (rel := Reps X.K) p
  refine ⟨o, sg, S, rs, R, ?_⟩
  cases e : evs cf xs sg S with
  | no => rw [e] at p; exact p
  | ex y S2 => rw [e] at p; exact p
  | ok ts S2 =>
    rw [e] at p
    intro o1 vs H1 x1 R1 r1
    obtain ⟨o2, ts2, S3, x2, R2, r2, q⟩ := p o1 vs H1 x1 R1 r1
    have := evs_len xs sg S ts S2 e
    rw [List.append_nil]
    have l2 : ts2.length = n := by rw [r2.length, ← r1.length, this, hl]
    exact callM_sound R2 r2 l2 q
theorem m_call {fd : FuncData} {ps : List Str} (C : Callee X cf x f n fd ps) (hb : Binds X.K fd ps []) (hg : Gl X x) (hl : xs.len = n) (ha : PA X (e :: es) (mts X.K WF (evs cf xs)))
    (hdb : (x == ("__debug__" : Str)) = false) (he : starEach (e :: es) X.env = (false, eval e X.env) :: starEach es X.env) (hpl : (backTo pos (starEach es X.env)).any (·.1) = false) :
    PE X (.Call (.Name x p) (e :: es) [] pos) (mt X.K WF (ev cf (.call md f xs))) := by
  obtain ⟨k, a, CX, F, hr, hG, hm, hk, hx⟩ := C.ex
  exact (pe_callG F hr hG hg hm hk hb .nil hx ha hdb he hpl).imp fun σ H Q h => call_read hl h
theorem m_call0 {fd : FuncData} {ps : List Str} (C : Callee X cf x f 0 fd ps) (hb : Binds X.K fd ps []) (hg : Gl X x) (hdb : (x == ("__debug__" : Str)) = false) :
    PE X (.Call (.Name x p) [] [] pos) (mt X.K WF (ev cf (.call md f .nil))) := by
  obtain ⟨k, a, CX, F, hr, hG, hm, hk, hx⟩ := C.ex
  refine (pe_call0G F hr hG hg hm hk hb .nil hx hdb).imp fun σ H Q h => ?_
  obtain ⟨o, sg, S, rs, R, p⟩ := call_read (n := 0) rfl h
  exact p.here R .nil
/-! ### keywords -/
def permG {a : Type} (xs : List a) (pm : List Nat) : List a := pm.filterMap fun i => xs[i]?
theorem vals_get {vs : List V} {us : List Value} (r : Vals vs us) (i : Nat) : (vs[i]? = none ∧ us[i]? = none) ∨ ∃ v u, vs[i]? = some v ∧ us[i]? = some u ∧ RelV v u := by
  induction r generalizing i with
  | nil => exact .inl ⟨by simp, by simp⟩
  | cons r q ih =>
    cases i with
    | zero => exact .inr ⟨_, _, rfl, rfl, r⟩
    | succ i => simpa using ih i
theorem vals_perm {vs : List V} {us : List Value} (r : Vals vs us) : ∀ pm : List Nat, Vals (permG vs pm) (permG us pm)
  | [] => .nil
  | i :: pm => by
    have ih := vals_perm r pm
    unfold permG at ih ⊢
    rcases vals_get r i with ⟨h1, h2⟩ | ⟨v, u, h1, h2, h3⟩
    · rw [List.filterMap_cons, List.filterMap_cons, h1, h2]; exact ih
    · rw [List.filterMap_cons, List.filterMap_cons, h1, h2]; exact .cons h3 ih
theorem perm_reps {K : PySem.W.Frag} {o : Wd} {ts : List T} {vs : List V} (r : Reps K o ts vs) : ∀ {pm : List Nat} {us : List T}, permL ts pm = some us → Reps K o us (permG vs pm) ∧ us.length = pm.length
  | [], us, h => by
    simp only [permL, Option.some.injEq] at h
    subst h
    exact ⟨.nil, rfl⟩
  | i :: pm, us, h => by
    unfold permL at h
    split at h
    · rename_i t e
      split at h
      · rename_i ws e2
        cases h
        obtain ⟨v, h1, h2⟩ := r.get e
        obtain ⟨h3, h4⟩ := perm_reps r e2
        unfold permG at h3 ⊢
        rw [List.filterMap_cons, h1]
        exact ⟨.cons h2 h3, by simp [h4]⟩
      · cases h
    · cases h
structure KwOk (K : PySem.W.Frag) (fd : FuncData) (ps : List Str) (n : Nat) (ks : List Str) (pm : List Nat) : Prop where
  to : ∀ (s : Shared) (us ws : List Value), K.In s.heap → us.length = n → ws.length = ks.length → BindsTo s fd ⟨us, ks.zip ws⟩ (ps.zip (permG (us ++ ws) pm))
theorem KwOk.kbn {K : PySem.W.Frag} {fd : FuncData} {ps ks : List Str} {n : Nat} {pm : List Nat} (h : KwOk K fd ps n ks pm) : KBn K fd ps n ks (fun us ws => permG (us ++ ws) pm) (fun vs zs => permG (vs ++ zs) pm) :=
  ⟨fun s us ws X h1 h2 => h.to s us ws X h1 h2, fun r1 r2 => vals_perm (r1.append r2) pm⟩
def Exs.app : Exs → Exs → Exs
  | .nil, ys => ys
  | .cons x xs, ys => .cons x (xs.app ys)
theorem evs_app : ∀ (xs ys : Exs) (sg : Sg) (S : Store), evs cf (xs.app ys) sg S = (evs cf xs sg S).bnd fun ts S1 => (evs cf ys sg S1).bnd fun us S2 => .ok (ts ++ us) S2
  | .nil, ys, sg, S => by
    show evs cf ys sg S = _
    rw [evs]
    show _ = (evs cf ys sg S).bnd fun us S2 => .ok ([] ++ us) S2
    cases evs cf ys sg S <;> rfl
  | .cons x xs, ys, sg, S => by
    show evs cf (.cons x (xs.app ys)) sg S = _
    rw [evs, evs]
    cases ev cf x sg S with
    | no => rfl
    | ex y S1 => rfl
    | ok t S1 =>
      show (evs cf (xs.app ys) sg S1).bnd _ = ((evs cf xs sg S1).bnd _).bnd _
      rw [evs_app xs ys sg S1]
      cases evs cf xs sg S1 with
      | no => rfl
      | ex y S2 => rfl
      | ok ts S2 =>
        show ((evs cf ys sg S2).bnd _).bnd _ = (evs cf ys sg S2).bnd _
        cases evs cf ys sg S2 <;> rfl
theorem app_len : ∀ xs ys : Exs, (xs.app ys).len = xs.len + ys.len
  | .nil, ys => by simp [Exs.app, Exs.len]
  | .cons x xs, ys => by simp [Exs.app, Exs.len, app_len xs ys]; omega
theorem mk_nil : PK X [] (mts X.K WF (evs cf .nil)) := ⟨fun pos pins s σ H Q I h => pk_nil.run pos pins s σ H Q I (by
  obtain ⟨o, sg, S, rs, R, p⟩ := h
  exact p.here R .nil)⟩
theorem mk_cons {nm : Option Str} {kp : Pos} {xe : Ex} (he : PE X e (mt X.K WF (ev cf xe))) (hk : PK X kws (mts X.K WF (evs cf xs))) : PK X (⟨nm, e, kp⟩ :: kws) (mts X.K WF (evs cf (.cons xe xs))) := ⟨fun pos pins s σ H Q I h => (pk_cons he hk).run pos pins s σ H Q I (by
  have h : mtG X.K WF (Reps X.K) (fun sg S => (ev cf xe sg S).bnd fun t S1 => (evs cf xs sg S1).bnd fun ts S2 => .ok (t :: ts) S2) σ H Q := by
    obtain ⟨o, sg, S, rs, R, p⟩ := h
    refine ⟨o, sg, S, rs, R, ?_⟩
    rw [evs] at p
    exact p
  refine (mt_bnd (rel := Rep X.K) h) |> fun ⟨o, sg, S, rs, R, p⟩ => ⟨o, sg, S, rs, R, p.imp fun v H1 q => ?_⟩
  obtain ⟨o1, sg1, t, S1, rs1, R1, r1, p1⟩ := q
  refine ⟨o1, sg1, S1, rs1, R1, (Post.bnd (rel := Reps X.K) p1).imp fun vs H2 q2 => ?_⟩
  obtain ⟨o2, ts, S2, x2, R2, r2, p2⟩ := q2
  exact p2.here R2 (.cons (r1.ext x2) r2))⟩
variable {ks : List Str} {pm : List Nat} {zs : Exs} {m : Nat}
theorem callK_read {σ : L2.St} {H : Hp} {Q : VK} (hl : xs.len = n) (hz : zs.len = ks.length) (hp : pm.length = m) (h : mt X.K WF (ev cf (.callK md f pm (xs.app zs))) σ H Q) :
    mts X.K WF (evs cf xs) σ H fun vs H1 => mts X.K WF (evs cf zs) σ H1 fun us H2 => vs.length = n ∧ us.length = ks.length ∧ spF X.K m (cf f) (permG (vs ++ us) pm) H2 Q E0 := by
  rw [ev_callK] at h
  obtain ⟨o, sg, S, rs, R, p⟩ := h
  have p : Post X.K WF (Rep X.K) o H ((evs cf xs sg S).bnd fun ts S1 => ((evs cf zs sg S1).bnd fun us S2 => .ok (ts ++ us) S2).bnd fun ts S1 => (permK ts pm S1).bnd fun us S2 => callM cf md f us S2) Q := by
    rw [← Mc.R.bnd_bnd, ← evs_app]; exact p
  have p := Post.bnd (rel := Reps X.K) p
  refine ⟨o, sg, S, rs, R, ?_⟩
  cases e : evs cf xs sg S with
  | no => rw [e] at p; exact p
  | ex y S2 => rw [e] at p; exact p
  | ok ts S2 =>
    rw [e] at p
    intro o1 vs H1 x1 R1 r1
    obtain ⟨o2, ts2, S3, x2, R2, r2, q⟩ := p o1 vs H1 x1 R1 r1
    have l1 := evs_len xs sg S ts S2 e
    have lv : vs.length = n := by rw [← r1.length, l1, hl]
    refine ⟨o2, sg, S3, (rs.ext x2), R2, ?_⟩
    rw [Mc.R.bnd_bnd] at q
    have q := Post.bnd (rel := Reps X.K) q
    cases e2 : evs cf zs sg S3 with
    | no => rw [e2] at q; exact q
    | ex y S2 => rw [e2] at q; exact q
    | ok us S4 =>
      rw [e2] at q
      intro o3 ws H3 x3 R3 r3
      obtain ⟨o4, us2, S5, x4, R4, r4, q4⟩ := q o3 ws H3 x3 R3 r3
      have l2 := evs_len zs sg S3 us S4 e2
      refine ⟨lv, by rw [← r3.length, l2, hz], ?_⟩
      have q4 : Post X.K WF (Rep X.K) o4 H3 ((permK (ts2 ++ us2) pm S5).bnd fun us S2 => callM cf md f us S2) Q := q4
      unfold permK at q4
      split at q4
      · rename_i ws2 e3
        obtain ⟨h1, h2⟩ := perm_reps ((r2.ext x4).append r4) e3
        exact callM_sound R4 h1 (by rw [h2, hp]) q4
      · exact q4.elim
theorem m_callK {fd : FuncData} {ps : List Str} (C : Callee X cf x f m fd ps) (hb : KwOk X.K fd ps n ks pm) (hg : Gl X x) (hl : xs.len = n) (hz : zs.len = ks.length) (hp : pm.length = m) (ha : PA X (e :: es) (mts X.K WF (evs cf xs))) (hkw : PK X kws (mts X.K WF (evs cf zs)))
    (hall : (backToKw pos (keywordEach kws X.env)).all (·.1.isSome) = true) (hks : (backToKw pos (keywordEach kws X.env)).filterMap (·.1) = ks)
    (hdb : (x == ("__debug__" : Str)) = false) (he : starEach (e :: es) X.env = (false, eval e X.env) :: starEach es X.env)
    (hpl : ((backTo pos (starEach (e :: es) X.env)).any (·.1) || (backToKw pos (keywordEach kws X.env)).any (·.1.isNone)) = false) :
    PE X (.Call (.Name x p) (e :: es) kws pos) (mt X.K WF (ev cf (.callK md f pm (xs.app zs)))) := by
  obtain ⟨k, a, CX, F, hr, hG, hm, hk, hx⟩ := C.ex
  exact (pe_callNG F hr hG hg hm hk hb.kbn hx ha hkw hall hks hdb he hpl).imp fun σ H Q h => callK_read hl hz hp h
theorem m_callK0 {fd : FuncData} {ps : List Str} (C : Callee X cf x f m fd ps) (hb : KwOk X.K fd ps 0 ks pm) (hg : Gl X x) (hz : zs.len = ks.length) (hp : pm.length = m) (hkw : PK X kws (mts X.K WF (evs cf zs)))
    (hall : (backToKw pos (keywordEach kws X.env)).all (·.1.isSome) = true) (hks : (backToKw pos (keywordEach kws X.env)).filterMap (·.1) = ks)
    (hdb : (x == ("__debug__" : Str)) = false)
    (hpl : ((backTo pos (starEach [] X.env)).any (·.1) || (backToKw pos (keywordEach kws X.env)).any (·.1.isNone)) = false) :
    PE X (.Call (.Name x p) [] kws pos) (mt X.K WF (ev cf (.callK md f pm zs))) := by
  obtain ⟨k, a, CX, F, hr, hG, hm, hk, hx⟩ := C.ex
  refine ⟨fun pins s σ H Q I h => ?_⟩
  refine wpAny_Call_Name_kw (ld_glob I hg hm ?_ hdb)
  refine PySem.W.callWith_KW0 (h₀ := X.base) I.ok.mod.kin hk hall ?_ hpl
  have h2 : mts X.K WF (evs cf zs) σ H fun us H2 => us.length = ks.length ∧ spF X.K m (cf f) (permG ([] ++ us) pm) H2 Q E0 := by
    have h3 : mt X.K WF (ev cf (.callK md f pm ((Exs.nil).app zs))) σ H Q := h
    obtain ⟨o, sg, S, rs, R, p⟩ := callK_read (n := 0) rfl hz hp h3
    have p := p.here R .nil
    obtain ⟨o2, sg2, S2, rs2, R2, p2⟩ := p
    exact ⟨o2, sg2, S2, rs2, R2, p2.imp fun v H1 q => q.2⟩
  refine thn (hkw.run pos pins s σ H _ I h2) fun ws s2 ⟨zs2, H2, I2, rz, l2, q2⟩ => ⟨I2.kIn, ?_⟩
  rw [hks]
  exact run_fnNG (us := []) F hr hG hb.kbn hx I2 .nil rz rfl l2 q2
end
end Mc
end

section
set_option Elab.async false
set_option linter.all false
set_option maxRecDepth 100000
set_option maxHeartbeats 4000000
set_option autoImplicit false
/-! McS: order, sorted -/
namespace Mc
open PySem PySem.Spec PyProof.Rows L2

mutual
theorem ltD_alike : ∀ x y : PyData, PySem.W.alike x y = true → ltD x y = PySem.W.dataLt x y
  | .none, y, h => by
    cases y with
    | none => rfl
    | _ => exact absurd h (by simp [PySem.W.alike])
  | .bool a, y, h => by
    cases y with
    | bool b => rw [PySem.W.dataLt_bool]; cases a <;> cases b <;> rfl
    | _ => exact absurd h (by simp [PySem.W.alike])
  | .int a, y, h => by
    cases y with
    | int b => rw [PySem.W.dataLt_int]; rfl
    | _ => exact absurd h (by simp [PySem.W.alike])
  | .str a, y, h => by
    cases y with
    | str b => rw [PySem.W.dataLt_str]; rfl
    | _ => exact absurd h (by simp [PySem.W.alike])
  | .list xs, y, h => by
    cases y with
    | list ys => rw [PySem.W.dataLt_list, ltD]; exact ltDs_alike xs ys (by simpa [PySem.W.alike] using h)
    | _ => exact absurd h (by simp [PySem.W.alike])
  | .tuple xs, y, h => by
    cases y with
    | tuple ys => rw [PySem.W.dataLt_tuple, ltD]; exact ltDs_alike xs ys (by simpa [PySem.W.alike] using h)
    | _ => exact absurd h (by simp [PySem.W.alike])
  | .dict _, y, h => absurd h (by cases y <;> simp [PySem.W.alike])
theorem ltDs_alike : ∀ xs ys : List PyData, PySem.W.alikeAll xs ys = true → ltDs xs ys = PyProof.Rows.lexLt itemOrd (PySem.W.keyToksAll xs) (PySem.W.keyToksAll ys)
  | [], [], _ => by simp [ltDs, PySem.W.keyToksAll, lex_irrefl]
  | [], y :: ys, _ => by
    rw [PySem.W.toks_all_cons]
    simp only [PySem.W.keyToksAll]
    rw [lex_diff (O := itemOrd) (by simp)]
    simp [ltDs, itemLt]
  | x :: xs, [], _ => by
    rw [PySem.W.toks_all_cons]
    simp only [PySem.W.keyToksAll]
    rw [lex_diff (O := itemOrd) (by simp)]
    simp [ltDs, itemLt]
  | x :: xs, y :: ys, h => by
    obtain ⟨h1, h2⟩ := PySem.W.alike_all_cons h
    rw [ltDs]
    cases hx : PyData.eqv x y with
    | true => rw [if_pos rfl, PySem.W.dataLt_all_yes h1 hx]; exact ltDs_alike xs ys h2
    | false => rw [if_neg Bool.false_ne_true, PySem.W.dataLt_all_no h1 hx]; exact ltD_alike x y h1
end
mutual
theorem eq_of_alike : ∀ x y : PyData, PySem.W.alike x y = true → PyData.eqv x y = true → x = y
  | .none, y, h, _ => by
    cases y with
    | none => rfl
    | _ => exact absurd h (by simp [PySem.W.alike])
  | .bool a, y, h, e => by
    cases y with
    | bool b => simp [PyData.eqv] at e; rw [e]
    | _ => exact absurd h (by simp [PySem.W.alike])
  | .int a, y, h, e => by
    cases y with
    | int b => simp [PyData.eqv] at e; rw [e]
    | _ => exact absurd h (by simp [PySem.W.alike])
  | .str a, y, h, e => by
    cases y with
    | str b => simp [PyData.eqv] at e; rw [e]
    | _ => exact absurd h (by simp [PySem.W.alike])
  | .list xs, y, h, e => by
    cases y with
    | list ys => rw [eq_of_alikeAll xs ys (by simpa [PySem.W.alike] using h) (by simpa [PyData.eqv] using e)]
    | _ => exact absurd h (by simp [PySem.W.alike])
  | .tuple xs, y, h, e => by
    cases y with
    | tuple ys => rw [eq_of_alikeAll xs ys (by simpa [PySem.W.alike] using h) (by simpa [PyData.eqv] using e)]
    | _ => exact absurd h (by simp [PySem.W.alike])
  | .dict _, y, h, _ => absurd h (by cases y <;> simp [PySem.W.alike])
theorem eq_of_alikeAll : ∀ xs ys : List PyData, PySem.W.alikeAll xs ys = true → PyData.eqvAll xs ys = true → xs = ys
  | [], [], _, _ => rfl
  | [], _ :: _, _, e => absurd e (by simp [PyData.eqvAll])
  | _ :: _, [], _, e => absurd e (by simp [PyData.eqvAll])
  | x :: xs, y :: ys, h, e => by
    obtain ⟨h1, h2⟩ := PySem.W.alike_all_cons h
    rw [PySem.W.eqv_all_cons, Bool.and_eq_true] at e
    rw [eq_of_alike x y h1 e.1, eq_of_alikeAll xs ys h2 e.2]
end
theorem toks_inj {x y : PyData} (h : PySem.W.alike x y = true) (e : PySem.W.keyToks x = PySem.W.keyToks y) : x = y := by
  cases q : PyData.eqv x y with
  | true => exact eq_of_alike x y h q
  | false =>
    have t := (PySem.W.toks_eqv x y h).2 q [] [.inl 0]
    rw [e, lex_irrefl] at t
    have t2 : PyProof.Rows.lexLt itemOrd (PySem.W.keyToks y ++ []) (PySem.W.keyToks y ++ [.inl 0]) = true := by rw [PySem.W.lex_pre]; rfl
    rw [t2] at t
    cases t

/-! ### sorting -/
abbrev leD : PyData → PyData → Bool := PySem.W.dataLe false (fun d : PyData => d)
theorem leD_eq (x y : PyData) : leD x y = !PySem.W.dataLt y x := rfl
theorem leD_total : PySem.W.TotalLe leD := PySem.W.sortLe_total _ _ _
theorem insR_perm (x : PyData) : ∀ l : List PyData, (sortD.insR x l).Perm (x :: l)
  | [] => List.Perm.refl _
  | y :: ys => by
    rw [sortD.insR]
    split
    · exact ((insR_perm x ys).cons y).trans (List.Perm.swap x y ys)
    · exact List.Perm.refl _
theorem sortD_perm : ∀ l : List PyData, (sortD l).Perm l
  | [] => List.Perm.refl _
  | x :: xs => (insR_perm x (sortD xs)).trans ((sortD_perm xs).cons x)
theorem lt_le {x y : PyData} (h : PySem.W.dataLt x y = true) : leD x y = true := by
  rw [leD_eq]
  cases e : PySem.W.dataLt y x with
  | false => rfl
  | true =>
    have := lex_trans (O := itemOrd) _ _ _ h e
    rw [lex_irrefl] at this
    cases this
theorem insR_sorted (x : PyData) : ∀ l : List PyData, (∀ y ∈ l, ltD y x = PySem.W.dataLt y x) → l.Pairwise (fun a b => leD a b = true) → (sortD.insR x l).Pairwise (fun a b => leD a b = true)
  | [], _, _ => List.pairwise_singleton _ _
  | y :: ys, hl, hp => by
    obtain ⟨h1, h2⟩ := List.pairwise_cons.mp hp
    rw [sortD.insR]
    cases e : ltD y x with
    | true =>
      rw [if_pos rfl]
      refine List.pairwise_cons.mpr ⟨fun z hz => ?_, insR_sorted x ys (fun z hz => hl z (List.mem_cons_of_mem _ hz)) h2⟩
      rcases List.mem_cons.mp ((insR_perm x ys).mem_iff.mp hz) with rfl | hz
      · exact lt_le (by rw [← hl y List.mem_cons_self]; exact e)
      · exact h1 z hz
    | false =>
      rw [if_neg Bool.false_ne_true]
      have hxy : leD x y = true := by rw [leD_eq, ← hl y List.mem_cons_self, e]; rfl
      refine List.pairwise_cons.mpr ⟨fun z hz => ?_, hp⟩
      rcases List.mem_cons.mp hz with rfl | hz
      · exact hxy
      · exact leD_total.trans _ _ _ hxy (h1 z hz)
theorem sortD_sorted : ∀ l : List PyData, (∀ a ∈ l, ∀ b ∈ l, PySem.W.alike a b = true) → (sortD l).Pairwise (fun a b => leD a b = true)
  | [], _ => List.Pairwise.nil
  | x :: xs, h => insR_sorted x _ (fun y hy => ltD_alike y x (h y (List.mem_cons_of_mem _ ((sortD_perm xs).mem_iff.mp hy)) x List.mem_cons_self)) (sortD_sorted xs fun a ha b hb => h a (List.mem_cons_of_mem _ ha) b (List.mem_cons_of_mem _ hb))
theorem sortD_merge {l : List PyData} (h : ∀ a ∈ l, ∀ b ∈ l, PySem.W.alike a b = true) : l.mergeSort leD = sortD l := by
  have p : (l.mergeSort leD).Perm (sortD l) := (List.mergeSort_perm l leD).trans (sortD_perm l).symm
  refine List.Perm.eq_of_pairwise (le := fun a b => leD a b = true) (fun a b ha hb h1 h2 => ?_) (List.pairwise_mergeSort leD_total.trans (fun a b => by rcases leD_total.total a b with q | q <;> simp [q]) l) (sortD_sorted l h) p
  have ma := (List.mergeSort_perm l leD).mem_iff.mp ha
  have mb := (sortD_perm l).mem_iff.mp hb
  rw [leD_eq, Bool.not_eq_true'] at h1 h2
  exact toks_inj (h a ma b mb) (lex_total (O := itemOrd) _ _ h2 h1)
theorem allAl_iff {xs : List PyData} (h : allAl xs = true) : ∀ a ∈ xs, ∀ b ∈ xs, PySem.W.alike a b = true := fun a ha b hb => by
  unfold allAl at h
  exact List.all_eq_true.mp (List.all_eq_true.mp h a ha) b hb
theorem sortable_ok {xs : List PyData} (h : sortable xs = true) : PySem.W.AllAlike xs ∧ PySem.W.Sortable xs := by
  unfold sortable at h
  rw [Bool.and_eq_true, Bool.or_eq_true] at h
  refine ⟨allAl_iff h.1, ?_⟩
  rcases h.2 with q | q
  · refine .inl fun d hd => ?_
    have := List.all_eq_true.mp q d hd
    cases d with
    | tuple ds =>
      cases ds with
      | nil => cases this
      | cons x r => exact ⟨x, r, rfl⟩
    | _ => cases this
  · refine .inr fun d hd => ?_
    have := List.all_eq_true.mp q d hd
    exact ⟨fun e => (by subst e; cases this), fun ys e => (by subst e; cases this)⟩

/-! ### < and > -/
section
variable {X : Cx} {W : Wsh} {hp : Bool}
theorem notNone_ne {d : PyData} (h : notNone d = true) : d ≠ .none := fun e => by subst e; cases h
theorem o_lt (hu : X.A.units + 64 < cLine) : OpR X (compareOp .Lt) (rO X.K W hp (b2 .lt)) := by
  intro pins s σ H x y v u Q I rx ry h
  obtain ⟨o, S, tx, ty, R, r1, r2, p⟩ := h
  unfold b2 ord2 at p
  simp only at p
  cases e : cmp2 S tx ty with
  | none => rw [e] at p; exact (no_fin p).elim
  | some w =>
    obtain ⟨d, e'⟩ := w
    rw [e] at p
    simp only at p
    split at p
    · rename_i hc
      rw [Bool.and_eq_true] at hc
      obtain ⟨⟨as, h1⟩, ⟨bs, h2⟩, c1, c2, hd⟩ := cmp2_reads I R rx ry r1 r2 e
      refine PySem.W.rcLt_alike d e' X.A s v u as bs h1 h2 hc.1 (notNone_ne hc.2) (by omega) X.prog X.w _ _ ?_
      rw [← ltD_alike d e' hc.1]
      exact ⟨.bl _, H, I, rfl, fin_v p R rB⟩
    · exact (no_fin p).elim
theorem o_gt (hu : X.A.units + 64 < cLine) : OpR X (compareOp .Gt) (rO X.K W hp (b2 .gt)) := by
  intro pins s σ H x y v u Q I rx ry h
  obtain ⟨o, S, tx, ty, R, r1, r2, p⟩ := h
  unfold b2 ord2 at p
  simp only at p
  cases e : cmp2 S tx ty with
  | none => rw [e] at p; exact (no_fin p).elim
  | some w =>
    obtain ⟨d, e'⟩ := w
    rw [e] at p
    simp only at p
    split at p
    · rename_i hc
      rw [Bool.and_eq_true] at hc
      obtain ⟨⟨as, h1⟩, ⟨bs, h2⟩, c1, c2, hd⟩ := cmp2_reads I R rx ry r1 r2 e
      refine PySem.W.rcGt_alike d e' X.A s v u as bs h1 h2 hc.1 (notNone_ne hc.2) (by omega) X.prog X.w _ _ ?_
      rw [← ltD_alike e' d (by rw [PySem.W.alike_comm]; exact hc.1)]
      exact ⟨.bl _, H, I, rfl, fin_v p R rB⟩
    · exact (no_fin p).elim
end

/-! ### sorted -/
section
variable {prog : Program} {w : World} {A : Around} {E : Value → Shared → Prop} {s : Shared}
theorem collect_tuple {l : Addr} {vs : List Value} {Q : List Value → Shared → Prop} (hl : s.heap.IsTuple l vs.toArray)
    (h : Q vs { s with heap := (s.heap.push (seqObj "list" #[] 0)).update s.heap.objs.size (Obj.mapSeq (· ++ vs.toArray)) }) (hsz : vs.length ≤ sizeLine) :
    wpAny (model prog w) A (collect (.ref l)) Q E s := by
  obtain ⟨o, ho, hc, n, hd⟩ := id hl
  unfold collect
  refine wpAny_bind (wpAny_runValue (codeAny_builtin entry_proto_collect' ?_))
  show wpAny _ _ (do again (.builtin "list.__iadd__" ⟨[← newList [], .ref l], []⟩)) _ _ s
  refine wpAny_bind (wpAny_newList (wpAny_pure ⟨Code.quiet_builtin _ (by decide +kernel), codeAny_builtin entry_list_iadd' ?_⟩))
  show wpAny _ _ (Builtin.List.listExtendWith (.ref s.heap.objs.size) (.ref l) (.ref s.heap.objs.size)) _ _ { s with heap := s.heap.push (seqObj "list" #[] 0) }
  unfold Builtin.List.listExtendWith
  have ho' : (s.heap.push (seqObj "list" #[] 0)).get? l = some o := Heap.get?_push_of_some _ ho
  refine wpAny_bind (wpAny_typeOf (T := "tuple") ⟨o, ho', hc⟩ ?_)
  have ht : (Value.type "tuple" == Value.type "tuple") = true := by rfl
  rw [if_pos (by rw [ht]; simp)]
  refine wpAny_bind (listItems_at ho' hd ?_)
  refine wpAny_bind (listItems_at (xs := #[]) (n := 0) (Heap.get?_push_size _ rfl) rfl ?_)
  rw [if_neg (by simp)]
  refine wpAny_bind (listUpdate_at (xs := #[]) (n := 0) (Heap.get?_push_size _ rfl) rfl ?_ (Nat.zero_le _) (by show (#[] ++ vs.toArray).size ≤ sizeLine + 1; simp only [Array.size_append, List.size_toArray, List.length_nil]; omega))
  refine wpAny_pure ?_
  show wpAny (model prog w) A (do
      let o ← load s.heap.objs.size
      match o.data with
      | .seq xs _ => pure xs.toList
      | _ => unsupported "internal:collect") Q E { s with heap := (s.heap.push (seqObj "list" #[] 0)).update s.heap.objs.size (Obj.mapSeq (· ++ vs.toArray)) }
  refine wpAny_bind (wpAny_load (get?_update_seq (Heap.get?_push_size _ rfl) _) ?_)
  show wpAny _ _ (pure ((#[] : Array Value) ++ vs.toArray).toList) Q E _
  rw [show ((#[] : Array Value) ++ vs.toArray).toList = vs by simp]
  exact wpAny_pure h
theorem sorted_of_tuple {l : Addr} {vs : List Value} {Q : Value → Shared → Prop} (hl : s.heap.IsTuple l vs.toArray) (hL : vs.length ≤ sizeLine)
    (body : ∀ E' : Value → Shared → Prop, wpAny (model prog w) A.in1.in1 (Builtin.«list.sort» ⟨[.ref (s.heap.objs.size + 1)], []⟩) (fun f s' => f = .done (.ret .none) ∧ Q (.ref (s.heap.objs.size + 1)) s') E' { s with heap := PySem.W.copyHeap s.heap vs }) :
    wpAny (model prog w) A (call (.builtin "sorted") [.ref l] []) Q E s := by
  refine PySem.Calls.call_function_entry kind_sorted plain_sorted entry_sorted (args_sorted1 _) ?_
  unfold Builtin.«sorted»
  refine wpAny_bind (m := checkCount "sorted" 1 1 _) (wpAny_pure ?_)
  refine wpAny_bind (collect_tuple hl ?_ hL)
  refine wpAny_bind (wpAny_newList ?_ hL)
  have hsz : ((s.heap.push (seqObj "list" #[] 0)).update s.heap.objs.size (Obj.mapSeq (· ++ vs.toArray))).objs.size = s.heap.objs.size + 1 := by
    rw [Heap.size_update, size_push']
  show wpAny _ _ _ _ _ { s with heap := PySem.W.copyHeap s.heap vs }
  rw [hsz]
  refine wpAny_bind (wpAny_holding (wpAny_call_entry slot_list_sort ⟨_, PySem.W.copyHeap_at s.heap vs, rfl⟩ entry_list_sort ?body (args_list_sort _)))
  case body =>
    show wpAny (model prog w) A.in1.in1 (Builtin.«list.sort» ⟨[.ref (s.heap.objs.size + 1)], []⟩) _ _ _
    refine wpAny_mono (body _) (fun f s' hf => ?_) fun _ _ e => e
    obtain ⟨rfl, hq⟩ := hf
    exact ⟨_, rfl, wpAny_pure ⟨_, rfl, hq⟩⟩
open PySem.W in
theorem sorted_data2 {β : Type} {vs : List Value} {bs : List β} {enc : β → PyData} {R : Value → β → Prop} {l : Addr} {Q : Value → Shared → Prop} (hl : s.heap.IsList l vs.toArray ∨ s.heap.IsTuple l vs.toArray) (e : EachIs R vs bs) (er : EachIs (fun v b => ∃ as, Reads s.heap v (enc b) as) vs bs) (hal : AllAlike (bs.map enc)) (hk : Sortable (bs.map enc)) (hL : bs.length ≤ sizeLine)
    (hu : ∀ b, b ∈ bs → A.units + 2 + (enc b).depth < cLine) (h : ∀ out, out.length = bs.length → EachIs R out (bs.mergeSort (dataLe false enc)) → Q (.ref (s.heap.objs.size + 1)) { s with heap := sortedAll s.heap vs (List.toArray out) }) :
    wpAny (model prog w) A (call (.builtin "sorted") [.ref l]) Q E s := by
  rcases hl with hl | hl
  · exact sorted_data hl e er hal hk hL hu h
  · have er' : EachIs (fun v b => ∃ as, Reads (sortingHeap (copyHeap s.heap vs) (s.heap.objs.size + 1) vs) v (enc b) as) vs bs := er.mono fun _ _ ⟨as, r⟩ => ⟨as, PyProof.Rows.Reads.keeps (fun _ _ => sorting_copy_old) r⟩
    have hLv : vs.length ≤ sizeLine := by rw [e.length]; exact hL
    have S : SortsAt prog w A.in1.in1 { s with heap := sortingHeap (copyHeap s.heap vs) (s.heap.objs.size + 1) vs } (dataKind (sortingHeap (copyHeap s.heap vs) (s.heap.objs.size + 1) vs) (bs.map enc)) vs :=
      SortsAt.data (s := { s with heap := sortingHeap (copyHeap s.heap vs) (s.heap.objs.size + 1) vs }) (each_map (R := fun v d => ∃ as, Reads (sortingHeap (copyHeap s.heap vs) (s.heap.objs.size + 1) vs) v d as) enc er') hal hk (bound_map hu)
    refine sorted_of_tuple hl hLv fun E' => ?_
    exact list_sort_vals (s := { s with heap := copyHeap s.heap vs }) (copyHeap_at s.heap vs) S hLv ⟨rfl, h _ (by rw [sortVals_length false rfl]; exact e.length) (sortVals_data false e er' hal)⟩
end
theorem depth_mem : ∀ {ds : List PyData} {d : PyData}, d ∈ ds → d.depth ≤ PyData.depthAll ds
  | x :: xs, d, h => by
    rw [PyData.depthAll]
    rcases List.mem_cons.mp h with rfl | h
    · omega
    · have := depth_mem h; omega
/-- a value that stands for a tree, kept -/
def IsD (K : PySem.W.Frag) (FH : Hp) (u : Value) (d : PyData) : Prop := ∃ x : V, RelV x u ∧ Dq K FH x d ∧ d.canLay0 = true
theorem each_isD {K : PySem.W.Frag} {FH : Hp} : ∀ {vs : List V} {us : List Value} {ds : List PyData}, Vals vs us → DqAll K FH vs ds → PyData.canLayAll0 ds = true → PySem.W.EachIs (IsD K FH) us ds
  | _, _, _, .nil, .nil, _ => .nil
  | _, _, _, .cons r rs, .cons d dds, h => by
    simp only [PyData.canLayAll0, Bool.and_eq_true] at h
    exact .cons ⟨_, r, d, h.1⟩ (each_isD rs dds h.2)
theorem isD_each {K : PySem.W.Frag} {o : Wd} : ∀ {us : List Value} {ds : List PyData}, PySem.W.EachIs (IsD K o.FH) us ds → ∃ vs : List V, Vals vs us ∧ Reps K o (ds.map .d) vs
  | _, _, .nil => ⟨[], .nil, .nil⟩
  | _, _, .cons ⟨x, r, d, c⟩ t => by
    obtain ⟨vs, h1, h2⟩ := isD_each t
    exact ⟨x :: vs, .cons r h1, .cons (.d d c) h2⟩
section
variable {X : Cx} {W : Wsh} {hp : Bool}
theorem c_sorted (hu : X.A.units + 64 < cLine) : CallR X (.builtin "sorted") (rC1 X.K W hp (u1 .sorted)) := by
  intro pins s σ H xs us Q I r h
  obtain ⟨o, S, ts, t, R, rr, rfl, p⟩ := h
  obtain ⟨v, rfl, rt⟩ := reps1 rr
  unfold u1 at p
  simp only at p
  split at p
  · rename_i us2 e
    split at p
    · rename_i ds e2
      split at p
      · rename_i hc
        rw [Bool.and_eq_true, decide_eq_true_eq] at hc
        obtain ⟨hs, hd⟩ := hc
        obtain ⟨hal, hk⟩ := sortable_ok hs
        obtain ⟨l, vs, rfl, h1, hz, q1⟩ := rep_seqOf R rt e
        obtain ⟨dq, cl⟩ := q1.dqAll e2
        rw [Vals.ref1 r]
        have dep : ∀ d ∈ ds, d.depth ≤ 60 := fun d hm => by
          have := depth_mem hm
          simp only [PyData.depth] at hd
          omega
        have main : ∀ (its : List Value), Vals vs its → (s.heap.IsList l its.toArray ∨ s.heap.IsTuple l its.toArray) → wpAny (model X.prog X.w) X.A (call (.builtin "sorted") [.ref l]) (EP X pins σ Q) X.xe s := by
          intro its rv hl
          have e1 : PySem.W.EachIs (IsD X.K o.FH) its ds := each_isD rv dq cl
          have e3 : PySem.W.EachIs (fun v (b : PyData) => ∃ as, Reads s.heap v b as) its ds := e1.mono fun u d ⟨x, r, dx, _⟩ => Dp.reads I d x u (dq_mono R.sub dx).dp r
          have hlen : ds.length ≤ sizeLine := by rw [← e1.length, ← rv.length]; exact hz
          refine sorted_data2 (enc := fun d : PyData => d) hl e1 e3 (by rw [List.map_id']; exact hal) (by rw [List.map_id']; exact hk) hlen (fun d hm => by have := dep d hm; show X.A.units + 2 + d.depth < cLine; omega) fun out ho eo => ?_
          rw [show ds.mergeSort (PySem.W.dataLe false fun d : PyData => d) = sortD ds from sortD_merge hal] at eo
          obtain ⟨ys, hv, hr⟩ := isD_each (o := o) eo
          have hlen : ys.length ≤ sizeLine := by rw [hv.length, ho]; exact hlen
          obtain ⟨ep, he'⟩ := PyProof.Rows.sortedAll_at s.heap its out.toArray
          exact ⟨.ref _, upd H (s.heap.objs.size + 1) (.lst ys), I.laid (t' := s.toks) (fun _ _ => PyProof.Rows.sortedAll_old) (Nat.le_succ _) ⟨hlen, out, ep, hv, he'⟩, rfl, fin_l p R hr hlen _ (I.hok.fresh (Nat.le_succ _))⟩
        rcases h1 with h1 | h1
        · obtain ⟨its, rv, pl, _⟩ := I.list h1
          exact main its rv (.inl pl.isList)
        · obtain ⟨its, rv, pl, _⟩ := I.tuple h1
          obtain ⟨oo, ho, hc, n, hd⟩ := pl
          exact main its rv (.inr ⟨oo, ho, hc, n, hd⟩)
      · exact (no_fin p).elim
    · exact (no_fin p).elim
  · exact (no_fin p).elim
end
end Mc
end

section
set_option Elab.async false
set_option linter.all false
set_option maxRecDepth 100000
set_option maxHeartbeats 4000000
set_option autoImplicit false
/-! McT: len(set(..)), repr -/
namespace Mc
open PySem PySem.Spec PyProof.Rows L2
theorem range_getD (ns : List Int) : (List.range ns.length).map (fun i => ns.getD i 0) = ns := by
  apply List.ext_getElem
  · simp
  · intro i h1 h2
    simp [List.getD, h2]
section
variable {X : Cx} {W : Wsh} {hp : Bool} {cf : Nat → List T → Store → R T} {a : Expr} {xa : Ex} {p p2 q pos : Pos}
theorem m_lenset (hg : Gl X "len") (hm : X.mg "len" = none) (hg2 : Gl X "set") (hm2 : X.mg "set" = none) (ha : PE X a (mt X.K W (ev cf xa))) (hc : X.calm = true) (hs : nst a = true) :
    PE X (.Call (.Name "len" p) [.Call (.Name "set" p2) [a] [] q] [] pos) (mt X.K W (ev cf (.u hp .lenset xa))) := by
  have na : starEach [a] X.env = (false, eval a X.env) :: starEach [] X.env := star_cons hs
  refine ⟨fun pins s σ H Q I h => ?_⟩
  refine Call_ (ld_blt I hg hm boot_len ?_)
  refine PyProof.Rows.callWith_builtin1 (PyProof.Rows.args_cons ?_ rfl) rfl rfl
  refine Call_ (ld_blt I hg2 hm2 boot_set ?_)
  have h : mt X.K W (ev cf (.u hp .lenset xa)) σ H Q := h
  rw [ev_u] at h
  obtain ⟨o, sg, S, rs, R, pp⟩ := h
  have h2 : mt X.K W (ev cf xa) σ H (fun v H1 => ∃ (o1 : Wd) (t : T) (S1 : Store), Ext o H o1 H1 ∧ HRel X.K o1 S1 H1 ∧ Rep X.K o1 t v ∧ Post X.K W (Rep X.K) o1 H1 (fin hp S1 (u1 .lenset S1 t)) Q) := ⟨o, sg, S, rs, R, Post.bnd (rel := Rep X.K) pp⟩
  refine PyProof.Rows.callWith_type1 (PyProof.Rows.args_cons (thn (ha.run pins s σ H _ I h2) fun v s1 ⟨x, H1, I1, r1, q1⟩ => PyProof.Rows.args_nil ?_) na) na rfl
  obtain ⟨o1, t, S1, _, R1, rt, q1⟩ := q1
  unfold u1 at q1
  simp only at q1
  split at q1
  · rename_i ts e
    split at q1
    · rename_i ns e2
      split at q1
      · rename_i hl
        obtain ⟨l, vs, rfl, hrd, hz, rr⟩ := rep_lstOf R1 rt e
        have ev := ints_rep rr e2
        subst ev
        cases r1
        obtain ⟨its, r, pl, hz⟩ := I1.list hrd
        have hlen : its.toArray.size = ns.length := by rw [List.size_toArray, ← r.length, List.length_map]
        refine call_set_list (I1.ok.hd hc) pl.isList (by simpa using r.ints) (by rw [hlen]; unfold scanBound; omega) fun h' tk hS hk => ?_
        refine PyProof.Rows.args_nil ?_
        have eD : PyProof.Rows.firstMet (fun i => ns.getD i 0) ns.length = dedupI ns := by
          unfold PyProof.Rows.firstMet dedupI
          rw [range_getD]
        rw [hlen, eD] at hS
        have hle : (dedupI ns).length ≤ ns.length := by rw [← eD]; exact PyProof.Rows.firstMet_length_le _ _
        obtain ⟨oo, es, ep, t', ho, hex, hd, _, _, _, hf, hn⟩ := hS
        have I2 : Inv X pins σ H1 { s1 with heap := h', toks := tk } := I1.kept fun b o e => hk b o (Heap.lt_size e) e
        exact call_len_set ho hex hd hf (by rw [hn] <;> omega) ⟨.int (dedupI ns).length, H1, I2.tok _, ⟨_, by rw [hn]⟩, fin_v q1 R1 rI⟩
      · exact (no_fin q1).elim
    · exact (no_fin q1).elim
  · exact (no_fin q1).elim
theorem c_repr (hG : X.A.guards = some []) (hu : X.A.units + 64 < cLine) : CallR X (.builtin "repr") (rC1 X.K W hp (u1 .repr)) := by
  intro pins s σ H xs us Q I r h
  obtain ⟨o, S, ts, t, R, rr, rfl, pp⟩ := h
  obtain ⟨v, rfl, rt⟩ := reps1 rr
  unfold u1 at pp
  simp only at pp
  split at pp
  · rename_i d e
    split at pp
    · rename_i hc
      rw [Bool.and_eq_true, Bool.and_eq_true, Bool.and_eq_true, Bool.and_eq_true, decide_eq_true_eq, decide_eq_true_eq, Bool.not_eq_true'] at hc
      obtain ⟨⟨⟨⟨hs, hdd⟩, hd⟩, hl⟩, hcl⟩ := hc
      obtain ⟨dp, cl⟩ := rep_snap R _ _ _ _ rt e
      obtain ⟨u, rfl, ru⟩ := vals1 r
      have hline : d.shown.length ≤ sizeLine := Nat.le_trans hl line_size
      obtain ⟨as, rd⟩ := Dp.reads I d v u dp ru
      cases rd with
      | none => exact PySem.P.repr_of_none ⟨.str _, H, I.tok _, ⟨_, rfl⟩, fin_v pp R (rS hcl)⟩
      | bool b => exact PySem.P.repr_of_bool ⟨.str _, H, I.tok _, ⟨_, rfl⟩, fin_v pp R (rS hcl)⟩
      | int i tt => exact PySem.P.repr_of_int (by simpa [PyData.showable] using hs) ⟨.str _, H, I.tok _, ⟨_, rfl⟩, fin_v pp R (rS hcl)⟩
      | str x tt => exact PySem.P.repr_of_str ⟨.str _, H, I.tok _, ⟨_, rfl⟩, fin_v pp R (rS hcl)⟩ hline
      | list h1 h2 h3 h4 =>
        refine repr_of_reads' (.list h1 h2 h3 h4) hs (fun x => by rw [hdd] at x; cases x) hG (by omega) (fun b o e => e) (fun h' u tk hk => ?_) hline
        exact ⟨.str _, H, I.kept (h' := h') (t' := tk) (fun b o e => hk b o e), ⟨_, rfl⟩, fin_v pp R (rS hcl)⟩
      | tuple h1 h2 h3 h4 =>
        refine repr_of_reads' (.tuple h1 h2 h3 h4) hs (fun x => by rw [hdd] at x; cases x) hG (by omega) (fun b o e => e) (fun h' u tk hk => ?_) hline
        exact ⟨.str _, H, I.kept (h' := h') (t' := tk) (fun b o e => hk b o e), ⟨_, rfl⟩, fin_v pp R (rS hcl)⟩
      | dict h1 h2 h3 h4 h5 => cases cl
    · exact (no_fin pp).elim
  · exact (no_fin pp).elim
end
end Mc
end

section
set_option Elab.async false
set_option linter.all false
set_option maxRecDepth 100000
set_option maxHeartbeats 4000000
set_option autoImplicit false
/-! McP: short forms for printed walks -/
namespace Mc
open PySem PySem.Spec PyProof.Rows L2
structure Cxt (X : Cx) : Prop where
  calm : X.calm = true
  hu : X.A.units + 100 < cLine
  hG : X.A.guards = some []
  nd : X.N.Nodup
section
variable {X : Cx} {cf : Nat → List T → Store → R T} {hp : Bool} {pos apos cpos : Pos} {a b e : Expr} {xa xb : Ex} {x : Str} {W : Wsh}
theorem Cxt.blk {sc : Scope} {env : Env} {fp : List Addr} {s : Shared} {H : Hp} (c : Cxt X) : Cxt (X.blk s H sc env fp) := ⟨c.calm, c.hu, c.hG, c.nd⟩
theorem Cxt.u64 (c : Cxt X) : X.A.units + 64 < cLine := by have := c.hu; omega
theorem Cxt.u65 (c : Cxt X) : X.A.units + 65 < cLine := by have := c.hu; omega
/-- a name of the body -/
theorem vr (i : Nat) (hN : X.N[i]? = some x := by rfl) (hv : Vis X.env.scope x := by first | exact Or.inl rfl | exact Or.inr (Or.inl rfl) | exact Or.inr (Or.inr rfl)) (hd : (x == ("__debug__" : Str)) = false := by decide)
    (hcd : (x == ("__classdict__" : Str)) = false := by decide) : PE X (.Name x pos) (mt X.K W (ev cf (.var i))) := m_var hN hv hd hcd
/-- a target name -/
theorem nm (c : Cxt X) (i : Nat) (hi : X.N[i]? = some x := by rfl) (hx : Loc X.env.scope x := by first | exact Or.inl rfl | exact Or.inr rfl) (hf : X.fn x = true ∨ X.env.scope.names.lookup x = some .local := by first | exact Or.inl rfl | exact Or.inr rfl) :
    PG X (.Name x pos) (mg X.K W (slots (.nm i)) (evG cf (.nm i))) := m_nm c.nd hi hx hf
/-- a whole number of the module -/
theorem gi {i : Int} (hm : ∃ t, X.mg x = some (.int i t)) (hg : Gl X x := by rfl) (hd : (x == ("__debug__" : Str)) = false := by decide) : PE X (.Name x pos) (mt X.K W (ev cf (.lit (.int i)))) := by
  obtain ⟨t, e⟩ := hm
  exact m_glob hg e ⟨by simp [PyData.canLay0], .int i, ⟨t, rfl⟩, .int i⟩ hd
theorem gs {z : Str} (hz : PyData.canLay0 (.str z) = true) (hm : ∃ t, X.mg x = some (.str z t)) (hg : Gl X x := by rfl) (hd : (x == ("__debug__" : Str)) = false := by decide) : PE X (.Name x pos) (mt X.K W (ev cf (.lit (.str z)))) := by
  obtain ⟨t, e⟩ := hm
  exact m_glob hg e ⟨hz, .str z, ⟨t, rfl⟩, .str z⟩ hd
theorem isN_read {σ : L2.St} {H : Hp} {Q : VK} (h : mt X.K W (ev cf (.u hp (.isN false) xa)) σ H Q) : tIsN (mt X.K W (ev cf xa)) σ H Q := by
  rw [ev_u] at h
  refine mt_two' (k := fun _ t S1 => fin hp S1 (u1 (.isN false) S1 t)) h fun o1 sg t S1 v H1 rs R r p => ?_
  have e : u1 (.isN false) S1 t = some (.v (tB (decide (v = .non)))) := by
    simp only [u1, isN_rep R r, Bool.false_xor]
  rw [e] at p
  exact fin_v p R rB
theorem notN_read {σ : L2.St} {H : Hp} {Q : VK} (h : mt X.K W (ev cf (.u hp (.isN true) xa)) σ H Q) : tNotN (mt X.K W (ev cf xa)) σ H Q := by
  rw [ev_u] at h
  refine mt_two' (k := fun _ t S1 => fin hp S1 (u1 (.isN true) S1 t)) h fun o1 sg t S1 v H1 rs R r p => ?_
  have e : u1 (.isN true) S1 t = some (.v (tB (!decide (v = .non)))) := by
    simp only [u1, isN_rep R r, Bool.true_xor]
  rw [e] at p
  exact fin_v p R rB
theorem m_tisN {j : Nat} {pos' : Pos} (ha : PE X a (mt X.K W (ev cf xa))) : PT X (.Compare a [.Is] [.Constant .none j pos'] pos) (mtT X.K W (evT cf (.val (.u hp (.isN false) xa)))) :=
  pt_of_pe (fun _ _ _ _ h => isN_truth h) (pt_cmp (pc_isN ha)) fun _ _ _ h => isN_read h
theorem m_tnotN {j : Nat} {pos' : Pos} (ha : PE X a (mt X.K W (ev cf xa))) : PT X (.Compare a [.IsNot] [.Constant .none j pos'] pos) (mtT X.K W (evT cf (.val (.u hp (.isN true) xa)))) :=
  pt_of_pe (fun _ _ _ _ h => isN_truth h) (pt_cmp (pc_notN ha)) fun _ _ _ h => notN_read h
/-- a plain value as a test -/
theorem tv (ha : PE X a (mt X.K W (ev cf xa))) (he : ∀ whole, isTrue a X.env whole = (do let v ← whole; standAt a.pos; holding [v] (truthy v)) := by intro _; rfl) : PT X a (mtT X.K W (evT cf (.val xa))) := m_tval ha he
/-! methods of lists -/
theorem m_app (ha : PE X a (mt X.K W (ev cf xa))) (hb : PE X b (mt X.K W (ev cf xb))) (hs : plainBase a = true := by rfl) (hs2 : nst b = true := by rfl) (hl : (apos.endLine == cpos.line) = true := by rfl) :
    PE X (.Call (.Attribute a "append" apos) [b] [] cpos) (mt X.K W (ev cf (.app xa xb))) := m_bm PySem.F.slot_list_append rfl (by funext sg S; rw [ev]) t_app ha hb hs hs2 hl
theorem m_ext (ha : PE X a (mt X.K W (ev cf xa))) (hb : PE X b (mt X.K W (ev cf xb))) (hs : plainBase a = true := by rfl) (hs2 : nst b = true := by rfl) (hl : (apos.endLine == cpos.line) = true := by rfl) :
    PE X (.Call (.Attribute a "extend" apos) [b] [] cpos) (mt X.K W (ev cf (.ext xa xb))) := m_bm PySem.F.slot_list_extend rfl (by funext sg S; rw [ev]) t_ext ha hb hs hs2 hl
theorem m_pop (ha : PE X a (mt X.K W (ev cf xa))) (hs : plainBase a = true := by rfl) (hl : (apos.endLine == cpos.line) = true := by rfl) :
    PE X (.Call (.Attribute a "pop" apos) [] [] cpos) (mt X.K W (ev cf (.pop xa))) := m_bm0 PySem.F.slot_list_pop rfl (by funext sg S; rw [ev]) t_pop ha hs hl
theorem m_popAt (ha : PE X a (mt X.K W (ev cf xa))) (hb : PE X b (mt X.K W (ev cf xb))) (hs : plainBase a = true := by rfl) (hs2 : nst b = true := by rfl) (hl : (apos.endLine == cpos.line) = true := by rfl) :
    PE X (.Call (.Attribute a "pop" apos) [b] [] cpos) (mt X.K W (ev cf (.popAt xa xb))) := m_bm PySem.F.slot_list_pop rfl (by funext sg S; rw [ev]) t_popAt ha hb hs hs2 hl
theorem m_index (c : Cxt X) (ha : PE X a (mt X.K W (ev cf xa))) (hb : PE X b (mt X.K W (ev cf xb))) (hs : plainBase a = true := by rfl) (hs2 : nst b = true := by rfl) (hl : (apos.endLine == cpos.line) = true := by rfl) :
    PE X (.Call (.Attribute a "index" apos) [b] [] cpos) (mt X.K W (ev cf (.index xa xb))) := m_bm PySem.F.slot_list_index rfl (by funext sg S; rw [ev]) (t_index c.u65) ha hb hs hs2 hl
/-! built-ins -/
theorem B1 {id : String} {q : U1} {p : Pos} (hc : CallR X (.builtin id) (rC1 X.K W hp (u1 q))) (hm : X.mg x = none) (ha : PE X a (mt X.K W (ev cf xa))) (hv : bootBuiltins x = some (.builtin id)) (hg : Gl X x := by rfl) (hs : nst a = true := by rfl) (hn : x ≠ "__name__" := by decide) (hdb : (x == ("__debug__" : Str)) = false := by decide) :
    PE X (.Call (.Name x p) [a] [] pos) (mt X.K W (ev cf (.u hp q xa))) := m_cB1 hc hg hm hv ha hs hn hdb
theorem T1 {id : String} {q : U1} {p : Pos} (hc : CallR X (.type id) (rC1 X.K W hp (u1 q))) (hm : X.mg x = none) (ha : PE X a (mt X.K W (ev cf xa))) (hv : bootBuiltins x = some (.type id)) (hg : Gl X x := by rfl) (hs : nst a = true := by rfl) (hn : x ≠ "__name__" := by decide) (hdb : (x == ("__debug__" : Str)) = false := by decide) :
    PE X (.Call (.Name x p) [a] [] pos) (mt X.K W (ev cf (.u hp q xa))) := m_cT1 hc hg hm hv ha hs hn hdb
theorem B2' {id : String} {q : B2} {p : Pos} (hc : CallR X (.builtin id) (rC2 X.K W hp (b2 q))) (hm : X.mg x = none) (ha : PE X a (mt X.K W (ev cf xa))) (hb : PE X b (mt X.K W (ev cf xb))) (hv : bootBuiltins x = some (.builtin id)) (hg : Gl X x := by rfl) (hs : nst a = true := by rfl) (hs2 : nst b = true := by rfl) (hn : x ≠ "__name__" := by decide) (hdb : (x == ("__debug__" : Str)) = false := by decide) :
    PE X (.Call (.Name x p) [a, b] [] pos) (mt X.K W (ev cf (.b hp q xa xb))) := m_cB2 hc hg hm hv ha hb hs hs2 hn hdb
/-! arguments -/
theorem ac {es : List Expr} {xs : Exs} (ha : PE X e (mt X.K W (ev cf xa))) (hes : PA X es (mts X.K W (evs cf xs))) (hs : nst e = true := by rfl) : PA X (e :: es) (mts X.K W (evs cf (.cons xa xs))) := m_cons ha hes (star_cons hs)
/-! calls -/
theorem cl {md f n : Nat} {p : Pos} {es : List Expr} {xs : Exs} {fd : FuncData} {ps : List Str} (C : Callee X cf x f n fd ps) (hb : Binds X.K fd ps []) (ha : PA X (e :: es) (mts X.K WF (evs cf xs))) (hg : Gl X x := by rfl) (hl : xs.len = n := by rfl)
    (hdb : (x == ("__debug__" : Str)) = false := by decide) (he : starEach (e :: es) X.env = (false, eval e X.env) :: starEach es X.env := by rfl) (hpl : (backTo pos (starEach es X.env)).any (·.1) = false := by rfl) :
    PE X (.Call (.Name x p) (e :: es) [] pos) (mt X.K WF (ev cf (.call md f xs))) := m_call C hb hg hl ha hdb he hpl
theorem cl0 {md f : Nat} {p : Pos} {fd : FuncData} {ps : List Str} (C : Callee X cf x f 0 fd ps) (hb : Binds X.K fd ps []) (hg : Gl X x := by rfl) (hdb : (x == ("__debug__" : Str)) = false := by decide) :
    PE X (.Call (.Name x p) [] [] pos) (mt X.K WF (ev cf (.call md f .nil))) := m_call0 C hb hg hdb
theorem callee {k f n : Nat} {a : Addr} {fd : FuncData} {ps : List Str} (F : FnG X.prog X.w X.K X.mg X.base (L2.CX X.prog X.w) k a fd ps (spF X.K n (cf f))) (hr : Room k X.A) (hG : X.A.guards = some []) (hm : X.mg x = some (.ref a)) (hk : PySem.W.keepIn X.K (.ref a) = true) (np : ps.length = n) :
    Callee X cf x f n fd ps := ⟨⟨k, a, _, F, hr, hG, hm, hk, passL⟩, np⟩
end
/-! ### a def of the text -/
theorem start_rel {K : PySem.W.Frag} {o : Wd} {N : List Str} {n : Nat} {ts : List T} {vs : List V} (hN : N.length = n) (r : Reps K o ts vs) : SRel K o (start n ts) (L2.start N vs) := by
  have hl := r.length
  refine ⟨?_, fun i t h => ?_⟩
  · unfold start L2.start
    simp only [List.length_append, List.length_map, List.length_replicate]
    omega
  · unfold start at h
    unfold L2.start
    by_cases hi : i < ts.length
    · rw [List.getElem?_append_left (by simpa using hi), List.getElem?_map] at h
      cases e : ts[i]? with
      | none => rw [e] at h; cases h
      | some u =>
        rw [e] at h
        cases h
        obtain ⟨v, h1, h2⟩ := r.get e
        refine ⟨v, ?_, h2⟩
        rw [List.getElem?_append_left (by simp; omega), List.getElem?_map, h1]; rfl
    · rw [List.getElem?_append_right (by simpa using hi), List.getElem?_replicate] at h
      split at h <;> cases h
theorem run_read {K : PySem.W.Frag} {f : Fn} {cf : Nat → List T → Store → R T} {N : List Str} {vs : List V} {H : Hp} {Q : VK} {E : XK} (hN : N.length = f.names) (h : spF K f.pars (runF cf f) vs H Q E) :
    ms K WF (evB cf f.body) { nx := fun _ H' => Q .non H', rt := Q } (L2.start N vs) H := by
  obtain ⟨hl, o, S, ts, R, r, p⟩ := h
  have lt : ts.length = f.pars := by rw [r.length]; exact hl
  unfold runF at p
  rw [if_pos lt] at p
  refine ⟨o, start f.names ts, S, start_rel hN r, R, ?_⟩
  cases e : evB cf f.body (start f.names ts) S with
  | nx sg S1 => rw [e] at p; exact fun o1 σ1 H1 x1 rs1 R1 => p o1 .non H1 x1 R1 rN
  | rt t S1 => rw [e] at p; exact p
  | ex x S1 => rw [e] at p; exact p
  | bk sg S1 => rw [e] at p; exact p.elim
  | ct sg S1 => rw [e] at p; exact p.elim
  | no => rw [e] at p; exact p.elim
theorem room_u {k : Nat} {A : Around} (r : Room k A) : A.units + 100 < cLine := by have := r.un; omega
/-- the step: a def by its walk -/
theorem step {P : Program} {w : World} {K : PySem.W.Frag} {mg : Str → Option Value} {base : Heap} {k i : Nat} {tab : List Fn} {fn : Fn} {f : Addr} {x qual : Str} {params : Arguments} {body : List Stmt} {scope : Scope} {fd : FuncData} {N ps : List Str}
    (FD : FunD K x qual params body scope [] [] f fd) (S : FnScope N ps scope) (ht : tab[i]? = some fn) (hN : N.length = fn.names) (hp : ps.length = fn.pars)
    (hb : ∀ (cdv : Value) (A : Around) (outer : List Env) (s : Shared) (H : Hp) (E : XK), Room k (A.deeper (envOfC qual scope s.heap.objs.size f cdv)) → (A.deeper (envOfC qual scope s.heap.objs.size f cdv)).guards = some [] →
      Cxt (cxOf (L2.CX P w) P w K mg base N qual scope f cdv A outer s H E) → PassesOwn (model P w) (A.deeper (envOfC qual scope s.heap.objs.size f cdv)) (envOfC qual scope s.heap.objs.size f cdv) (cxOf (L2.CX P w) P w K mg base N qual scope f cdv A outer s H E).xe →
      PSs (cxOf (L2.CX P w) P w K mg base N qual scope f cdv A outer s H E) body (ms K WF (evB (callF tab k) fn.body))) :
    FnG P w K mg base (L2.CX P w) (k + 1) f fd ps (spF K ps.length (callF tab (k + 1) i)) := by
  refine fnG_of FD S (fun vs H Q E h => h.1) fun cdv A outer s H vs Q E hr hG h => ?_
  refine ⟨_, hb cdv A outer s H E hr hG ⟨rfl, room_u hr, hG, S.nd⟩ (passes_of (X := cxOf (L2.CX P w) P w K mg base N qual scope f cdv A outer s H E) rfl), ?_⟩
  refine run_read (E := E) hN ?_
  have e : callF tab (k + 1) i = runF (callF tab k) fn := by funext ts S; rw [callF, ht]
  rw [e, hp] at h
  exact h
theorem step0 {P : Program} {w : World} {K : PySem.W.Frag} {mg : Str → Option Value} {base : Heap} {i n : Nat} {tab : List Fn} {f : Addr} {fd : FuncData} {ps : List Str} (hp : ps.length = n) : FnG P w K mg base (L2.CX P w) 0 f fd ps (spF K n (callF tab 0 i)) :=
  ⟨fun vs H Q E h => by rw [h.1, hp], fun A outer s H args us vs Q E hr hG e0 hb r h => by obtain ⟨_, o, S, ts, _, _, p⟩ := h; exact p.elim⟩

/-! ### the defs of a text, known -/
structure KShape where
  n : Nat
  ks : List Str
  pm : List Nat
structure DF (P : Program) (w : World) (K : PySem.W.Frag) (mg : Str → Option Value) (base : Heap) (k : Nat) (tab : List Fn) (i : Nat) (x : Str) (ps : List Str) (sh : List KShape) : Prop where
  ex : ∃ (a : Addr) (fd : FuncData), FnG P w K mg base (L2.CX P w) k a fd ps (spF K ps.length (callF tab k i)) ∧ mg x = some (.ref a) ∧ PySem.W.keepIn K (.ref a) = true ∧ Binds K fd ps [] ∧ ∀ s ∈ sh, KwOk K fd ps s.n s.ks s.pm
def Walk (P : Program) (w : World) (K : PySem.W.Frag) (mg : Str → Option Value) (base : Heap) (k : Nat) (tab : List Fn) (b : Bx) (qual : Str) (st : Stmt) (N : List Str) (f : Addr) : Prop :=
  ∀ (cdv : Value) (A : Around) (outer : List Env) (s : Shared) (H : Hp) (E : XK), Room k (A.deeper (envOfC qual (defScope st) s.heap.objs.size f cdv)) → (A.deeper (envOfC qual (defScope st) s.heap.objs.size f cdv)).guards = some [] →
      Cxt (cxOf (L2.CX P w) P w K mg base N qual (defScope st) f cdv A outer s H E) → PassesOwn (model P w) (A.deeper (envOfC qual (defScope st) s.heap.objs.size f cdv)) (envOfC qual (defScope st) s.heap.objs.size f cdv) (cxOf (L2.CX P w) P w K mg base N qual (defScope st) f cdv A outer s H E).xe →
      PSs (cxOf (L2.CX P w) P w K mg base N qual (defScope st) f cdv A outer s H E) (defBody st) (ms K WF (evB (callF tab k) b))
section
variable {X : Cx} {pos p : Pos} {e : Expr} {x : Str} {es : List Expr} {kws : List Keyword} {xs zs : Exs} {ps ks : List Str} {k md i n : Nat} {tab : List Fn} {sh : List KShape} {pm : List Nat}
theorem cd (D : DF X.prog X.w X.K X.mg X.base k tab i x ps sh) (hr : Room k X.A) (hG : X.A.guards = some []) (ha : PA X (e :: es) (mts X.K WF (evs (callF tab k) xs))) (hg : Gl X x := by rfl) (hl : xs.len = ps.length := by rfl)
    (hdb : (x == ("__debug__" : Str)) = false := by decide) (he : starEach (e :: es) X.env = (false, eval e X.env) :: starEach es X.env := by rfl) (hpl : (backTo pos (starEach es X.env)).any (·.1) = false := by rfl) :
    PE X (.Call (.Name x p) (e :: es) [] pos) (mt X.K WF (ev (callF tab k) (.call md i xs))) := by
  obtain ⟨a, fd, F, hm, hk, hb, _⟩ := D.ex
  exact m_call (callee F hr hG hm hk rfl) hb hg hl ha hdb he hpl
theorem cd0 (D : DF X.prog X.w X.K X.mg X.base k tab i x [] sh) (hr : Room k X.A) (hG : X.A.guards = some []) (hg : Gl X x := by rfl) (hdb : (x == ("__debug__" : Str)) = false := by decide) :
    PE X (.Call (.Name x p) [] [] pos) (mt X.K WF (ev (callF tab k) (.call md i .nil))) := by
  obtain ⟨a, fd, F, hm, hk, hb, _⟩ := D.ex
  exact m_call0 (callee F hr hG hm hk rfl) hb hg hdb
theorem ck (D : DF X.prog X.w X.K X.mg X.base k tab i x ps sh) (hr : Room k X.A) (hG : X.A.guards = some []) (j : Nat) (hj : sh[j]? = some ⟨n, ks, pm⟩) (ha : PA X (e :: es) (mts X.K WF (evs (callF tab k) xs))) (hkw : PK X kws (mts X.K WF (evs (callF tab k) zs)))
    (hg : Gl X x := by rfl) (hl : xs.len = n := by rfl) (hz : zs.len = ks.length := by rfl) (hp : pm.length = ps.length := by rfl)
    (hall : (backToKw pos (keywordEach kws X.env)).all (·.1.isSome) = true := by rfl) (hks : (backToKw pos (keywordEach kws X.env)).filterMap (·.1) = ks := by rfl)
    (hdb : (x == ("__debug__" : Str)) = false := by decide) (he : starEach (e :: es) X.env = (false, eval e X.env) :: starEach es X.env := by rfl)
    (hpl : ((backTo pos (starEach (e :: es) X.env)).any (·.1) || (backToKw pos (keywordEach kws X.env)).any (·.1.isNone)) = false := by rfl) :
    PE X (.Call (.Name x p) (e :: es) kws pos) (mt X.K WF (ev (callF tab k) (.callK md i pm (xs.app zs)))) := by
  obtain ⟨a, fd, F, hm, hk, hb, hw⟩ := D.ex
  exact m_callK (callee F hr hG hm hk rfl) (hw _ (List.mem_of_getElem? hj)) hg hl hz hp ha hkw hall hks hdb he hpl
theorem ck0 (D : DF X.prog X.w X.K X.mg X.base k tab i x ps sh) (hr : Room k X.A) (hG : X.A.guards = some []) (j : Nat) (hj : sh[j]? = some ⟨0, ks, pm⟩) (hkw : PK X kws (mts X.K WF (evs (callF tab k) zs)))
    (hg : Gl X x := by rfl) (hz : zs.len = ks.length := by rfl) (hp : pm.length = ps.length := by rfl)
    (hall : (backToKw pos (keywordEach kws X.env)).all (·.1.isSome) = true := by rfl) (hks : (backToKw pos (keywordEach kws X.env)).filterMap (·.1) = ks := by rfl)
    (hdb : (x == ("__debug__" : Str)) = false := by decide)
    (hpl : ((backTo pos (starEach [] X.env)).any (·.1) || (backToKw pos (keywordEach kws X.env)).any (·.1.isNone)) = false := by rfl) :
    PE X (.Call (.Name x p) [] kws pos) (mt X.K WF (ev (callF tab k) (.callK md i pm zs))) := by
  obtain ⟨a, fd, F, hm, hk, hb, hw⟩ := D.ex
  exact m_callK0 (callee F hr hG hm hk rfl) (hw _ (List.mem_of_getElem? hj)) hg hz hp hkw hall hks hdb hpl
end
/-- how a call with keywords binds, no defaults -/
theorem kwOk_of {K : PySem.W.Frag} {x qual : Str} {params : Arguments} {body : List Stmt} {scope : Scope} {f : Addr} {fd : FuncData} {ps ks : List Str} {n : Nat} {pm : List Nat} (F : FunD K x qual params body scope [] [] f fd)
    (h : ∀ (kV doc pm' : Value) (an : Option Addr) (cdv ct : Value) (us ws : List Value), us.length = n → ws.length = ks.length → bindArgs (PySem.W.fnOf x qual params body scope .none kV doc pm' an cdv ct) ⟨us, ks.zip ws⟩ = pure (ps.zip (permG (us ++ ws) pm))) : KwOk K fd ps n ks pm := by
  obtain ⟨oc, od, dV, kV, doc, pm', an, cdv, ct, osl, rfl, lk, hcd, hD, hK⟩ := F.ex
  rcases hD with ⟨_, rfl⟩ | ⟨e, _⟩
  · exact ⟨fun s us ws _ h1 h2 => .of_eq (h kV doc pm' an cdv ct us ws h1 h2)⟩
  · exact absurd rfl e
theorem ty_int : tyIs "int" .int := by unfold tyIs; decide +kernel
theorem ty_bool : tyIs "bool" .bool := by unfold tyIs; decide +kernel
theorem ty_str : tyIs "str" .str := by unfold tyIs; decide +kernel
theorem ty_list : tyIs "list" .list := by unfold tyIs; decide +kernel
theorem ty_tuple : tyIs "tuple" .tuple := by unfold tyIs; decide +kernel
theorem ty_dict : tyIs "dict" .dict := by unfold tyIs; decide +kernel
theorem bb_len : bootBuiltins "len" = some (.builtin "len") := by decide +kernel
theorem bb_all : bootBuiltins "all" = some (.builtin "all") := by decide +kernel
theorem bb_any : bootBuiltins "any" = some (.builtin "any") := by decide +kernel
theorem bb_sum : bootBuiltins "sum" = some (.builtin "sum") := by decide +kernel
theorem bb_abs : bootBuiltins "abs" = some (.builtin "abs") := by decide +kernel
theorem bb_repr : bootBuiltins "repr" = some (.builtin "repr") := by decide +kernel
theorem bb_sorted : bootBuiltins "sorted" = some (.builtin "sorted") := by decide +kernel
theorem bb_divmod : bootBuiltins "divmod" = some (.builtin "divmod") := by decide +kernel
theorem bb_max : bootBuiltins "max" = some (.builtin "max") := by decide +kernel
theorem bb_min : bootBuiltins "min" = some (.builtin "min") := by decide +kernel
theorem bb_list : bootBuiltins "list" = some (.type "list") := by decide +kernel
theorem bb_tuple : bootBuiltins "tuple" = some (.type "tuple") := by decide +kernel
/-! ### the law's own call -/
theorem ints_dq {K : PySem.W.Frag} {FH : Hp} : ∀ ns : List Int, DqAll K FH (ns.map V.int) (ns.map .int) ∧ PyData.canLayAll0 (ns.map .int) = true
  | [] => ⟨.nil, by simp [PyData.canLayAll0]⟩
  | i :: ns => ⟨.cons (.int i) (ints_dq ns).1, by simp only [List.map_cons, PyData.canLayAll0, Bool.and_eq_true]; exact ⟨by simp [PyData.canLay0], (ints_dq (K := K) (FH := FH) ns).2⟩⟩
theorem script_rel {K : PySem.W.Frag} {H : Hp} {a : Addr} {ns : List Int} (hl : ns.length ≤ 63) (hS : SqL K H a (ns.map V.int)) : ∃ o : Wd, HRel K o [] H ∧ Rep K o (.d (.list (ns.map .int))) (.ref a) := by
  have hz : (ns.map V.int).length ≤ sizeLine := by rw [List.length_map, sizeLine_eq]; omega
  have none_ok : ∀ FH : Hp, (∀ b u, FH b = some u → H b = some u) → (∀ b u, FH b = some u → lenOk u) → HRel K ⟨[], FH⟩ [] H := fun FH h1 h2 =>
    ⟨h1, h2, rfl, List.nodup_nil, fun n b h => by simp at h, fun n ts b h => by simp at h, fun n ts b h => by simp at h⟩
  have key : ∀ u : HO, H a = some u → lenOk u → Rd (fun b => if b = a then H b else none) a (.lst (ns.map V.int)) → ∃ o : Wd, HRel K o [] H ∧ Rep K o (.d (.list (ns.map .int))) (.ref a) := fun u hu lu hr => by
    refine ⟨⟨[], fun b => if b = a then H b else none⟩, none_ok _ (fun b w h => ?_) (fun b w h => ?_), .d (.lst (.inl hr) (ints_dq ns).1) (by simp only [PyData.canLay0]; exact (ints_dq (K := K) (FH := H) ns).2)⟩
    · by_cases e : b = a
      · rw [if_pos e] at h; exact h
      · rw [if_neg e] at h; cases h
    · by_cases e : b = a
      · rw [if_pos e, e, hu] at h; cases h; exact lu
      · rw [if_neg e] at h; cases h
  rcases hS with (h | ⟨ob, h⟩) | ⟨ob, its, n, h1, h2, h3, h4, h5, h6⟩
  · exact key _ h hz (.inl (by show (if a = a then H a else none) = _; rw [if_pos rfl]; exact h))
  · exact key _ h hz (.inr ⟨ob, by show (if a = a then H a else none) = _; rw [if_pos rfl]; exact h⟩)
  · exact ⟨⟨[], fun _ => none⟩, none_ok _ (fun b u h => by cases h) (fun b u h => by cases h), .d (.lst (.inr ⟨ob, its, n, h1, h2, h3, h4, h5, h6⟩) (ints_dq ns).1) (by simp only [PyData.canLay0]; exact (ints_dq (K := K) (FH := H) ns).2)⟩
theorem law_sp {K : PySem.W.Frag} {H : Hp} {a : Addr} {ns : List Int} {g : List T → Store → R T} {E : XK} (hl : ns.length ≤ 63) (hS : SqL K H a (ns.map V.int)) (hg : ∃ S : Store, g [.d (.list (ns.map .int))] [] = .ok (.d (.bool true)) S) :
    spF K 1 g [.ref a] H (fun v _ => v = .bl true) E := by
  obtain ⟨o, R, r⟩ := script_rel hl hS
  obtain ⟨S, e⟩ := hg
  refine ⟨rfl, o, [], _, R, .cons r .nil, ?_⟩
  rw [e]
  exact fun o1 v H1 x1 R1 r1 => rep_bl r1
theorem cx_no {P : Program} {w : World} {outer : List Env} {H : Hp} {s : Shared} {e : Value} {s' : Shared} (h : L2.CX P w outer H s (fun _ _ _ => False) e s') : False := by
  obtain ⟨_, _, _, _, _, _, _, _, _, _, _, _, z⟩ := h
  exact z.elim
end Mc
end

section
set_option linter.all false
set_option maxRecDepth 100000
set_option autoImplicit false
/-! Mx: the machine's runs, by hand -/
namespace Mc
open PySem
theorem R.bnd_okE {a b : Type} (x : a) (S : Store) (k : a → Store → R b) : (R.ok x S).bnd k = k x S := rfl
theorem R.s_okE {a : Type} (x : a) (S : Store) (k : a → Store → RS) : (R.ok x S).s k = k x S := rfl
theorem R.calm_ok {a : Type} (x : a) (S : Store) : (R.ok x S).calm = R.ok x S := rfl
theorem seqS_nx (sg : Sg) (S : Store) (k : Sg → Store → RS) : seqS (.nx sg S) k = k sg S := rfl
theorem seqS_rt (t : T) (S : Store) (k : Sg → Store → RS) : seqS (.rt t S) k = .rt t S := rfl
theorem loopK_nx (sg : Sg) (S : Store) (k : Sg → Store → RS) : loopK (.nx sg S) k = k sg S := rfl
theorem loopK_rt (t : T) (S : Store) (k : Sg → Store → RS) : loopK (.rt t S) k = .rt t S := rfl
theorem lcL_map {body : T → Store → R (Option T)} {S : Store} (g : T → Option T) : ∀ {ts : List T}, (∀ t ∈ ts, body t S = .ok (g t) S) → lcL body ts S = .ok (ts.filterMap g) S
  | [], _ => rfl
  | t :: ts, h => by
    rw [lcL, h t List.mem_cons_self, R.bnd_okE, lcL_map g fun u hu => h u (List.mem_cons_of_mem _ hu), R.bnd_okE]
    cases e : g t with
    | none => rw [List.filterMap_cons_none e]; rfl
    | some u => rw [List.filterMap_cons_some e]; rfl
theorem allD_map : ∀ ds : List PyData, allD (ds.map .d) = some ds
  | [] => rfl
  | d :: ds => by simp [allD, allD_map ds]
theorem mkLst_map (ds : List PyData) : mkLst (ds.map .d) = .d (.list ds) := by rw [mkLst, allD_map]
theorem mkTup_map (ds : List PyData) : mkTup (ds.map .d) = .d (.tuple ds) := by rw [mkTup, allD_map]
/-! lists of whole numbers -/
def nI (n : Nat) : PyData := .int n
def insN (x : Nat) : List Nat → List Nat
  | [] => [x]
  | y :: ys => if y < x then y :: insN x ys else x :: y :: ys
def sortN : List Nat → List Nat
  | [] => []
  | x :: xs => insN x (sortN xs)
theorem insR_N (x : Nat) : ∀ l : List Nat, sortD.insR (nI x) (l.map nI) = (insN x l).map nI
  | [] => rfl
  | y :: ys => by
    rw [List.map_cons, sortD.insR, insN]
    have e : ltD (nI y) (nI x) = decide (y < x) := by
      show decide ((y : Int) < (x : Int)) = _
      exact decide_eq_decide.mpr (by omega)
    rw [e]
    by_cases h : y < x
    · rw [decide_eq_true h, if_pos rfl, if_pos h, insR_N x ys]; rfl
    · rw [decide_eq_false h, if_neg (by simp), if_neg h]; rfl
theorem sortD_N : ∀ l : List Nat, sortD (l.map nI) = (sortN l).map nI
  | [] => rfl
  | x :: xs => by rw [List.map_cons, sortD, sortD_N xs, insR_N]; rfl
theorem allAl_N (l : List Nat) : allAl (l.map nI) = true := by
  unfold allAl
  simp [List.all_eq_true, nI, PySem.W.alike]
theorem sortable_N (l : List Nat) : sortable (l.map nI) = true := by
  unfold sortable
  rw [allAl_N, Bool.true_and, Bool.or_eq_true]
  exact .inr (by simp [List.all_eq_true, nI, noTup])
theorem depthAll_N : ∀ l : List Nat, PyData.depthAll (l.map nI) = 0
  | [] => by simp [PyData.depthAll]
  | x :: xs => by simp [PyData.depthAll, nI, PyData.depth, depthAll_N xs]
theorem depth_N (l : List Nat) : (PyData.list (l.map nI)).depth = 1 := by simp [PyData.depth, depthAll_N]
/-- sorted(..) of whole numbers -/
theorem u1_sortN {S : Store} {t : T} {l : List Nat} (h : seqOf S t = some ((l.map nI).map .d)) : u1 .sorted S t = some (.l (((sortN l).map nI).map .d)) := by
  unfold u1
  simp only [h, allD_map, sortable_N, depth_N, Bool.true_and, sortD_N]
  rfl
end Mc
end

section
set_option linter.all false
namespace L81
open PySem Mc
/-- is_integer -/
def b_0 : Bx := (.cons (.ret (.and_ (.u false (.isi [.int]) (.var 0)) (.u false .nt (.u false (.isi [.bool]) (.var 0))))) .nil)
/-- is_count -/
def b_1 : Bx := (.cons (.ret (.and_ (.call 0 0 (.cons (.var 0) .nil)) (.b false .ge (.var 0) (.lit (.int 0))))) .nil)
/-- is_list -/
def b_2 : Bx := (.cons (.ret (.u false (.isi [.list, .tuple]) (.var 0))) .nil)
/-- is_web_tie -/
def b_3 : Bx := (.cons (.ite (.or_ (.not_ (.val (.u false (.isi [.tuple]) (.var 1)))) (.or_ (.val (.b false .ne (.u false .len (.var 1)) (.lit (.int 2)))) (.not_ (.val (.u false .all (.lc false [2] (.nm 2) (.seq (.var 1)) .tt (.call 0 1 (.cons (.var 2) .nil)))))))) (.cons (.ret (.lit (.bool false))) .nil) .nil) (.cons (.ret (.ch .lt .lt (.b false .idx (.var 1) (.lit (.int 0))) (.b false .idx (.var 1) (.lit (.int 1))) (.var 0))) .nil))
/-- is_web_value -/
def b_4 : Bx := (.cons (.ite (.or_ (.not_ (.val (.u false (.isi [.tuple]) (.var 0)))) (.val (.b false .ne (.u false .len (.var 0)) (.lit (.int 2))))) (.cons (.ret (.lit (.bool false))) .nil) .nil) (.cons (.asg (.tup (.cons (.nm 1) (.cons (.nm 2) .nil))) (.var 0)) (.cons (.ite (.or_ (.not_ (.val (.call 0 1 (.cons (.var 1) .nil)))) (.or_ (.not_ (.val (.ch .le .le (.lit (.int 1)) (.var 1) (.lit (.int 6))))) (.not_ (.val (.call 0 2 (.cons (.var 2) .nil)))))) (.cons (.ret (.lit (.bool false))) .nil) .nil) (.cons (.ite (.not_ (.val (.u false .all (.lc false [4] (.nm 4) (.seq (.var 2)) .tt (.call 0 3 (.cons (.var 1) (.cons (.var 4) .nil))))))) (.cons (.ret (.lit (.bool false))) .nil) .nil) (.cons (.ret (.u false .all (.lc false [3] (.nm 3) (.rng1 (.u false .len (.var 2))) .tt (.b false .nin (.b false .idx (.var 2) (.var 3)) (.sl false (.var 2) .none (.some (.var 3))))))) .nil)))))
/-- want_web -/
def b_5 : Bx := (.cons (.ite (.not_ (.val (.call 0 4 (.cons (.var 0) .nil)))) (.cons .stuck .nil) .nil) (.cons (.ret (.tup (.cons (.b false .idx (.var 0) (.lit (.int 0))) (.cons (.u true .sorted (.b false .idx (.var 0) (.lit (.int 1)))) .nil)))) .nil))
/-- web_neighbours -/
def b_6 : Bx := (.cons (.asg (.nm 2) (.b false .add (.lc false [3, 4] (.tup (.cons (.nm 3) (.cons (.nm 4) .nil))) (.seq (.b false .idx (.var 0) (.lit (.int 1)))) (.val (.b false .eq (.var 4) (.var 1))) (.var 3)) (.lc false [3, 4] (.tup (.cons (.nm 3) (.cons (.nm 4) .nil))) (.seq (.b false .idx (.var 0) (.lit (.int 1)))) (.val (.b false .eq (.var 3) (.var 1))) (.var 4)))) (.cons (.ret (.u false .sorted (.var 2))) .nil))
/-- web_reached -/
def b_7 : Bx := (.cons (.asg (.tup (.cons (.nm 1) (.cons (.nm 2) .nil))) (.tup (.cons (.lst true (.cons (.lit (.int 0)) .nil)) (.cons (.lst true (.cons (.lit (.int 0)) .nil)) .nil)))) (.cons (.wh (.val (.b false .ne (.var 2) (.lst false .nil))) (.cons (.asg (.nm 3) (.pop (.var 2))) (.cons (.asg (.nm 4) (.lc false [5] (.nm 5) (.seq (.call 0 6 (.cons (.var 0) (.cons (.var 3) .nil)))) (.val (.b false .nin (.var 5) (.var 1))) (.var 5))) (.cons (.exp (.ext (.var 1) (.var 4))) (.cons (.exp (.ext (.var 2) (.var 4))) .nil))))) (.cons (.ret (.var 1)) .nil)))
/-- web_kept -/
def b_8 : Bx := (.cons (.asg (.tup (.cons (.nm 1) (.cons (.nm 2) .nil))) (.tup (.cons (.ofIt false (.rng1 (.b false .idx (.var 0) (.lit (.int 0))))) (.cons (.lst false .nil) .nil)))) (.cons (.wh (.val (.b false .ne (.var 1) (.var 2))) (.cons (.asg (.nm 2) (.var 1)) (.cons (.asg (.nm 1) (.lc false [3] (.nm 3) (.seq (.var 2)) (.val (.b false .gt (.u false .len (.lc false [4] (.nm 4) (.seq (.call 0 6 (.cons (.var 0) (.cons (.var 3) .nil)))) (.val (.b false .in_ (.var 4) (.var 2))) (.var 4))) (.lit (.int 1)))) (.var 3))) .nil))) (.cons (.ret (.var 1)) .nil)))
/-- web_ring -/
def b_9 : Bx := (.cons (.asg (.nm 1) (.call 0 8 (.cons (.var 0) .nil))) (.cons (.ite (.val (.b false .eq (.var 1) (.lst false .nil))) (.cons (.ret (.lit .none)) .nil) .nil) (.cons (.asg (.nm 2) (.lst true (.cons (.b false .idx (.var 1) (.lit (.int 0))) .nil))) (.cons (.wh (.val (.lit (.bool true))) (.cons (.asg (.nm 3) (.sl false (.var 2) (.some (.u false .neg (.lit (.int 2)))) (.some (.u false .neg (.lit (.int 1)))))) (.cons (.asg (.nm 4) (.b false .idx (.lc false [5] (.nm 5) (.seq (.call 0 6 (.cons (.var 0) (.cons (.b false .idx (.var 2) (.u false .neg (.lit (.int 1)))) .nil)))) (.and_ (.val (.b false .in_ (.var 5) (.var 1))) (.val (.b false .nin (.var 5) (.var 3)))) (.var 5)) (.lit (.int 0)))) (.cons (.ite (.val (.b false .in_ (.var 4) (.var 2))) (.cons (.ret (.sl false (.var 2) (.some (.index (.var 2) (.var 4))) .none)) .nil) .nil) (.cons (.exp (.app (.var 2) (.var 4))) .nil))))) .nil))))
/-- is_web -/
def b_10 : Bx := (.cons (.ret (.call 0 4 (.cons (.var 0) .nil))) .nil)
/-- told_web -/
def b_11 : Bx := (.cons (.ret (.call 1 5 (.cons (.var 0) .nil))) .nil)
/-- neighbours -/
def b_12 : Bx := (.cons (.asg (.nm 2) (.call 0 5 (.cons (.var 0) .nil))) (.cons (.ite (.or_ (.not_ (.val (.call 0 1 (.cons (.var 1) .nil)))) (.val (.b false .ge (.var 1) (.b false .idx (.var 2) (.lit (.int 0)))))) (.cons .stuck .nil) .nil) (.cons (.ret (.call 0 6 (.cons (.var 2) (.cons (.var 1) .nil)))) .nil)))
/-- is_joined -/
def b_13 : Bx := (.cons (.asg (.nm 1) (.call 0 5 (.cons (.var 0) .nil))) (.cons (.ret (.b false .eq (.u false .len (.call 0 7 (.cons (.var 1) .nil))) (.b false .idx (.var 1) (.lit (.int 0))))) .nil))
/-- has_ring -/
def b_14 : Bx := (.cons (.ret (.b false .ne (.call 0 8 (.cons (.call 0 5 (.cons (.var 0) .nil)) .nil)) (.lst false .nil))) .nil)
/-- ring -/
def b_15 : Bx := (.cons (.ret (.call 0 9 (.cons (.call 0 5 (.cons (.var 0) .nil)) .nil))) .nil)
/-- _law_pot -/
def b_16 : Bx := (.cons (.asg (.nm 2) (.b false .add (.b false .add (.b false .mul (.lit (.int 449)) (.var 1)) (.lit (.int 827))) (.b false .mod (.u false .sum (.sl false (.var 0) .none (.some (.lit (.int 1))))) (.lit (.int 1000003))))) (.cons (.ite (.val (.b false .lt (.var 1) (.u false .len (.var 0)))) (.cons (.asg (.nm 2) (.u false .abs (.b false .idx (.var 0) (.var 1)))) .nil) .nil) (.cons (.ret (.lst true (.cons (.b false .max2 (.lit (.int 0)) (.b false .sub (.var 2) (.b false .pow (.lit (.int 10)) (.lit (.int 18))))) (.cons (.b false .add (.b false .mod (.b false .mul (.b false .add (.b false .mod (.var 2) (.lit (.int 2147483549))) (.lit (.int 151))) (.b false .pow (.b false .add (.b false .mul (.lit (.int 2)) (.var 1)) (.lit (.int 95))) (.lit (.int 3)))) (.lit (.int 2147483477))) (.lit (.int 1))) .nil)))) .nil)))
/-- _law_draw -/
def b_17 : Bx := (.cons (.ite (.val (.b false .gt (.b false .idx (.var 0) (.lit (.int 0))) (.lit (.int 0)))) (.cons (.asg (.tup (.cons (.sub (.var 0) (.lit (.int 0))) (.cons (.nm 2) .nil))) (.b false .divmod (.b false .idx (.var 0) (.lit (.int 0))) (.var 1))) (.cons (.ret (.var 2)) .nil)) .nil) (.cons (.asg (.sub (.var 0) (.lit (.int 1))) (.b false .mod (.b false .add (.b false .mul (.b false .idx (.var 0) (.lit (.int 1))) (.lit (.int 48271))) (.lit (.int 151))) (.lit (.int 2147483587)))) (.cons (.ret (.b false .mod (.b false .fdiv (.b false .mod (.b false .mul (.b false .idx (.var 0) (.lit (.int 1))) (.b false .idx (.var 0) (.lit (.int 1)))) (.lit (.int 2147483549))) (.lit (.int 13))) (.var 1))) .nil)))
/-- _law_web -/
def b_18 : Bx := (.cons (.par 4 5 (.b false .add (.var 1) (.call 1 17 (.cons (.var 0) (.cons (.b false .add (.b false .sub (.var 2) (.var 1)) (.lit (.int 1))) .nil)))) (.lst true .nil)) (.cons (.for_ (.nm 3) (.rng1 (.var 4)) (.cons (.for_ (.nm 6) (.rng2 (.b false .add (.var 3) (.lit (.int 1))) (.var 4)) (.cons (.ite (.val (.b false .eq (.call 1 17 (.cons (.var 0) (.cons (.lit (.int 2)) .nil))) (.lit (.int 0)))) (.cons (.exp (.app (.var 5) (.tup (.cons (.var 3) (.cons (.var 6) .nil))))) .nil) .nil) .nil)) .nil)) (.cons (.ret (.tup (.cons (.var 4) (.cons (.var 5) .nil)))) .nil)))
/-- _law_near -/
def b_19 : Bx := (.cons (.ret (.u false .sorted (.b false .add (.lc false [2, 3] (.tup (.cons (.nm 2) (.cons (.nm 3) .nil))) (.seq (.var 0)) (.val (.b false .eq (.var 2) (.var 1))) (.var 3)) (.lc false [2, 3] (.tup (.cons (.nm 2) (.cons (.nm 3) .nil))) (.seq (.var 0)) (.val (.b false .eq (.var 3) (.var 1))) (.var 2))))) .nil)
/-- _law_piece -/
def b_20 : Bx := (.cons (.asg (.nm 2) (.lst false (.cons (.var 1) .nil))) (.cons (.for_ (.nm 3) (.rng1 (.lit (.int 6))) (.cons (.for_ (.nm 4) (.seq (.u false .list (.var 2))) (.cons (.asg (.nm 2) (.b false .add (.var 2) (.lc false [5] (.nm 5) (.seq (.call 0 19 (.cons (.var 0) (.cons (.var 4) .nil)))) (.val (.b false .nin (.var 5) (.var 2))) (.var 5)))) .nil)) .nil)) (.cons (.ret (.u false .sorted (.var 2))) .nil)))
/-- _law_is_ring -/
def b_21 : Bx := (.cons (.ite (.or_ (.not_ (.val (.u false (.isi [.list]) (.var 1)))) (.or_ (.val (.b false .lt (.u false .len (.var 1)) (.lit (.int 3)))) (.val (.b false .ne (.u false .lenset (.var 1)) (.u false .len (.var 1)))))) (.cons (.ret (.lit (.bool false))) .nil) .nil) (.cons (.for_ (.tup (.cons (.nm 2) (.cons (.nm 3) .nil))) (.enum (.var 1)) (.cons (.ite (.val (.b false .nin (.b false .idx (.var 1) (.b false .sub (.var 2) (.lit (.int 1)))) (.call 0 19 (.cons (.var 0) (.cons (.var 3) .nil))))) (.cons (.ret (.lit (.bool false))) .nil) .nil) .nil)) (.cons (.ret (.lit (.bool true))) .nil)))
/-- _law_right -/
def b_22 : Bx := (.cons (.asg (.tup (.cons (.nm 6) (.cons (.nm 7) .nil))) (.call 1 18 (.cons (.var 0) (.cons (.lit (.int 1)) (.cons (.lit (.int 6)) .nil))))) (.cons (.par 8 9 (.u true .list (.var 7)) (.lst true .nil)) (.cons (.wh (.val (.b false .ne (.var 8) (.lst false .nil))) (.cons (.exp (.app (.var 9) (.popAt (.var 8) (.call 1 17 (.cons (.var 0) (.cons (.u false .len (.var 8)) .nil)))))) .nil)) (.cons (.asg (.nm 1) (.tup (.cons (.var 6) (.cons (.ite (.val (.b false .eq (.call 1 17 (.cons (.var 0) (.cons (.lit (.int 2)) .nil))) (.lit (.int 0)))) (.var 9) (.u false .tuple (.var 9))) .nil)))) (.cons (.ite (.or_ (.val (.b false (B2.is_ true) (.call 0 10 (.cons (.var 1) .nil)) (.lit (.bool true)))) (.or_ (.val (.b false .ne (.call 0 11 (.cons (.var 1) .nil)) (.tup (.cons (.var 6) (.cons (.var 7) .nil))))) (.not_ (.val (.u false (.isi [.list]) (.b false .idx (.call 0 11 (.cons (.var 1) .nil)) (.lit (.int 1)))))))) (.cons (.ret (.lit (.bool false))) .nil) .nil) (.cons (.for_ (.nm 2) (.rng1 (.var 6)) (.cons (.ite (.or_ (.val (.b false .ne (.call 0 12 (.cons (.var 1) (.cons (.var 2) .nil))) (.call 0 19 (.cons (.var 7) (.cons (.var 2) .nil))))) (.val (.b false .ne (.callK 0 12 [1, 0] (.cons (.var 2) (.cons (.var 1) .nil))) (.call 0 19 (.cons (.var 7) (.cons (.var 2) .nil)))))) (.cons (.ret (.lit (.bool false))) .nil) .nil) .nil)) (.cons (.asg (.nm 3) (.u false .lenset (.lc false [2] (.nm 2) (.rng1 (.var 6)) .tt (.b false .idx (.call 0 20 (.cons (.var 7) (.cons (.var 2) .nil))) (.lit (.int 0)))))) (.cons (.asg (.nm 4) (.lst false (.cons (.b false .eq (.var 3) (.lit (.int 1))) (.cons (.b false .gt (.u false .len (.var 7)) (.b false .sub (.var 6) (.var 3))) .nil)))) (.cons (.ite (.val (.b false .ne (.u false .repr (.lst false (.cons (.call 0 13 (.cons (.var 1) .nil)) (.cons (.call 0 14 (.cons (.var 1) .nil)) .nil)))) (.u false .repr (.var 4)))) (.cons (.ret (.lit (.bool false))) .nil) .nil) (.cons (.asg (.nm 5) (.call 0 15 (.cons (.var 1) .nil))) (.cons (.ite (.not_ (.val (.b false .idx (.var 4) (.lit (.int 1))))) (.cons (.ret (.u false (.isN false) (.var 5))) .nil) .nil) (.cons (.exp (.app (.b false .idx (.call 1 11 (.cons (.var 1) .nil)) (.lit (.int 1))) (.lit .none))) (.cons (.ret (.and_ (.call 0 21 (.cons (.var 7) (.cons (.var 5) .nil))) (.b false .eq (.callK 0 11 [0] (.cons (.var 1) .nil)) (.tup (.cons (.var 6) (.cons (.var 7) .nil)))))) .nil)))))))))))))
/-- law -/
def b_23 : Bx := (.cons (.ret (.call 1 22 (.cons (.call 1 16 (.cons (.var 0) (.cons (.lit (.int 0)) .nil))) .nil))) .nil)
def tab : List Fn := [⟨1, 1, b_0⟩, ⟨1, 1, b_1⟩, ⟨1, 1, b_2⟩, ⟨3, 2, b_3⟩, ⟨5, 1, b_4⟩, ⟨1, 1, b_5⟩, ⟨5, 2, b_6⟩, ⟨6, 1, b_7⟩, ⟨5, 1, b_8⟩, ⟨6, 1, b_9⟩, ⟨1, 1, b_10⟩, ⟨1, 1, b_11⟩, ⟨3, 2, b_12⟩, ⟨2, 1, b_13⟩, ⟨1, 1, b_14⟩, ⟨1, 1, b_15⟩, ⟨3, 2, b_16⟩, ⟨3, 2, b_17⟩, ⟨7, 3, b_18⟩, ⟨4, 2, b_19⟩, ⟨6, 2, b_20⟩, ⟨4, 2, b_21⟩, ⟨10, 1, b_22⟩, ⟨1, 1, b_23⟩]
/-- what is left to show of the machine -/
def Goal : Prop := ∀ ns : List Int, ns.length ≤ 63 → ∃ S : Store, callF tab 12 23 [.d (.list (ns.map .int))] [] = .ok (.d (.bool true)) S
end L81
end

section
set_option linter.all false
set_option maxRecDepth 100000
set_option autoImplicit false
/-! G81: graphs on at most six copies: a tie that joins what is joined, and what is left by pruning -/
namespace G81
def pairs (n : Nat) : List (Nat × Nat) := (List.range n).flatMap fun l => ((List.range n).filter (fun h => l < h)).map fun h => (l, h)
def forceN (x : Nat) (k : Nat → Bool) : Bool := match x with
  | 0 => k 0
  | m + 1 => k (m + 1)
def forceL : List Nat → (List Nat → Bool) → Bool
  | [], k => k []
  | x :: xs, k => forceN x fun x' => forceL xs fun xs' => k (x' :: xs')
theorem forceN_eq (x : Nat) (k : Nat → Bool) : forceN x k = k x := by cases x <;> rfl
theorem forceL_eq : ∀ (xs : List Nat) (k : List Nat → Bool), forceL xs k = k xs
  | [], _ => rfl
  | x :: xs, k => by rw [forceL, forceN_eq, forceL_eq xs]
/-- the tie (a, b) put into the rows -/
def addRow : List Nat → Nat → Nat → List Nat
  | [], _, _ => []
  | r :: rs, 0, b => (r ||| (1 <<< b)) :: rs
  | r :: rs, a + 1, b => r :: addRow rs a b
def tied (rows : List Nat) (a b : Nat) : List Nat := addRow (addRow rows a b) b a
def relab (la lb : Nat) : List Nat → List Nat
  | [] => []
  | x :: xs => (if Nat.beq x lb then la else x) :: relab la lb xs
def two (x : Nat) : Bool := !Nat.beq (x &&& (x - 1)) 0
/-- what of m has two neighbours in m -/
def prune (m : Nat) : List Nat → Nat → Nat
  | [], _ => 0
  | r :: rs, v => prune m rs (v + 1) ||| (if m.testBit v && two (r &&& m) then 1 <<< v else 0)
def getN : List Nat → Nat → Nat
  | [], _ => 0
  | x :: _, 0 => x
  | _ :: xs, i + 1 => getN xs i
def leaf (n : Nat) (rows : List Nat) (red : Bool) : Bool :=
  forceN (prune (2 ^ n - 1) rows 0) fun m1 => forceN (prune m1 rows 0) fun m2 => forceN (prune m2 rows 0) fun m3 => Nat.beq (prune m3 rows 0) m3 && (Nat.beq m3 0 == !red)
def trie (n : Nat) : List (Nat × Nat) → List Nat → List Nat → Bool → Bool
  | [], rows, labs, red => forceL rows fun rows => leaf n rows red
  | (a, b) :: ps, rows, labs, red => trie n ps rows labs red &&
      forceL (tied rows a b) fun rows' => forceN (getN labs a) fun la => forceN (getN labs b) fun lb =>
        bif Nat.beq la lb then trie n ps rows' labs true else forceL (relab la lb labs) fun labs' => trie n ps rows' labs' red

/-! ### the trie's leaves -/
structure St where
  rows : List Nat
  labs : List Nat
  red : Bool
def stp (s : St) (p : Nat × Nat) : St := ⟨tied s.rows p.1 p.2, if getN s.labs p.1 = getN s.labs p.2 then s.labs else relab (getN s.labs p.1) (getN s.labs p.2) s.labs, if getN s.labs p.1 = getN s.labs p.2 then true else s.red⟩
theorem trie_sub (n : Nat) : ∀ (ps : List (Nat × Nat)) (s : St), trie n ps s.rows s.labs s.red = true → ∀ es : List (Nat × Nat), es.Sublist ps → leaf n (es.foldl stp s).rows (es.foldl stp s).red = true
  | [], s, h, es, hs => by
    cases hs
    unfold trie at h
    rw [forceL_eq] at h
    exact h
  | (a, b) :: ps, s, h, es, hs => by
    unfold trie at h
    rw [Bool.and_eq_true] at h
    cases hs with
    | cons _ hs => exact trie_sub n ps s h.1 es hs
    | cons_cons _ hs =>
      rename_i es'
      have h2 := h.2
      rw [forceL_eq, forceN_eq, forceN_eq] at h2
      rw [List.foldl_cons]
      refine trie_sub n ps (stp s (a, b)) ?_ es' hs
      show trie n ps (tied s.rows a b) (if getN s.labs a = getN s.labs b then s.labs else relab (getN s.labs a) (getN s.labs b) s.labs) (if getN s.labs a = getN s.labs b then true else s.red) = true
      by_cases e : getN s.labs a = getN s.labs b
      · rw [if_pos e, if_pos e]
        rw [show Nat.beq (getN s.labs a) (getN s.labs b) = true from by rw [Nat.beq_eq]; exact e] at h2
        exact h2
      · rw [if_neg e, if_neg e]
        rw [show Nat.beq (getN s.labs a) (getN s.labs b) = false from by
          cases q : Nat.beq (getN s.labs a) (getN s.labs b) with
          | false => rfl
          | true => exact absurd (Nat.eq_of_beq_eq_true q) e] at h2
        simp only [cond_false, forceL_eq] at h2
        exact h2

/-! ### counting unlike ones -/
def dc {α : Type} [DecidableEq α] : List α → Nat
  | [] => 0
  | x :: xs => (if x ∈ xs then 0 else 1) + dc xs
theorem dc_pat {α β γ : Type} [DecidableEq β] [DecidableEq γ] (f : α → β) (g : α → γ) : ∀ l : List α, (∀ a ∈ l, ∀ b ∈ l, f a = f b ↔ g a = g b) → dc (l.map f) = dc (l.map g)
  | [], _ => rfl
  | x :: xs, h => by
    have ih := dc_pat f g xs fun a ha b hb => h a (List.mem_cons_of_mem _ ha) b (List.mem_cons_of_mem _ hb)
    have e : f x ∈ xs.map f ↔ g x ∈ xs.map g := by
      constructor
      · intro q
        obtain ⟨a, ha, e⟩ := List.mem_map.mp q
        exact List.mem_map.mpr ⟨a, ha, (h a (List.mem_cons_of_mem _ ha) x List.mem_cons_self).mp e⟩
      · intro q
        obtain ⟨a, ha, e⟩ := List.mem_map.mp q
        exact List.mem_map.mpr ⟨a, ha, (h a (List.mem_cons_of_mem _ ha) x List.mem_cons_self).mpr e⟩
    rw [List.map_cons, List.map_cons, dc, dc, ih]
    by_cases q : f x ∈ xs.map f
    · rw [if_pos q, if_pos (e.mp q)]
    · rw [if_neg q, if_neg fun z => q (e.mpr z)]
theorem relab_map (la lb : Nat) : ∀ l : List Nat, relab la lb l = l.map fun x => if x = lb then la else x
  | [] => rfl
  | x :: xs => by
    rw [relab, relab_map la lb xs, List.map_cons]
    by_cases e : x = lb
    · rw [if_pos e, if_pos (by rw [Nat.beq_eq]; exact e)]
    · rw [if_neg e, if_neg (by rw [Nat.beq_eq]; exact e)]
theorem relab_mem {la lb : Nat} (hne : la ≠ lb) (l : List Nat) (x : Nat) : x ∈ relab la lb l ↔ (x = la ∧ (la ∈ l ∨ lb ∈ l)) ∨ (x ≠ la ∧ x ≠ lb ∧ x ∈ l) := by
  rw [relab_map, List.mem_map]
  constructor
  · rintro ⟨a, ha, rfl⟩
    by_cases e : a = lb
    · rw [if_pos e]; exact .inl ⟨rfl, .inr (e ▸ ha)⟩
    · rw [if_neg e]
      by_cases e2 : a = la
      · exact .inl ⟨e2, .inl (e2 ▸ ha)⟩
      · exact .inr ⟨e2, e, ha⟩
  · rintro (⟨rfl, h | h⟩ | ⟨h1, h2, h3⟩)
    · exact ⟨x, h, by rw [if_neg hne]⟩
    · exact ⟨lb, h, by rw [if_pos rfl]⟩
    · exact ⟨x, h3, by rw [if_neg h2]⟩
theorem dc_relab {la lb : Nat} (hne : la ≠ lb) : ∀ l : List Nat, dc (relab la lb l) + (if la ∈ l ∧ lb ∈ l then 1 else 0) = dc l
  | [] => by simp [relab, dc]
  | x :: xs => by
    have ih := dc_relab hne xs
    rw [relab_map] at ih ⊢
    rw [List.map_cons, dc, dc]
    rw [← relab_map] at ih ⊢
    have m : ∀ y, y ∈ relab la lb xs ↔ _ := relab_mem hne xs
    by_cases e : x = lb
    · subst e
      rw [if_pos rfl]
      have ml : la ∈ relab la x xs ↔ (la ∈ xs ∨ x ∈ xs) := by rw [m]; simp [hne]
      by_cases h1 : la ∈ xs <;> by_cases h2 : x ∈ xs <;> simp [ml, h1, h2, hne] at ih ⊢ <;> omega
    · rw [if_neg e]
      by_cases e2 : x = la
      · subst e2
        have ml : x ∈ relab x lb xs ↔ (x ∈ xs ∨ lb ∈ xs) := by rw [m]; simp
        have hne' : lb ≠ x := fun z => hne z.symm
        by_cases h1 : x ∈ xs <;> by_cases h2 : lb ∈ xs <;> simp [ml, h1, h2, hne'] at ih ⊢ <;> omega
      · have ml : x ∈ relab la lb xs ↔ x ∈ xs := by rw [m]; simp [e, e2]
        have n1 : la ≠ x := fun z => e2 z.symm
        have n2 : lb ≠ x := fun z => e z.symm
        by_cases h1 : x ∈ xs <;> by_cases h2 : la ∈ xs <;> by_cases h3 : lb ∈ xs <;> simp [ml, h1, h2, h3, n1, n2] at ih ⊢ <;> omega
theorem dc_nodup {α : Type} [DecidableEq α] : ∀ l : List α, l.Nodup → dc l = l.length
  | [], _ => rfl
  | x :: xs, h => by
    obtain ⟨h1, h2⟩ := List.nodup_cons.mp h
    rw [dc, if_neg h1, dc_nodup xs h2, List.length_cons]; omega
theorem dc_one {α : Type} [DecidableEq α] : ∀ l : List α, dc l = 1 ↔ ∃ x, x ∈ l ∧ ∀ y ∈ l, y = x
  | [] => by simp [dc]
  | [x] => by simp [dc]
  | x :: y :: xs => by
    have ih := dc_one (y :: xs)
    have pos : 1 ≤ dc (y :: xs) := by
      clear ih
      induction xs generalizing y with
      | nil => simp [dc]
      | cons z zs ih => rw [dc]; have := ih z; omega
    rw [dc]
    by_cases h : x ∈ y :: xs
    · rw [if_pos h, Nat.zero_add, ih]
      constructor
      · rintro ⟨z, hz, ha⟩
        exact ⟨z, List.mem_cons_of_mem _ hz, fun w hw => by
          rcases List.mem_cons.mp hw with rfl | hw
          · exact ha _ h
          · exact ha _ hw⟩
      · rintro ⟨z, hz, ha⟩
        refine ⟨x, h, fun w hw => ?_⟩
        rw [ha w (List.mem_cons_of_mem _ hw), ha x List.mem_cons_self]
    · rw [if_neg h]
      constructor
      · intro q; omega
      · rintro ⟨z, hz, ha⟩
        have e1 := ha x List.mem_cons_self
        have e2 := ha y (List.mem_cons_of_mem _ List.mem_cons_self)
        exact absurd (by rw [e1, ← e2]; exact List.mem_cons_self) h
end G81
end

section
set_option linter.all false
set_option maxRecDepth 100000
set_option autoImplicit false
namespace G81
def adj (es : List (Nat × Nat)) (u v : Nat) : Prop := (u, v) ∈ es ∨ (v, u) ∈ es
theorem adj_symm {es : List (Nat × Nat)} {u v : Nat} (h : adj es u v) : adj es v u := h.symm
inductive Rch (es : List (Nat × Nat)) : Nat → Nat → Prop
  | refl (u : Nat) : Rch es u u
  | step {u v w : Nat} : Rch es u v → adj es v w → Rch es u w
theorem Rch.trans {es : List (Nat × Nat)} {u v w : Nat} (h : Rch es u v) (h2 : Rch es v w) : Rch es u w := by
  induction h2 with
  | refl => exact h
  | step _ a ih => exact .step ih a
theorem Rch.symm {es : List (Nat × Nat)} {u v : Nat} (h : Rch es u v) : Rch es v u := by
  induction h with
  | refl => exact .refl _
  | step _ a ih => exact (Rch.step (.refl _) (adj_symm a)).trans ih
theorem adj_app {es es2 : List (Nat × Nat)} {u v : Nat} (h : adj es u v) : adj (es ++ es2) u v := h.imp List.mem_append_left' List.mem_append_left'
  where List.mem_append_left' {a : Nat × Nat} {l1 l2 : List (Nat × Nat)} (h : a ∈ l1) : a ∈ l1 ++ l2 := List.mem_append.mpr (.inl h)
theorem Rch.app {es es2 : List (Nat × Nat)} {u v : Nat} (h : Rch es u v) : Rch (es ++ es2) u v := by
  induction h with
  | refl => exact .refl _
  | step _ a ih => exact .step ih (adj_app a)
theorem getN_eq : ∀ (l : List Nat) (i : Nat), getN l i = l.getD i 0
  | [], i => by simp [getN]
  | x :: xs, 0 => by simp [getN]
  | x :: xs, i + 1 => by simp [getN, getN_eq xs i]
theorem getN_at {l : List Nat} {i : Nat} (h : i < l.length) : getN l i = l[i] := by rw [getN_eq]; simp [List.getD, h]
theorem getN_mem {l : List Nat} {i : Nat} (h : i < l.length) : getN l i ∈ l := by rw [getN_at h]; exact List.getElem_mem h
theorem relab_len (la lb : Nat) (l : List Nat) : (relab la lb l).length = l.length := by rw [relab_map, List.length_map]
theorem relab_get {la lb : Nat} {l : List Nat} {i : Nat} (h : i < l.length) : getN (relab la lb l) i = if getN l i = lb then la else getN l i := by
  rw [getN_at (by rw [relab_len]; exact h), getN_at h]
  simp [relab_map]
theorem addRow_len : ∀ (l : List Nat) (a b : Nat), (addRow l a b).length = l.length
  | [], _, _ => rfl
  | r :: rs, 0, b => by simp [addRow]
  | r :: rs, a + 1, b => by simp [addRow, addRow_len rs a b]
theorem addRow_get : ∀ (l : List Nat) (a b i : Nat), i < l.length → getN (addRow l a b) i = if i = a then getN l i ||| (1 <<< b) else getN l i
  | [], _, _, i, h => by simp at h
  | r :: rs, 0, b, 0, _ => by simp [addRow, getN]
  | r :: rs, 0, b, i + 1, _ => by simp [addRow, getN]
  | r :: rs, a + 1, b, 0, _ => by simp [addRow, getN]
  | r :: rs, a + 1, b, i + 1, h => by
    simp only [addRow, getN]
    rw [addRow_get rs a b i (by simpa using h)]
    by_cases e : i = a
    · rw [if_pos e, if_pos (by omega)]
    · rw [if_neg e, if_neg (by omega)]
theorem bit_or (x b v : Nat) : (x ||| (1 <<< b)).testBit v = (x.testBit v || decide (b = v)) := by
  rw [Nat.testBit_or, Nat.one_shiftLeft, Nat.testBit_two_pow]
structure Inv (n : Nat) (es : List (Nat × Nat)) (s : St) : Prop where
  rl : s.rows.length = n
  ll : s.labs.length = n
  bd : ∀ p ∈ es, p.1 < n ∧ p.2 < n
  row : ∀ u v, u < n → ((getN s.rows u).testBit v = true ↔ adj es u v)
  ls : ∀ u v, u < n → v < n → getN s.labs u = getN s.labs v → Rch es u v
  lc : ∀ p ∈ es, getN s.labs p.1 = getN s.labs p.2
  ge : n ≤ dc s.labs + es.length
  red : s.red = true ↔ n < dc s.labs + es.length
theorem tied_row {n a b u v : Nat} {rows : List Nat} (hl : rows.length = n) (hu : u < n) (hab : a ≠ b) : (getN (tied rows a b) u).testBit v = true ↔ ((getN rows u).testBit v = true ∨ (u = a ∧ v = b) ∨ (u = b ∧ v = a)) := by
  unfold tied
  rw [addRow_get _ _ _ _ (by rw [addRow_len, hl]; exact hu), addRow_get _ _ _ _ (by rw [hl]; exact hu)]
  by_cases e1 : u = b
  · have e2 : u ≠ a := fun z => hab (z.symm.trans e1)
    rw [if_pos e1, if_neg e2, bit_or]
    simp only [Bool.or_eq_true, decide_eq_true_eq]
    constructor
    · rintro (h | h)
      · exact .inl h
      · exact .inr (.inr ⟨e1, h.symm⟩)
    · rintro (h | ⟨h, _⟩ | ⟨_, h⟩)
      · exact .inl h
      · exact absurd h e2
      · exact .inr h.symm
  · rw [if_neg e1]
    by_cases e2 : u = a
    · rw [if_pos e2, bit_or]
      simp only [Bool.or_eq_true, decide_eq_true_eq]
      constructor
      · rintro (h | h)
        · exact .inl h
        · exact .inr (.inl ⟨e2, h.symm⟩)
      · rintro (h | ⟨_, h⟩ | ⟨h, _⟩)
        · exact .inl h
        · exact .inr h.symm
        · exact absurd h e1
    · rw [if_neg e2]
      constructor
      · exact .inl
      · rintro (h | ⟨h, _⟩ | ⟨h, _⟩)
        · exact h
        · exact absurd h e2
        · exact absurd h e1
theorem Inv.step {n : Nat} {es : List (Nat × Nat)} {s : St} (I : Inv n es s) {a b : Nat} (ha : a < n) (hb : b < n) (hab : a ≠ b) : Inv n (es ++ [(a, b)]) (stp s (a, b)) := by
  have hadj : ∀ u v, adj (es ++ [(a, b)]) u v ↔ (adj es u v ∨ (u = a ∧ v = b) ∨ (u = b ∧ v = a)) := fun u v => by
    unfold adj
    simp only [List.mem_append, List.mem_singleton, Prod.mk.injEq]
    constructor
    · rintro ((h | h) | (h | ⟨h1, h2⟩))
      · exact .inl (.inl h)
      · exact .inr (.inl h)
      · exact .inl (.inr h)
      · exact .inr (.inr ⟨h2, h1⟩)
    · rintro ((h | h) | h | ⟨h1, h2⟩)
      · exact .inl (.inl h)
      · exact .inr (.inl h)
      · exact .inl (.inr h)
      · exact .inr (.inr ⟨h2, h1⟩)
  have rows : ∀ u v, u < n → ((getN (tied s.rows a b) u).testBit v = true ↔ adj (es ++ [(a, b)]) u v) := fun u v hu => by
    rw [tied_row I.rl hu hab, hadj, I.row u v hu]
  have bd : ∀ p ∈ es ++ [(a, b)], p.1 < n ∧ p.2 < n := fun p hp => by
    rcases List.mem_append.mp hp with hp | hp
    · exact I.bd p hp
    · rw [List.mem_singleton.mp hp]; exact ⟨ha, hb⟩
  have rl : (tied s.rows a b).length = n := by unfold tied; rw [addRow_len, addRow_len]; exact I.rl
  have eab : Rch (es ++ [(a, b)]) a b := .step (.refl _) ((hadj a b).mpr (.inr (.inl ⟨rfl, rfl⟩)))
  by_cases e : getN s.labs a = getN s.labs b
  · have es' : stp s (a, b) = ⟨tied s.rows a b, s.labs, true⟩ := by unfold stp; simp only [if_pos e]
    rw [es']
    refine ⟨rl, I.ll, bd, rows, fun u v hu hv h => (I.ls u v hu hv h).app, fun p hp => ?_, ?_, ?_⟩
    · rcases List.mem_append.mp hp with hp | hp
      · exact I.lc p hp
      · rw [List.mem_singleton.mp hp]; exact e
    · show n ≤ dc s.labs + (es ++ [(a, b)]).length
      rw [List.length_append]; have := I.ge; omega
    · show true = true ↔ n < dc s.labs + (es ++ [(a, b)]).length
      rw [List.length_append, List.length_singleton]
      have := I.ge
      exact ⟨fun _ => by omega, fun _ => rfl⟩
  · have es' : stp s (a, b) = ⟨tied s.rows a b, relab (getN s.labs a) (getN s.labs b) s.labs, s.red⟩ := by unfold stp; simp only [if_neg e]
    have la : a < s.labs.length := by rw [I.ll]; exact ha
    have lb : b < s.labs.length := by rw [I.ll]; exact hb
    have hdc := dc_relab e s.labs
    rw [if_pos ⟨getN_mem la, getN_mem lb⟩] at hdc
    have get : ∀ u, u < n → getN (relab (getN s.labs a) (getN s.labs b) s.labs) u = if getN s.labs u = getN s.labs b then getN s.labs a else getN s.labs u := fun u hu => relab_get (by rw [I.ll]; exact hu)
    rw [es']
    refine ⟨rl, by show (relab _ _ _).length = n; rw [relab_len]; exact I.ll, bd, rows, fun u v hu hv h => ?_, fun p hp => ?_, ?_, ?_⟩
    · have h : getN (relab (getN s.labs a) (getN s.labs b) s.labs) u = getN (relab (getN s.labs a) (getN s.labs b) s.labs) v := h
      rw [get u hu, get v hv] at h
      by_cases e1 : getN s.labs u = getN s.labs b
      · rw [if_pos e1] at h
        by_cases e2 : getN s.labs v = getN s.labs b
        · exact (I.ls u v hu hv (e1.trans e2.symm)).app
        · rw [if_neg e2] at h
          exact ((I.ls u b hu hb e1).app.trans eab.symm).trans (I.ls a v ha hv h).app
      · rw [if_neg e1] at h
        by_cases e2 : getN s.labs v = getN s.labs b
        · rw [if_pos e2] at h
          exact ((I.ls u a hu ha h).app.trans eab).trans (I.ls b v hb hv e2.symm).app
        · rw [if_neg e2] at h
          exact (I.ls u v hu hv h).app
    · show getN (relab _ _ s.labs) p.1 = getN (relab _ _ s.labs) p.2
      rcases List.mem_append.mp hp with hp | hp
      · rw [get _ (I.bd p hp).1, get _ (I.bd p hp).2, I.lc p hp]
      · rw [List.mem_singleton.mp hp]
        show getN (relab _ _ s.labs) a = getN (relab _ _ s.labs) b
        rw [get a ha, get b hb, if_neg e, if_pos rfl]
    · show n ≤ dc (relab _ _ s.labs) + (es ++ [(a, b)]).length
      rw [List.length_append, List.length_singleton]; have := I.ge; omega
    · show s.red = true ↔ n < dc (relab _ _ s.labs) + (es ++ [(a, b)]).length
      rw [List.length_append, List.length_singleton, I.red]
      constructor <;> intro h <;> omega

def st0 (n : Nat) : St := ⟨List.replicate n 0, List.range n, false⟩
theorem getN_range {n u : Nat} (h : u < n) : getN (List.range n) u = u := by rw [getN_at (by simpa using h)]; simp
theorem inv0 (n : Nat) : Inv n [] (st0 n) := by
  refine ⟨by simp [st0], by simp [st0], fun p hp => by simp at hp, fun u v hu => ?_, fun u v hu hv h => ?_, fun p hp => by simp at hp, ?_, ?_⟩
  · show (getN (List.replicate n 0) u).testBit v = true ↔ _
    rw [getN_at (by simpa using hu)]
    simp [adj]
  · have h : getN (List.range n) u = getN (List.range n) v := h
    rw [getN_range hu, getN_range hv] at h
    rw [h]; exact .refl _
  · show n ≤ dc (List.range n) + 0
    rw [dc_nodup _ List.nodup_range, List.length_range]; omega
  · show false = true ↔ n < dc (List.range n) + 0
    rw [dc_nodup _ List.nodup_range, List.length_range]
    constructor
    · intro h; cases h
    · intro h; omega
theorem inv_fold {n : Nat} : ∀ (es2 es1 : List (Nat × Nat)) (s : St), Inv n es1 s → (∀ p ∈ es2, p.1 < n ∧ p.2 < n ∧ p.1 ≠ p.2) → Inv n (es1 ++ es2) (es2.foldl stp s)
  | [], es1, s, I, _ => by simpa using I
  | (a, b) :: es2, es1, s, I, h => by
    obtain ⟨ha, hb, hab⟩ := h (a, b) List.mem_cons_self
    have := inv_fold es2 (es1 ++ [(a, b)]) (stp s (a, b)) (I.step ha hb hab) fun p hp => h p (List.mem_cons_of_mem _ hp)
    simpa using this
theorem rch_labs {n : Nat} {es : List (Nat × Nat)} {s : St} (I : Inv n es s) {u v : Nat} (h : Rch es u v) : getN s.labs u = getN s.labs v := by
  induction h with
  | refl => rfl
  | step _ a ih =>
    rcases a with a | a
    · exact ih.trans (I.lc _ a)
    · exact ih.trans (I.lc _ a).symm
/-- pieces counted by any value that tells them apart -/
theorem pieces {n : Nat} {es : List (Nat × Nat)} {s : St} (I : Inv n es s) {α : Type} [DecidableEq α] (f : Nat → α) (hf : ∀ u v, u < n → v < n → (f u = f v ↔ Rch es u v)) : dc ((List.range n).map f) = dc s.labs := by
  have e : s.labs = (List.range n).map (getN s.labs) := by
    apply List.ext_getElem
    · simp [I.ll]
    · intro i h1 h2
      simp [getN_at h1]
  rw [e]
  refine dc_pat f (getN s.labs) _ fun a ha b hb => ?_
  have ha := List.mem_range.mp ha
  have hb := List.mem_range.mp hb
  rw [hf a b ha hb]
  exact ⟨fun h => rch_labs I h, fun h => I.ls a b ha hb h⟩

/-! ### pruning -/
theorem two64 : ∀ x < 64, two x = true ↔ ∃ i < 6, ∃ j < 6, i ≠ j ∧ x.testBit i = true ∧ x.testBit j = true := by decide +kernel
theorem bit_lt {x i : Nat} (hx : x < 64) (h : x.testBit i = true) : i < 6 := by
  rcases Nat.lt_or_ge i 6 with q | q
  · exact q
  · have : x < 2 ^ i := Nat.lt_of_lt_of_le hx (show 64 ≤ 2 ^ i from Nat.pow_le_pow_right (n := 2) (by omega) q)
    rw [Nat.testBit_lt_two_pow this] at h
    cases h
theorem two_iff {x : Nat} (hx : x < 64) : two x = true ↔ ∃ i j, i ≠ j ∧ x.testBit i = true ∧ x.testBit j = true := by
  rw [two64 x hx]
  constructor
  · rintro ⟨i, _, j, _, h⟩; exact ⟨i, j, h⟩
  · rintro ⟨i, j, h1, h2, h3⟩; exact ⟨i, bit_lt hx h2, j, bit_lt hx h3, h1, h2, h3⟩
theorem bit_one (v c : Nat) : (1 <<< v).testBit c = decide (v = c) := by rw [Nat.one_shiftLeft, Nat.testBit_two_pow]
theorem prune_bit (m : Nat) : ∀ (rows : List Nat) (v c : Nat), (prune m rows v).testBit c = true ↔ ∃ i, c = v + i ∧ i < rows.length ∧ m.testBit c = true ∧ two (getN rows i &&& m) = true
  | [], v, c => by simp [prune]
  | r :: rs, v, c => by
    rw [prune, Nat.testBit_or, Bool.or_eq_true, prune_bit m rs (v + 1) c]
    constructor
    · rintro (⟨i, h1, h2, h3, h4⟩ | h)
      · exact ⟨i + 1, by omega, by simpa using h2, h3, h4⟩
      · by_cases q : (m.testBit v && two (r &&& m)) = true
        · rw [if_pos q, bit_one, decide_eq_true_eq] at h
          subst h
          rw [Bool.and_eq_true] at q
          exact ⟨0, rfl, by simp, q.1, q.2⟩
        · rw [if_neg q] at h
          simp at h
    · rintro ⟨i, h1, h2, h3, h4⟩
      cases i with
      | zero =>
        have e : c = v := h1
        subst e
        refine .inr ?_
        have q : (m.testBit c && two (r &&& m)) = true := by rw [Bool.and_eq_true]; exact ⟨h3, h4⟩
        rw [if_pos q, bit_one]; simp
      | succ i => exact .inl ⟨i, by omega, by simpa using h2, h3, h4⟩
def fl (n m : Nat) : List Nat := (List.range n).filter m.testBit
theorem mem_fl {n m v : Nat} : v ∈ fl n m ↔ v < n ∧ m.testBit v = true := by unfold fl; rw [List.mem_filter, List.mem_range]
theorem two_len {α : Type} : ∀ {l : List α}, l.Nodup → (1 < l.length ↔ ∃ i j, i ≠ j ∧ i ∈ l ∧ j ∈ l)
  | [], _ => by simp
  | [x], _ => by
    simp only [List.length_singleton, Nat.lt_irrefl, List.mem_singleton, false_iff]
    rintro ⟨i, j, h, rfl, rfl⟩
    exact h rfl
  | x :: y :: l, h => by
    simp only [List.length_cons]
    refine ⟨fun _ => ⟨x, y, fun e => ?_, List.mem_cons_self, List.mem_cons_of_mem _ List.mem_cons_self⟩, fun _ => by omega⟩
    subst e
    exact (List.nodup_cons.mp h).1 List.mem_cons_self
/-- a turn of pruning -/
def F (near : Nat → List Nat) (K : List Nat) : List Nat := K.filter fun c => decide (1 < ((near c).filter fun o => decide (o ∈ K)).length)
theorem F_fl {n : Nat} (hn : n ≤ 6) {es : List (Nat × Nat)} {s : St} (I : Inv n es s) {near : Nat → List Nat} (nd : ∀ c, (near c).Nodup) (nm : ∀ c v, c < n → (v ∈ near c ↔ adj es c v)) (m : Nat) (hm : m < 2 ^ n) : F near (fl n m) = fl n (prune m s.rows 0) := by
  unfold F
  rw [fl, List.filter_filter]
  unfold fl
  refine List.filter_congr fun c hc => ?_
  have hc := List.mem_range.mp hc
  have h64 : getN s.rows c &&& m < 64 := Nat.lt_of_le_of_lt Nat.and_le_right (Nat.lt_of_lt_of_le hm (show 2 ^ n ≤ 64 from Nat.pow_le_pow_right (n := 2) (by omega) hn))
  rw [Bool.eq_iff_iff, Bool.and_eq_true, decide_eq_true_eq, prune_bit, two_len ((nd c).filter _)]
  constructor
  · rintro ⟨⟨i, j, hne, hi, hj⟩, hmc⟩
    rw [List.mem_filter, decide_eq_true_eq] at hi hj
    have mi := (mem_fl (n := n) (m := m)).mp hi.2
    have mj := (mem_fl (n := n) (m := m)).mp hj.2
    refine ⟨c, by omega, by rw [I.rl]; exact hc, hmc, (two_iff h64).mpr ⟨i, j, hne, ?_, ?_⟩⟩
    · rw [Nat.testBit_and, Bool.and_eq_true]; exact ⟨(I.row c i hc).mpr ((nm c i hc).mp hi.1), mi.2⟩
    · rw [Nat.testBit_and, Bool.and_eq_true]; exact ⟨(I.row c j hc).mpr ((nm c j hc).mp hj.1), mj.2⟩
  · rintro ⟨i0, e, _, hmc, ht⟩
    have e : c = i0 := by omega
    subst e
    obtain ⟨i, j, hne, hi, hj⟩ := (two_iff h64).mp ht
    rw [Nat.testBit_and, Bool.and_eq_true] at hi hj
    have bnd : ∀ v, m.testBit v = true → v < n := fun v hv => by
      rcases Nat.lt_or_ge v n with q | q
      · exact q
      · rw [Nat.testBit_lt_two_pow (Nat.lt_of_lt_of_le hm (Nat.pow_le_pow_right (by omega) q))] at hv
        cases hv
    refine ⟨⟨i, j, hne, ?_, ?_⟩, hmc⟩
    · rw [List.mem_filter, decide_eq_true_eq]
      exact ⟨(nm c i hc).mpr ((I.row c i hc).mp hi.1), (mem_fl (n := n) (m := m)).mpr ⟨bnd i hi.2, hi.2⟩⟩
    · rw [List.mem_filter, decide_eq_true_eq]
      exact ⟨(nm c j hc).mpr ((I.row c j hc).mp hj.1), (mem_fl (n := n) (m := m)).mpr ⟨bnd j hj.2, hj.2⟩⟩
theorem prune_lt {n m : Nat} {rows : List Nat} (h : rows.length = n) : prune m rows 0 < 2 ^ n := by
  refine Nat.lt_pow_two_of_testBit _ fun i hi => ?_
  cases q : (prune m rows 0).testBit i with
  | false => rfl
  | true =>
    obtain ⟨j, e, h2, _⟩ := (prune_bit m rows 0 i).mp q
    omega
/-- the loop of pruning -/
def keptL (near : Nat → List Nat) : Nat → List Nat → List Nat → Option (List Nat)
  | 0, _, _ => none
  | k + 1, K, L => if K = L then some K else keptL near k (F near K) K
theorem kept_run {n : Nat} (h0 : 0 < n) (hn : n ≤ 6) {es : List (Nat × Nat)} {s : St} (I : Inv n es s) {near : Nat → List Nat} (nd : ∀ c, (near c).Nodup) (nm : ∀ c v, c < n → (v ∈ near c ↔ adj es c v)) (hl : leaf n s.rows s.red = true) :
    ∃ K, (∀ f, keptL near (f + 6) (List.range n) [] = some K) ∧ F near K = K ∧ K.Sublist (List.range n) ∧ (K = [] ↔ s.red = false) := by
  unfold leaf at hl
  rw [forceN_eq, forceN_eq, forceN_eq, Bool.and_eq_true] at hl
  obtain ⟨hfix, hz⟩ := hl
  have hfix := Nat.eq_of_beq_eq_true hfix
  have f0 : List.range n = fl n (2 ^ n - 1) := by
    unfold fl
    rw [List.filter_eq_self.mpr fun v hv => ?_]
    have := List.mem_range.mp hv
    rw [Nat.testBit_two_pow_sub_one]; simpa using this
  have step : ∀ m, m < 2 ^ n → F near (fl n m) = fl n (prune m s.rows 0) := fun m hm => F_fl hn I nd nm m hm
  generalize e1 : prune (2 ^ n - 1) s.rows 0 = m1 at hfix hz
  generalize e2 : prune m1 s.rows 0 = m2 at hfix hz
  generalize e3 : prune m2 s.rows 0 = m3 at hfix hz
  have l0 : 2 ^ n - 1 < 2 ^ n := by have : 0 < 2 ^ n := Nat.two_pow_pos n; omega
  have l1 : m1 < 2 ^ n := by rw [← e1]; exact prune_lt I.rl
  have l2 : m2 < 2 ^ n := by rw [← e2]; exact prune_lt I.rl
  have l3 : m3 < 2 ^ n := by rw [← e3]; exact prune_lt I.rl
  have s0 : F near (fl n (2 ^ n - 1)) = fl n m1 := by rw [step _ l0, e1]
  have s1 : F near (fl n m1) = fl n m2 := by rw [step _ l1, e2]
  have s2 : F near (fl n m2) = fl n m3 := by rw [step _ l2, e3]
  have s3 : F near (fl n m3) = fl n m3 := by rw [step _ l3, hfix]
  refine ⟨fl n m3, fun f => ?_, s3, List.filter_sublist, ?_⟩
  · rw [f0]
    have ne : fl n (2 ^ n - 1) ≠ [] := by
      rw [← f0]
      intro z
      have := congrArg List.length z
      rw [List.length_range] at this
      simp at this
      omega
    show keptL near (f + 5 + 1) _ _ = _
    rw [keptL, if_neg ne, s0]
    show keptL near (f + 4 + 1) _ _ = _
    rw [keptL]
    by_cases q1 : fl n m1 = fl n (2 ^ n - 1)
    · rw [if_pos q1]
      have a1 : fl n m2 = fl n m1 := by rw [← s1, q1, s0, q1]
      have a2 : fl n m3 = fl n m2 := by rw [← s2, a1, s1, a1]
      rw [a2, a1]
    · rw [if_neg q1, s1]
      show keptL near (f + 3 + 1) _ _ = _
      rw [keptL]
      by_cases q2 : fl n m2 = fl n m1
      · rw [if_pos q2]
        have a2 : fl n m3 = fl n m2 := by rw [← s2, q2, s1, q2]
        rw [a2]
      · rw [if_neg q2, s2]
        show keptL near (f + 2 + 1) _ _ = _
        rw [keptL]
        by_cases q3 : fl n m3 = fl n m2
        · rw [if_pos q3]
        · rw [if_neg q3, s3]
          show keptL near (f + 1 + 1) _ _ = _
          rw [keptL, if_pos rfl]
  · have hz : (Nat.beq m3 0) = !s.red := by simpa using hz
    have z1 : fl n m3 = [] ↔ m3 = 0 := by
      constructor
      · intro h
        apply Nat.eq_of_testBit_eq
        intro i
        rw [Nat.zero_testBit]
        cases q : m3.testBit i with
        | false => rfl
        | true =>
          have : i < n := by
            rcases Nat.lt_or_ge i n with z | z
            · exact z
            · rw [Nat.testBit_lt_two_pow (Nat.lt_of_lt_of_le l3 (Nat.pow_le_pow_right (by omega) z))] at q
              cases q
          have := (mem_fl (n := n) (m := m3)).mpr ⟨this, q⟩
          rw [h] at this
          cases this
      · rintro rfl
        unfold fl
        rw [List.filter_eq_nil_iff]
        intro a _
        simp
    rw [z1]
    cases r : s.red with
    | true =>
      rw [r] at hz
      constructor
      · intro h; rw [h] at hz; simp at hz
      · intro h; cases h
    | false =>
      rw [r] at hz
      exact ⟨fun _ => rfl, fun _ => Nat.eq_of_beq_eq_true (by simpa using hz)⟩
end G81
end

section
set_option linter.all false
set_option maxRecDepth 100000
set_option autoImplicit false
namespace G81
theorem nodup_sub : ∀ (l D : List Nat), l.Nodup → (∀ v ∈ l, v ∈ D) → l.length ≤ D.length
  | [], _, _, _ => Nat.zero_le _
  | x :: l, D, h, hs => by
    obtain ⟨h1, h2⟩ := List.nodup_cons.mp h
    have hx : x ∈ D := hs x List.mem_cons_self
    have ih := nodup_sub l (D.erase x) h2 fun y hy => (List.mem_erase_of_ne fun (e : y = x) => h1 (by rw [← e]; exact hy)).mpr (hs y (List.mem_cons_of_mem _ hy))
    have e := List.length_erase_of_mem hx
    have hp : 0 < D.length := List.length_pos_of_mem hx
    rw [List.length_cons]
    omega
theorem nodup_le {n : Nat} {l : List Nat} (h : l.Nodup) (hs : ∀ v ∈ l, v < n) : l.length ≤ n := by
  have := nodup_sub l (List.range n) h fun v hv => List.mem_range.mpr (hs v hv)
  rwa [List.length_range] at this
/-- a copy's neighbours not yet found, put behind -/
def add1 (near : Nat → List Nat) (f : List Nat) (h : Nat) : List Nat := f ++ (near h).filter fun o => decide (o ∉ f)
def turnP (near : Nat → List Nat) (snap f : List Nat) : List Nat := snap.foldl (add1 near) f
def pieceF (near : Nat → List Nat) : Nat → List Nat → List Nat
  | 0, f => f
  | k + 1, f => pieceF near k (turnP near f f)
structure Sound (n : Nat) (es : List (Nat × Nat)) (c : Nat) (f : List Nat) : Prop where
  nd : f.Nodup
  lt : ∀ v ∈ f, v < n
  rc : ∀ v ∈ f, Rch es c v
section
variable {n : Nat} {es : List (Nat × Nat)} {near : Nat → List Nat} {c : Nat}
theorem add1_sound (hb : ∀ p ∈ es, p.1 < n ∧ p.2 < n) (nd : ∀ c, (near c).Nodup) (nm : ∀ c v, c < n → (v ∈ near c ↔ adj es c v)) {f : List Nat} (S : Sound n es c f) {h : Nat} (hh : h ∈ f) : Sound n es c (add1 near f h) := by
  have hn := S.lt h hh
  refine ⟨?_, fun v hv => ?_, fun v hv => ?_⟩
  · unfold add1
    rw [List.nodup_append]
    refine ⟨S.nd, (nd h).filter _, fun a ha b hb e => ?_⟩
    subst e
    have := (List.mem_filter.mp hb).2
    rw [decide_eq_true_eq] at this
    exact this ha
  · rcases List.mem_append.mp hv with hv | hv
    · exact S.lt v hv
    · have a := (nm h v hn).mp (List.mem_filter.mp hv).1
      rcases a with a | a
      · exact (hb _ a).2
      · exact (hb _ a).1
  · rcases List.mem_append.mp hv with hv | hv
    · exact S.rc v hv
    · exact .step (S.rc h hh) ((nm h v hn).mp (List.mem_filter.mp hv).1)
theorem add1_sub {f : List Nat} {h v : Nat} (hv : v ∈ f) : v ∈ add1 near f h := List.mem_append.mpr (.inl hv)
theorem add1_near {f : List Nat} {h v : Nat} (hv : v ∈ near h) : v ∈ add1 near f h := by
  unfold add1
  by_cases e : v ∈ f
  · exact List.mem_append.mpr (.inl e)
  · exact List.mem_append.mpr (.inr (List.mem_filter.mpr ⟨hv, by rw [decide_eq_true_eq]; exact e⟩))
theorem turn_pre : ∀ (snap f : List Nat), ∃ e, turnP near snap f = f ++ e
  | [], f => ⟨[], by simp [turnP]⟩
  | h :: snap, f => by
    obtain ⟨e, he⟩ := turn_pre snap (add1 near f h)
    refine ⟨(near h).filter (fun o => decide (o ∉ f)) ++ e, ?_⟩
    show turnP near snap (add1 near f h) = _
    rw [he, add1, List.append_assoc]
theorem turn_ok (hb : ∀ p ∈ es, p.1 < n ∧ p.2 < n) (nd : ∀ c, (near c).Nodup) (nm : ∀ c v, c < n → (v ∈ near c ↔ adj es c v)) : ∀ (snap f : List Nat), Sound n es c f → (∀ v ∈ snap, v ∈ f) → Sound n es c (turnP near snap f) ∧ (∀ v ∈ f, v ∈ turnP near snap f) ∧ ∀ v ∈ snap, ∀ w ∈ near v, w ∈ turnP near snap f
  | [], f, S, _ => ⟨S, fun _ h => h, fun v h => by cases h⟩
  | h :: snap, f, S, hs => by
    obtain ⟨a, b, d⟩ := turn_ok hb nd nm snap (add1 near f h) (add1_sound hb nd nm S (hs h List.mem_cons_self)) fun v hv => add1_sub (hs v (List.mem_cons_of_mem _ hv))
    refine ⟨a, fun v hv => b v (add1_sub hv), fun v hv w hw => ?_⟩
    rcases List.mem_cons.mp hv with rfl | hv
    · exact b w (add1_near hw)
    · exact d v hv w hw
theorem piece_len (hb : ∀ p ∈ es, p.1 < n ∧ p.2 < n) (nd : ∀ c, (near c).Nodup) (nm : ∀ c v, c < n → (v ∈ near c ↔ adj es c v)) : ∀ (k : Nat) (f : List Nat), Sound n es c f → Sound n es c (pieceF near k f) ∧ (∀ v ∈ f, v ∈ pieceF near k f) ∧ (turnP near (pieceF near k f) (pieceF near k f) = pieceF near k f ∨ f.length + k ≤ (pieceF near k f).length)
  | 0, f, S => ⟨S, fun _ h => h, .inr (Nat.le_refl _)⟩
  | k + 1, f, S => by
    obtain ⟨a, b, d⟩ := turn_ok hb nd nm f f S fun _ h => h
    obtain ⟨a2, b2, d2⟩ := piece_len hb nd nm k (turnP near f f) a
    refine ⟨a2, fun v hv => b2 v (b v hv), ?_⟩
    show turnP near (pieceF near k (turnP near f f)) _ = _ ∨ _ ≤ (pieceF near k (turnP near f f)).length
    rcases d2 with d2 | d2
    · exact .inl d2
    · obtain ⟨e, he⟩ := turn_pre (near := near) f f
      cases e with
      | nil =>
        rw [List.append_nil] at he
        have : ∀ j, pieceF near j (turnP near f f) = f := fun j => by
          induction j with
          | zero => exact he
          | succ j ih => rw [pieceF, he]; rw [he] at ih; rw [he]; exact ih
        left
        have e1 : pieceF near (k + 1) f = f := this k
        rw [this k, e1, he]
      | cons x e =>
        right
        have : (turnP near f f).length = f.length + (e.length + 1) := by rw [he]; simp
        omega
/-- a piece: all that are reached -/
theorem piece_mem (hn : n ≤ 6) (hb : ∀ p ∈ es, p.1 < n ∧ p.2 < n) (nd : ∀ c, (near c).Nodup) (nm : ∀ c v, c < n → (v ∈ near c ↔ adj es c v)) (hc : c < n) : (∀ v, v ∈ pieceF near 6 [c] ↔ Rch es c v) ∧ (pieceF near 6 [c]).Nodup := by
  have S0 : Sound n es c [c] := ⟨by simp, fun v hv => by rw [List.mem_singleton.mp hv]; exact hc, fun v hv => by rw [List.mem_singleton.mp hv]; exact .refl _⟩
  obtain ⟨S, hsub, h⟩ := piece_len hb nd nm 6 [c] S0
  have hlen := nodup_le S.nd S.lt
  have fixd : turnP near (pieceF near 6 [c]) (pieceF near 6 [c]) = pieceF near 6 [c] := by
    rcases h with h | h
    · exact h
    · simp at h; omega
  obtain ⟨_, _, cl⟩ := turn_ok hb nd nm _ _ S fun _ h => h
  rw [fixd] at cl
  refine ⟨fun v => ⟨S.rc v, fun r => ?_⟩, S.nd⟩
  induction r with
  | refl => exact hsub _ (by simp)
  | step r a ih => exact cl _ ih _ ((nm _ _ (S.lt _ ih)).mpr a)
/-- all that are reached, by a stack -/
def reachL (near : Nat → List Nat) : Nat → List Nat → List Nat → Option (List Nat)
  | 0, _, _ => none
  | k + 1, f, w => match w.getLast? with
    | none => some f
    | some h => reachL near k (add1 near f h) (w.dropLast ++ (near h).filter fun o => decide (o ∉ f))
theorem reach_ok (hb : ∀ p ∈ es, p.1 < n ∧ p.2 < n) (nd : ∀ c, (near c).Nodup) (nm : ∀ c v, c < n → (v ∈ near c ↔ adj es c v)) : ∀ (k : Nat) (f w : List Nat), Sound n es c f → (∀ v ∈ w, v ∈ f) → (∀ v ∈ f, v ∉ w → ∀ u ∈ near v, u ∈ f) → w.length + 2 * (n - f.length) < k →
    ∃ r, reachL near k f w = some r ∧ Sound n es c r ∧ (∀ v ∈ f, v ∈ r) ∧ ∀ v ∈ r, ∀ u ∈ near v, u ∈ r
  | 0, f, w, _, _, _, h => by omega
  | k + 1, f, w, S, hw, hcl, hk => by
    rw [reachL]
    cases e : w.getLast? with
    | none =>
      have : w = [] := List.getLast?_eq_none_iff.mp e
      subst this
      exact ⟨f, rfl, S, fun _ h => h, fun v hv u hu => hcl v hv (by simp) u hu⟩
    | some h =>
      have e2 : w = w.dropLast ++ [h] := by
        obtain ⟨ys, rfl⟩ := List.getLast?_eq_some_iff.mp e
        rw [List.dropLast_concat]
      have hh : h ∈ f := hw h (List.mem_of_getLast? e)
      have S' := add1_sound hb nd nm S hh
      have len1 : (add1 near f h).length = f.length + ((near h).filter fun o => decide (o ∉ f)).length := by unfold add1; rw [List.length_append]
      have len2 : w.length = w.dropLast.length + 1 := by rw [e2]; simp
      have le1 := nodup_le S'.nd S'.lt
      have hw' : ∀ v ∈ w.dropLast ++ (near h).filter (fun o => decide (o ∉ f)), v ∈ add1 near f h := fun v hv => by
        rcases List.mem_append.mp hv with hv | hv
        · exact add1_sub (hw v (by rw [e2]; exact List.mem_append.mpr (.inl hv)))
        · exact List.mem_append.mpr (.inr hv)
      have hcl' : ∀ v ∈ add1 near f h, v ∉ w.dropLast ++ (near h).filter (fun o => decide (o ∉ f)) → ∀ u ∈ near v, u ∈ add1 near f h := fun v hv hn u hu => by
        rcases List.mem_append.mp hv with hv | hv
        · by_cases evh : v = h
          · subst evh; exact add1_near hu
          · refine add1_sub (hcl v hv (fun z => ?_) u hu)
            rw [e2] at z
            rcases List.mem_append.mp z with z | z
            · exact hn (List.mem_append.mpr (.inl z))
            · exact evh (List.mem_singleton.mp z)
        · exact absurd (List.mem_append.mpr (.inr hv)) hn
      obtain ⟨r, h1, h2, h3, h4⟩ := reach_ok hb nd nm k (add1 near f h) (w.dropLast ++ (near h).filter fun o => decide (o ∉ f)) S' hw' hcl' (by
        rw [List.length_append, len1]
        rw [len1] at le1
        omega)
      exact ⟨r, h1, h2, fun v hv => h3 v (add1_sub hv), h4⟩
theorem reach_run (hn : n ≤ 6) (h0 : 0 < n) (hb : ∀ p ∈ es, p.1 < n ∧ p.2 < n) (nd : ∀ c, (near c).Nodup) (nm : ∀ c v, c < n → (v ∈ near c ↔ adj es c v)) : ∃ r, (∀ f, reachL near (f + 20) [0] [0] = some r) ∧ r.Nodup ∧ (∀ v ∈ r, v < n) ∧ ∀ v, v ∈ r ↔ Rch es 0 v := by
  have S0 : Sound n es 0 [0] := ⟨by simp, fun v hv => by rw [List.mem_singleton.mp hv]; exact h0, fun v hv => by rw [List.mem_singleton.mp hv]; exact .refl _⟩
  have run : ∀ f, ∃ r, reachL near (f + 20) [0] [0] = some r ∧ Sound n es 0 r ∧ (∀ v ∈ [0], v ∈ r) ∧ ∀ v ∈ r, ∀ u ∈ near v, u ∈ r := fun f => reach_ok hb nd nm (f + 20) [0] [0] S0 (fun _ h => h) (fun v hv hn => absurd hv hn) (by simp; omega)
  have mono : ∀ k f w r, reachL near k f w = some r → reachL near (k + 1) f w = some r := by
    intro k
    induction k with
    | zero => intro f w r h; cases h
    | succ k ih =>
      intro f w r h
      rw [reachL] at h ⊢
      cases e : w.getLast? with
      | none => rw [e] at h; exact h
      | some x => rw [e] at h; exact ih _ _ _ h
  obtain ⟨r, h1, S, h3, h4⟩ := run 0
  refine ⟨r, fun f => ?_, S.nd, S.lt, fun v => ⟨S.rc v, fun q => ?_⟩⟩
  · induction f with
    | zero => exact h1
    | succ f ih => rw [show f + 1 + 20 = f + 20 + 1 from by omega]; exact mono _ _ _ _ ih
  · induction q with
    | refl => exact h3 0 (by simp)
    | step _ a ih => exact h4 _ ih _ ((nm _ _ (S.lt _ ih)).mpr a)
end
end G81
end

section
set_option linter.all false
set_option maxRecDepth 100000
set_option autoImplicit false
namespace G81
def ahead (p : List Nat) : List Nat := (p.drop (p.length - 2)).take (p.length - 1 - (p.length - 2))
def cand (near : Nat → List Nat) (K p : List Nat) (l : Nat) : List Nat := (near l).filter fun c => decide (c ∈ K) && decide (c ∉ ahead p)
def ringL (near : Nat → List Nat) (K : List Nat) : Nat → List Nat → Option (List Nat)
  | 0, _ => none
  | k + 1, p => match p.getLast? with
    | none => none
    | some l => match cand near K p l with
      | [] => none
      | h :: _ => if h ∈ p then some (p.drop (p.findIdx fun z => z == h)) else ringL near K k (p ++ [h])
structure RP (es : List (Nat × Nat)) (K p : List Nat) : Prop where
  ne : p ≠ []
  nd : p.Nodup
  sub : ∀ v ∈ p, v ∈ K
  ch : ∀ (i a b : Nat), p[i]? = some a → p[i + 1]? = some b → adj es a b
structure IsRing (n : Nat) (es : List (Nat × Nat)) (r : List Nat) : Prop where
  len : 3 ≤ r.length
  nd : r.Nodup
  lt : ∀ v ∈ r, v < n
  adj : ∀ (i a : Nat), r[i]? = some a → ∃ b, r[if i = 0 then r.length - 1 else i - 1]? = some b ∧ adj es a b
section
variable {n : Nat} {es : List (Nat × Nat)} {near : Nat → List Nat} {K : List Nat}
theorem ahead_few (p : List Nat) {x y : Nat} (hx : x ∈ ahead p) (hy : y ∈ ahead p) : x = y := by
  unfold ahead at hx hy
  have hl : ((p.drop (p.length - 2)).take (p.length - 1 - (p.length - 2))).length ≤ 1 := by rw [List.length_take]; omega
  generalize (p.drop (p.length - 2)).take (p.length - 1 - (p.length - 2)) = z at hx hy hl
  match z, hl with
  | [], _ => cases hx
  | [w], _ => rw [List.mem_singleton.mp hx, List.mem_singleton.mp hy]
theorem ahead_at {p : List Nat} {j h : Nat} (h1 : p[j]? = some h) (h2 : j + 2 = p.length) : h ∈ ahead p := by
  unfold ahead
  have e : p.length - 2 = j := by omega
  have e2 : p.length - 1 - (p.length - 2) = 1 := by omega
  rw [e2, e]
  have : j < p.length := by omega
  rw [List.drop_eq_getElem_cons this]
  have q : p[j] = h := by
    have := List.getElem?_eq_getElem this
    rw [h1] at this
    exact (Option.some.inj this).symm
  simp [q]
theorem cand_ne (hF : F near K = K) (nd : ∀ c, (near c).Nodup) {p : List Nat} {l : Nat} (hl : l ∈ K) : cand near K p l ≠ [] := by
  have h : l ∈ F near K := by rw [hF]; exact hl
  unfold F at h
  have h2 := (List.mem_filter.mp h).2
  rw [decide_eq_true_eq, two_len ((nd l).filter _)] at h2
  obtain ⟨i, j, hne, hi, hj⟩ := h2
  rw [List.mem_filter, decide_eq_true_eq] at hi hj
  intro z
  unfold cand at z
  rw [List.filter_eq_nil_iff] at z
  by_cases ai : i ∈ ahead p
  · by_cases aj : j ∈ ahead p
    · exact hne (ahead_few p ai aj)
    · exact z j hj.1 (by rw [Bool.and_eq_true, decide_eq_true_eq, decide_eq_true_eq]; exact ⟨hj.2, aj⟩)
  · exact z i hi.1 (by rw [Bool.and_eq_true, decide_eq_true_eq, decide_eq_true_eq]; exact ⟨hi.2, ai⟩)
theorem ring_go (hb : ∀ p ∈ es, p.1 < n ∧ p.2 < n ∧ p.1 ≠ p.2) (nd : ∀ c, (near c).Nodup) (nm : ∀ c v, c < n → (v ∈ near c ↔ adj es c v)) (hF : F near K = K) (hK : ∀ v ∈ K, v < n) : ∀ (k : Nat) (p : List Nat), RP es K p → n < k + p.length →
    ∃ r, ringL near K k p = some r ∧ IsRing n es r
  | 0, p, R, hk => by
    have := nodup_le R.nd fun v hv => hK v (R.sub v hv)
    omega
  | k + 1, p, R, hk => by
    rw [ringL]
    cases e : p.getLast? with
    | none => exact absurd (List.getLast?_eq_none_iff.mp e) R.ne
    | some l =>
      dsimp only
      have hl : l ∈ p := List.mem_of_getLast? e
      have hlK := R.sub l hl
      have hlen : 0 < p.length := List.length_pos_of_mem hl
      have lastAt : p[p.length - 1]? = some l := by rw [← List.getLast?_eq_getElem?]; exact e
      cases e2 : cand near K p l with
      | nil => exact absurd e2 (cand_ne hF nd hlK)
      | cons h t =>
        have hh : h ∈ cand near K p l := by rw [e2]; exact List.mem_cons_self
        unfold cand at hh
        rw [List.mem_filter, Bool.and_eq_true, decide_eq_true_eq, decide_eq_true_eq] at hh
        obtain ⟨hn, hhK, hha⟩ := hh
        have ha : adj es l h := (nm l h (hK l hlK)).mp hn
        have hlh : h ≠ l := fun z => by
          subst z
          rcases ha with ha | ha
          · exact (hb _ ha).2.2 rfl
          · exact (hb _ ha).2.2 rfl
        dsimp only
        by_cases hp : h ∈ p
        · rw [if_pos hp]
          refine ⟨_, rfl, ?_⟩
          have hj : p.findIdx (fun z => z == h) < p.length := List.findIdx_lt_length_of_exists ⟨h, hp, by simp⟩
          have pj : p[p.findIdx (fun z => z == h)]? = some h := by
            rw [List.getElem?_eq_getElem hj]
            have := List.findIdx_getElem (p := fun z => z == h) (xs := p) (w := hj)
            simpa using this
          generalize p.findIdx (fun z => z == h) = j at hj pj
          have j1 : j + 1 ≠ p.length := fun z => by
            have : j = p.length - 1 := by omega
            rw [this, lastAt] at pj
            exact hlh (Option.some.inj pj).symm
          have j2 : j + 2 ≠ p.length := fun z => hha (ahead_at pj z)
          have dl : (p.drop j).length = p.length - j := List.length_drop
          refine ⟨by rw [dl]; omega, R.nd.sublist (List.drop_sublist _ _), fun v hv => hK v (R.sub v (List.mem_of_mem_drop hv)), fun i a hi => ?_⟩
          rw [List.getElem?_drop] at hi
          by_cases hi0 : i = 0
          · subst hi0
            rw [if_pos rfl, dl]
            rw [Nat.add_zero, pj] at hi
            cases hi
            refine ⟨l, ?_, adj_symm ha⟩
            rw [List.getElem?_drop, show j + (p.length - j - 1) = p.length - 1 from by omega]
            exact lastAt
          · rw [if_neg hi0]
            have hlt : j + i < p.length := (List.getElem?_eq_some_iff.mp hi).1
            have : j + (i - 1) < p.length := by omega
            refine ⟨p[j + (i - 1)], ?_, ?_⟩
            · rw [List.getElem?_drop, List.getElem?_eq_getElem this]
            · refine adj_symm (R.ch (j + (i - 1)) _ _ (List.getElem?_eq_getElem this) ?_)
              rw [show j + (i - 1) + 1 = j + i from by omega]
              exact hi
        · rw [if_neg hp]
          refine ring_go hb nd nm hF hK k (p ++ [h]) ⟨by simp, ?_, fun v hv => ?_, fun i a b h1 h2 => ?_⟩ (by rw [List.length_append, List.length_singleton]; omega)
          · rw [List.nodup_append]
            refine ⟨R.nd, by simp, fun a ha b hb e => ?_⟩
            rw [List.mem_singleton.mp hb] at e
            exact hp (e ▸ ha)
          · rcases List.mem_append.mp hv with hv | hv
            · exact R.sub v hv
            · rw [List.mem_singleton.mp hv]; exact hhK
          · have hlt : i + 1 < (p ++ [h]).length := (List.getElem?_eq_some_iff.mp h2).1
            rw [List.length_append, List.length_singleton] at hlt
            rw [List.getElem?_append_left (by omega)] at h1
            by_cases q : i + 1 < p.length
            · rw [List.getElem?_append_left q] at h2
              exact R.ch i a b h1 h2
            · have e3 : i + 1 = p.length := by omega
              rw [List.getElem?_append_right (by omega), e3] at h2
              simp at h2
              subst h2
              have : i = p.length - 1 := by omega
              rw [this, lastAt] at h1
              cases h1
              exact ha
theorem ring_run (hn : n ≤ 6) (hb : ∀ p ∈ es, p.1 < n ∧ p.2 < n ∧ p.1 ≠ p.2) (nd : ∀ c, (near c).Nodup) (nm : ∀ c v, c < n → (v ∈ near c ↔ adj es c v)) (hF : F near K = K) (hK : ∀ v ∈ K, v < n) {x : Nat} (hx : x ∈ K) : ∃ r, (∀ f, ringL near K (f + 6) [x] = some r) ∧ IsRing n es r := by
  have mono : ∀ k p r, ringL near K k p = some r → ringL near K (k + 1) p = some r := by
    intro k
    induction k with
    | zero => intro p r h; cases h
    | succ k ih =>
      intro p r h
      rw [ringL] at h ⊢
      cases e : p.getLast? with
      | none => rw [e] at h; exact h
      | some l =>
        rw [e] at h
        simp only at h ⊢
        cases e2 : cand near K p l with
        | nil => rw [e2] at h; exact h
        | cons c t =>
          rw [e2] at h
          simp only at h ⊢
          by_cases hp : c ∈ p
          · rw [if_pos hp] at h ⊢; exact h
          · rw [if_neg hp] at h ⊢; exact ih _ _ h
  obtain ⟨r, h1, h2⟩ := ring_go hb nd nm hF hK 6 [x] ⟨by simp, by simp, fun v hv => by rw [List.mem_singleton.mp hv]; exact hx, fun i a b h1 h2 => by simp at h2⟩ (by simp; omega)
  refine ⟨r, fun f => ?_, h2⟩
  induction f with
  | zero => exact h1
  | succ f ih => rw [show f + 1 + 6 = f + 6 + 1 from by omega]; exact mono _ _ _ ih
end
end G81
end

section
set_option linter.all false
set_option maxRecDepth 100000
set_option maxHeartbeats 0
set_option autoImplicit false
namespace G81
theorem trie_cons {n a b : Nat} {ps : List (Nat × Nat)} {s : St} (h1 : trie n ps s.rows s.labs s.red = true) (h2 : trie n ps (stp s (a, b)).rows (stp s (a, b)).labs (stp s (a, b)).red = true) : trie n ((a, b) :: ps) s.rows s.labs s.red = true := by
  unfold trie
  rw [Bool.and_eq_true]
  refine ⟨h1, ?_⟩
  rw [forceL_eq, forceN_eq, forceN_eq]
  have h2' : trie n ps (tied s.rows a b) (if getN s.labs a = getN s.labs b then s.labs else relab (getN s.labs a) (getN s.labs b) s.labs) (if getN s.labs a = getN s.labs b then true else s.red) = true := h2
  by_cases e : getN s.labs a = getN s.labs b
  · rw [if_pos e, if_pos e] at h2'
    rw [show Nat.beq (getN s.labs a) (getN s.labs b) = true from by rw [Nat.beq_eq]; exact e]
    exact h2'
  · rw [if_neg e, if_neg e] at h2'
    rw [show Nat.beq (getN s.labs a) (getN s.labs b) = false from by
      cases q : Nat.beq (getN s.labs a) (getN s.labs b) with
      | false => rfl
      | true => exact absurd (Nat.eq_of_beq_eq_true q) e]
    simp only [cond_false, forceL_eq]
    exact h2'
def q1 : Nat × Nat := (0, 1)
def q2 : Nat × Nat := (0, 2)
def q3 : Nat × Nat := (0, 3)
def rest6 : List (Nat × Nat) := (pairs 6).drop 3
def tk (l : List (Nat × Nat)) : Bool := trie 6 rest6 (l.foldl stp (st0 6)).rows (l.foldl stp (st0 6)).labs (l.foldl stp (st0 6)).red
theorem tk_ : tk [] = true := by decide +kernel
theorem tk_1 : tk [q1] = true := by decide +kernel
theorem tk_2 : tk [q2] = true := by decide +kernel
theorem tk_3 : tk [q3] = true := by decide +kernel
theorem tk_12 : tk [q1, q2] = true := by decide +kernel
theorem tk_13 : tk [q1, q3] = true := by decide +kernel
theorem tk_23 : tk [q2, q3] = true := by decide +kernel
theorem tk_123 : tk [q1, q2, q3] = true := by decide +kernel
theorem tr6 : trie 6 (pairs 6) (st0 6).rows (st0 6).labs false = true := by
  have e : pairs 6 = q1 :: q2 :: q3 :: rest6 := by decide +kernel
  rw [e]
  exact trie_cons (s := st0 6) (trie_cons (trie_cons tk_ tk_3) (trie_cons tk_2 tk_23)) (trie_cons (trie_cons tk_1 tk_13) (trie_cons tk_12 tk_123))
theorem tr1 : trie 1 (pairs 1) (st0 1).rows (st0 1).labs false = true := by decide +kernel
theorem tr2 : trie 2 (pairs 2) (st0 2).rows (st0 2).labs false = true := by decide +kernel
theorem tr3 : trie 3 (pairs 3) (st0 3).rows (st0 3).labs false = true := by decide +kernel
theorem tr4 : trie 4 (pairs 4) (st0 4).rows (st0 4).labs false = true := by decide +kernel
theorem tr5 : trie 5 (pairs 5) (st0 5).rows (st0 5).labs false = true := by decide +kernel
theorem tr {n : Nat} (h0 : 0 < n) (h : n ≤ 6) : trie n (pairs n) (st0 n).rows (st0 n).labs (st0 n).red = true := by
  match n, h0, h with
  | 1, _, _ => exact tr1
  | 2, _, _ => exact tr2
  | 3, _, _ => exact tr3
  | 4, _, _ => exact tr4
  | 5, _, _ => exact tr5
  | 6, _, _ => exact tr6
theorem pairs_ok : ∀ n ≤ 6, (pairs n).Nodup ∧ (∀ p ∈ pairs n, p.1 < p.2 ∧ p.2 < n) ∧ (pairs n).length ≤ 15 ∧ (pairs n).Pairwise (fun p q => p.1 < q.1 ∨ (p.1 = q.1 ∧ p.2 ≤ q.2)) := by decide +kernel
end G81
end

section
set_option linter.all false
set_option maxRecDepth 100000
set_option maxHeartbeats 4000000
set_option autoImplicit false
namespace Mc
open PySem
theorem ev_lc_pure {α : Type} {cf : Nat → List T → Store → R T} {hp : Bool} {vs : List Nat} {g : Tg} {it : It} {c : Tx} {e : Ex} {sg : Sg} {S : Store} (xs : List α) (enc : α → T) (gf : α → Option T) (hI : evI cf it sg S = .ok (.its (xs.map enc)) S)
    (hb : ∀ a ∈ xs, ((evG cf g (enc a) (wipe sg vs) S).bnd fun sg1 S3 => (evT cf c sg1 S3).bnd fun k S4 => cond k ((ev cf e sg1 S4).bnd fun x S5 => .ok (some x) S5) (.ok none S4)).calm = .ok (gf a) S) : ev cf (.lc hp vs g it c e) sg S = fin hp S (some (.l (xs.filterMap gf))) := by
  rw [ev, hI, R.bnd_okE]
  show (lcL _ (xs.map enc) S).bnd _ = _
  have key : ∀ ys : List α, (∀ a ∈ ys, a ∈ xs) → lcL (fun t S2 => ((evG cf g t (wipe sg vs) S2).bnd fun sg1 S3 => (evT cf c sg1 S3).bnd fun k S4 => cond k ((ev cf e sg1 S4).bnd fun x S5 => .ok (some x) S5) (.ok none S4)).calm) (ys.map enc) S = .ok (ys.filterMap gf) S := by
    intro ys
    induction ys with
    | nil => intro _; rfl
    | cons a ys ih =>
      intro hy
      rw [List.map_cons, lcL, hb a (hy a List.mem_cons_self), R.bnd_okE, ih fun b hb' => hy b (List.mem_cons_of_mem _ hb'), R.bnd_okE]
      cases e : gf a with
      | none => rw [List.filterMap_cons_none e]; rfl
      | some u => rw [List.filterMap_cons_some e]; rfl
  rw [key xs fun _ h => h, R.bnd_okE]
theorem filterMap_if {α β : Type} (p : α → Bool) (f : α → β) : ∀ l : List α, l.filterMap (fun a => if p a = true then some (f a) else none) = (l.filter p).map f
  | [] => rfl
  | a :: l => by
    by_cases h : p a = true
    · rw [List.filterMap_cons_some (b := f a) (by rw [if_pos h]), List.filter_cons_of_pos h, List.map_cons, filterMap_if p f l]
    · rw [List.filterMap_cons_none (by rw [if_neg h]), List.filter_cons_of_neg h, filterMap_if p f l]
theorem fin_tree (hp : Bool) (S : Store) (ds : List PyData) : fin false S (some (.l (ds.map .d))) = .ok (.d (.list ds)) S := by
  show R.ok (mkLst (ds.map .d)) S = _
  rw [mkLst_map]
/-- a call by trees -/
theorem callM0 {cf : Nat → List T → Store → R T} {f : Nat} {ts : List T} {ds : List PyData} {S S1 S2 S3 : Store} {t : T} {d : PyData} (h1 : frzs (frz deep) ts S = some (ds, S1)) (h2 : cf f (ds.map .d) [] = .ok t S2) (h3 : frz deep t S2 = some (d, S3)) : callM cf 0 f ts S = .ok (.d d) S1 := by
  unfold callM
  rw [if_pos rfl, h1]
  simp only [h2, h3]
theorem run_one {tab : List Fn} {k i : Nat} {f : Fn} {ts : List T} {S S' : Store} {t : T} (ht : tab[i]? = some f) (hl : ts.length = f.pars) (h : evB (callF tab k) f.body (start f.names ts) S = .rt t S') : callF tab (k + 1) i ts S = .ok t S' := by
  rw [callF, ht]
  show runF _ f ts S = _
  rw [runF, if_pos hl, h]
end Mc
namespace L81
open PySem Mc G81
def tieD (p : Nat × Nat) : PyData := .tuple [nI p.1, nI p.2]
def tiesD (es : List (Nat × Nat)) : PyData := .list (es.map tieD)
def webD (n : Nat) (es : List (Nat × Nat)) : PyData := .tuple [nI n, tiesD es]
def natsD (l : List Nat) : PyData := .list (l.map nI)
def lows (es : List (Nat × Nat)) (c : Nat) : List Nat := (es.filter (·.2 == c)).map (·.1)
def highs (es : List (Nat × Nat)) (c : Nat) : List Nat := (es.filter (·.1 == c)).map (·.2)
theorem beq_nI (a b : Nat) : PyData.eqv (nI a) (nI b) = (a == b) := by
  show ((a : Int) == (b : Int)) = (a == b)
  rw [Bool.eq_iff_iff, beq_iff_eq, beq_iff_eq]
  omega
theorem b2_eqN (S : Store) (a b : Nat) : b2 .eq S (.d (nI a)) (.d (nI b)) = some (.v (tB (a == b))) := by
  rw [← beq_nI]; rfl
theorem its_ties (es : List (Nat × Nat)) : (es.map tieD).map T.d = es.map fun e => T.d (tieD e) := by rw [List.map_map]; rfl
theorem lc6_low {cf : Nat → List T → Store → R T} {it : It} {S : Store} (es : List (Nat × Nat)) (c : Nat) (x y a : Option T) (W : T) (hI : evI cf it [some W, some (.d (nI c)), x, y, a] S = .ok (.its (es.map fun e => T.d (tieD e))) S) :
    ev cf (.lc false [3, 4] (.tup (.cons (.nm 3) (.cons (.nm 4) .nil))) it (.val (.b false .eq (.var 4) (.var 1))) (.var 3)) [some W, some (.d (nI c)), x, y, a] S = .ok (.d (natsD (lows es c))) S := by
  rw [ev_lc_pure es (fun e => T.d (tieD e)) (fun e => if (e.2 == c) = true then some (T.d (nI e.1)) else none) hI fun e _ => ?_]
  · rw [filterMap_if (fun e : Nat × Nat => e.2 == c) fun e => T.d (nI e.1)]
    have : (es.filter fun e : Nat × Nat => e.2 == c).map (fun e => T.d (nI e.1)) = (((lows es c).map nI).map T.d) := by unfold lows; simp [List.map_map]
    rw [this]
    exact fin_tree false S _
  · have hg : evG cf (.tup (.cons (.nm 3) (.cons (.nm 4) .nil))) (T.d (tieD e)) (wipe [some W, some (.d (nI c)), x, y, a] [3, 4]) S = .ok [some W, some (.d (nI c)), x, some (.d (nI e.1)), some (.d (nI e.2))] S := rfl
    rw [hg, R.bnd_okE]
    have : evT cf (.val (.b false .eq (.var 4) (.var 1))) [some W, some (.d (nI c)), x, some (.d (nI e.1)), some (.d (nI e.2))] S = .ok (e.2 == c) S := by
      show (fin false S (b2 .eq S (.d (nI e.2)) (.d (nI c)))).bnd _ = _
      rw [b2_eqN]; rfl
    rw [this, R.bnd_okE]
    cases e.2 == c <;> rfl
theorem lc6_high {cf : Nat → List T → Store → R T} {it : It} {S : Store} (es : List (Nat × Nat)) (c : Nat) (x y a : Option T) (W : T) (hI : evI cf it [some W, some (.d (nI c)), x, y, a] S = .ok (.its (es.map fun e => T.d (tieD e))) S) :
    ev cf (.lc false [3, 4] (.tup (.cons (.nm 3) (.cons (.nm 4) .nil))) it (.val (.b false .eq (.var 3) (.var 1))) (.var 4)) [some W, some (.d (nI c)), x, y, a] S = .ok (.d (natsD (highs es c))) S := by
  rw [ev_lc_pure es (fun e => T.d (tieD e)) (fun e => if (e.1 == c) = true then some (T.d (nI e.2)) else none) hI fun e _ => ?_]
  · rw [filterMap_if (fun e : Nat × Nat => e.1 == c) fun e => T.d (nI e.2)]
    have : (es.filter fun e : Nat × Nat => e.1 == c).map (fun e => T.d (nI e.2)) = (((highs es c).map nI).map T.d) := by unfold highs; simp [List.map_map]
    rw [this]
    exact fin_tree false S _
  · have hg : evG cf (.tup (.cons (.nm 3) (.cons (.nm 4) .nil))) (T.d (tieD e)) (wipe [some W, some (.d (nI c)), x, y, a] [3, 4]) S = .ok [some W, some (.d (nI c)), x, some (.d (nI e.1)), some (.d (nI e.2))] S := rfl
    rw [hg, R.bnd_okE]
    have : evT cf (.val (.b false .eq (.var 3) (.var 1))) [some W, some (.d (nI c)), x, some (.d (nI e.1)), some (.d (nI e.2))] S = .ok (e.1 == c) S := by
      show (fin false S (b2 .eq S (.d (nI e.1)) (.d (nI c)))).bnd _ = _
      rw [b2_eqN]; rfl
    rw [this, R.bnd_okE]
    cases e.1 == c <;> rfl
theorem lc19_high {cf : Nat → List T → Store → R T} {it : It} {S : Store} (es : List (Nat × Nat)) (c : Nat) (y a : Option T) (W : T) (hI : evI cf it [some W, some (.d (nI c)), y, a] S = .ok (.its (es.map fun e => T.d (tieD e))) S) :
    ev cf (.lc false [2, 3] (.tup (.cons (.nm 2) (.cons (.nm 3) .nil))) it (.val (.b false .eq (.var 2) (.var 1))) (.var 3)) [some W, some (.d (nI c)), y, a] S = .ok (.d (natsD (highs es c))) S := by
  rw [ev_lc_pure es (fun e => T.d (tieD e)) (fun e => if (e.1 == c) = true then some (T.d (nI e.2)) else none) hI fun e _ => ?_]
  · rw [filterMap_if (fun e : Nat × Nat => e.1 == c) fun e => T.d (nI e.2)]
    have : (es.filter fun e : Nat × Nat => e.1 == c).map (fun e => T.d (nI e.2)) = (((highs es c).map nI).map T.d) := by unfold highs; simp [List.map_map]
    rw [this]
    exact fin_tree false S _
  · have hg : evG cf (.tup (.cons (.nm 2) (.cons (.nm 3) .nil))) (T.d (tieD e)) (wipe [some W, some (.d (nI c)), y, a] [2, 3]) S = .ok [some W, some (.d (nI c)), some (.d (nI e.1)), some (.d (nI e.2))] S := rfl
    rw [hg, R.bnd_okE]
    have : evT cf (.val (.b false .eq (.var 2) (.var 1))) [some W, some (.d (nI c)), some (.d (nI e.1)), some (.d (nI e.2))] S = .ok (e.1 == c) S := by
      show (fin false S (b2 .eq S (.d (nI e.1)) (.d (nI c)))).bnd _ = _
      rw [b2_eqN]; rfl
    rw [this, R.bnd_okE]
    cases e.1 == c <;> rfl
theorem lc19_low {cf : Nat → List T → Store → R T} {it : It} {S : Store} (es : List (Nat × Nat)) (c : Nat) (y a : Option T) (W : T) (hI : evI cf it [some W, some (.d (nI c)), y, a] S = .ok (.its (es.map fun e => T.d (tieD e))) S) :
    ev cf (.lc false [2, 3] (.tup (.cons (.nm 2) (.cons (.nm 3) .nil))) it (.val (.b false .eq (.var 3) (.var 1))) (.var 2)) [some W, some (.d (nI c)), y, a] S = .ok (.d (natsD (lows es c))) S := by
  rw [ev_lc_pure es (fun e => T.d (tieD e)) (fun e => if (e.2 == c) = true then some (T.d (nI e.1)) else none) hI fun e _ => ?_]
  · rw [filterMap_if (fun e : Nat × Nat => e.2 == c) fun e => T.d (nI e.1)]
    have : (es.filter fun e : Nat × Nat => e.2 == c).map (fun e => T.d (nI e.1)) = (((lows es c).map nI).map T.d) := by unfold lows; simp [List.map_map]
    rw [this]
    exact fin_tree false S _
  · have hg : evG cf (.tup (.cons (.nm 2) (.cons (.nm 3) .nil))) (T.d (tieD e)) (wipe [some W, some (.d (nI c)), y, a] [2, 3]) S = .ok [some W, some (.d (nI c)), some (.d (nI e.1)), some (.d (nI e.2))] S := rfl
    rw [hg, R.bnd_okE]
    have : evT cf (.val (.b false .eq (.var 3) (.var 1))) [some W, some (.d (nI c)), some (.d (nI e.1)), some (.d (nI e.2))] S = .ok (e.2 == c) S := by
      show (fin false S (b2 .eq S (.d (nI e.2)) (.d (nI c)))).bnd _ = _
      rw [b2_eqN]; rfl
    rw [this, R.bnd_okE]
    cases e.2 == c <;> rfl
theorem lows_len (es : List (Nat × Nat)) (c : Nat) : (lows es c).length ≤ es.length := by unfold lows; rw [List.length_map]; exact List.length_filter_le _ _
theorem highs_len (es : List (Nat × Nat)) (c : Nat) : (highs es c).length ≤ es.length := by unfold highs; rw [List.length_map]; exact List.length_filter_le _ _
theorem b2_cat (S : Store) (a b : List Nat) (h : a.length + b.length ≤ line) : b2 .add S (.d (natsD a)) (.d (natsD b)) = some (.l (((a ++ b).map nI).map .d)) := by
  show (if ((a.map nI).map T.d).length + ((b.map nI).map T.d).length ≤ line then some (O.l ((a.map nI).map T.d ++ (b.map nI).map T.d)) else none) = _
  rw [if_pos (by simpa using h)]
  simp [List.map_append]
theorem ev_catN {cf : Nat → List T → Store → R T} {x y : Ex} {sg : Sg} {S : Store} {a b : List Nat} (h1 : ev cf x sg S = .ok (.d (natsD a)) S) (h2 : ev cf y sg S = .ok (.d (natsD b)) S) (h : a.length + b.length ≤ line) : ev cf (.b false .add x y) sg S = .ok (.d (natsD (a ++ b))) S := by
  rw [ev, h1, R.bnd_okE, h2, R.bnd_okE, b2_cat S a b h]
  exact fin_tree false S _
theorem ev_sortN {cf : Nat → List T → Store → R T} {x : Ex} {sg : Sg} {S : Store} {l : List Nat} (h1 : ev cf x sg S = .ok (.d (natsD l)) S) : ev cf (.u false .sorted x) sg S = .ok (.d (natsD (sortN l))) S := by
  rw [ev, h1, R.bnd_okE, u1_sortN (l := l) rfl]
  exact fin_tree false S _
def near1 (es : List (Nat × Nat)) (c : Nat) : List Nat := sortN (lows es c ++ highs es c)
theorem f6 (k n c : Nat) (es : List (Nat × Nat)) (S : Store) (he : es.length ≤ 15) : callF tab (k + 1) 6 [.d (webD n es), .d (nI c)] S = .ok (.d (natsD (near1 es c))) S := by
  refine run_one (f := ⟨5, 2, b_6⟩) rfl rfl ?_
  show evB (callF tab k) b_6 [some (.d (webD n es)), some (.d (nI c)), none, none, none] S = _
  unfold b_6
  rw [evB, evS]
  have hI : evI (callF tab k) (.seq (.b false .idx (.var 0) (.lit (.int 1)))) [some (.d (webD n es)), some (.d (nI c)), none, none, none] S = .ok (.its (es.map fun e => T.d (tieD e))) S := by
    rw [← its_ties]; rfl
  have h1 := lc6_low es c none none none (.d (webD n es)) hI
  have h2 := lc6_high es c none none none (.d (webD n es)) hI
  have hl : (lows es c).length + (highs es c).length ≤ line := by have := lows_len es c; have := highs_len es c; unfold line; omega
  rw [ev_catN h1 h2 hl]
  show seqS (.nx [some (.d (webD n es)), some (.d (nI c)), some (.d (natsD (lows es c ++ highs es c))), none, none] S) _ = _
  rw [seqS_nx, evB, evS, ev_sortN (l := lows es c ++ highs es c) rfl]
  rfl
def near2 (es : List (Nat × Nat)) (c : Nat) : List Nat := sortN (highs es c ++ lows es c)
theorem f19 (k c : Nat) (es : List (Nat × Nat)) (S : Store) (he : es.length ≤ 15) : callF tab (k + 1) 19 [.d (tiesD es), .d (nI c)] S = .ok (.d (natsD (near2 es c))) S := by
  refine run_one (f := ⟨4, 2, b_19⟩) rfl rfl ?_
  show evB (callF tab k) b_19 [some (.d (tiesD es)), some (.d (nI c)), none, none] S = _
  unfold b_19
  rw [evB, evS]
  have hI : evI (callF tab k) (.seq (.var 0)) [some (.d (tiesD es)), some (.d (nI c)), none, none] S = .ok (.its (es.map fun e => T.d (tieD e))) S := by
    rw [← its_ties]; rfl
  have h1 := lc19_high es c none none (.d (tiesD es)) hI
  have h2 := lc19_low es c none none (.d (tiesD es)) hI
  have hl : (highs es c).length + (lows es c).length ≤ line := by have := lows_len es c; have := highs_len es c; unfold line; omega
  rw [ev_sortN (ev_catN h1 h2 hl)]
  rfl
end L81
end

section
set_option linter.all false
set_option maxRecDepth 100000
set_option maxHeartbeats 4000000
set_option autoImplicit false
namespace L81
open PySem Mc G81
abbrev tN' (i : Nat) : T := .d (nI i)
def natsT (l : List Nat) : List T := l.map fun i => T.d (nI i)
theorem natsT_eq (l : List Nat) : (l.map nI).map T.d = natsT l := by rw [List.map_map]; rfl
theorem mapO_nats (S : Store) (k : Nat) : ∀ l : List Nat, mapO (snap S (k + 1)) (natsT l) = some (l.map nI)
  | [] => rfl
  | i :: l => by
    show mapO (snap S (k + 1)) (T.d (nI i) :: natsT l) = _
    rw [mapO]
    have e : snap S (k + 1) (T.d (nI i)) = some (nI i) := rfl
    simp only [e, mapO_nats S k l]
    rfl
theorem snap_obj {S : Store} {n : Nat} {l : List Nat} (h : S[n]? = some (.lst (natsT l))) : snap S deep (.obj n) = some (natsD l) := by
  show snap S (11 + 1) (.obj n) = _
  rw [snap]
  simp only [h]
  show (mapO (snap S (10 + 1)) (natsT l)).map PyData.list = _
  rw [mapO_nats]; rfl
theorem snap_d (S : Store) (t : PyData) : snap S deep (.d t) = some t := rfl
theorem eqvAll_nats : ∀ a b : List Nat, PyData.eqvAll (a.map nI) (b.map nI) = decide (a = b)
  | [], [] => by simp [PyData.eqvAll]
  | [], _ :: _ => by simp [PyData.eqvAll]
  | _ :: _, [] => by simp [PyData.eqvAll]
  | x :: a, y :: b => by
    rw [List.map_cons, List.map_cons, PySem.W.eqv_all_cons, beq_nI, eqvAll_nats a b]
    by_cases h : x = y <;> by_cases h2 : a = b <;> simp [h, h2]
theorem eqv_nats (a b : List Nat) : PyData.eqv (natsD a) (natsD b) = decide (a = b) := by
  unfold natsD
  rw [PyData.eqv, eqvAll_nats]
theorem depth_nats (l : List Nat) : (natsD l).depth = 1 := depth_N l
theorem b2_neL {S : Store} {x y : T} {a b : List Nat} (h1 : snap S deep x = some (natsD a)) (h2 : snap S deep y = some (natsD b)) : b2 .ne S x y = some (.v (tB (!decide (a = b)))) := by
  show (cmp2 S x y).map _ = _
  unfold cmp2
  rw [h1, h2]
  simp only [depth_nats]
  rw [if_pos (by decide)]
  show some (O.v (tB (!PyData.eqv (natsD a) (natsD b)))) = _
  rw [eqv_nats]
theorem b2_eqL {S : Store} {x y : T} {a b : List Nat} (h1 : snap S deep x = some (natsD a)) (h2 : snap S deep y = some (natsD b)) : b2 .eq S x y = some (.v (tB (decide (a = b)))) := by
  show (cmp2 S x y).map _ = _
  unfold cmp2
  rw [h1, h2]
  simp only [depth_nats]
  rw [if_pos (by decide)]
  show some (O.v (tB (PyData.eqv (natsD a) (natsD b)))) = _
  rw [eqv_nats]
theorem any_nats (c : Nat) : ∀ l : List Nat, (l.map nI).any (fun z => PyData.eqv z (nI c)) = decide (c ∈ l)
  | [] => by simp
  | x :: l => by
    rw [List.map_cons, List.any_cons, any_nats c l, beq_nI]
    by_cases h : x = c
    · subst h; simp
    · have h' : c ≠ x := fun z => h z.symm
      simp [h, h']
theorem inD_nats {S : Store} {y : T} {c : Nat} {l : List Nat} (h : snap S deep y = some (natsD l)) : inD S (.d (nI c)) y = some (decide (c ∈ l)) := by
  unfold inD
  rw [h, snap_d]
  show (if (nI c).depth ≤ 60 then some ((l.map nI).any fun z => PyData.eqv z (nI c)) else none) = _
  rw [any_nats, if_pos (by simp [nI, PyData.depth])]
theorem b2_in {S : Store} {y : T} {c : Nat} {l : List Nat} (h : snap S deep y = some (natsD l)) : b2 .in_ S (.d (nI c)) y = some (.v (tB (decide (c ∈ l)))) := by
  show (inD S _ y).map _ = _
  rw [inD_nats h]; rfl
theorem b2_nin {S : Store} {y : T} {c : Nat} {l : List Nat} (h : snap S deep y = some (natsD l)) : b2 .nin S (.d (nI c)) y = some (.v (tB (!decide (c ∈ l)))) := by
  show (inD S _ y).map _ = _
  rw [inD_nats h]; rfl
/-- the neighbours, called from anywhere -/
theorem call6 (k n c : Nat) (es : List (Nat × Nat)) (S : Store) (he : es.length ≤ 15) : callM (callF tab (k + 1)) 0 6 [.d (webD n es), .d (nI c)] S = .ok (.d (natsD (near1 es c))) S :=
  callM0 (ds := [webD n es, nI c]) (S2 := []) (S3 := []) (t := .d (natsD (near1 es c))) rfl (f6 k n c es [] he) rfl
theorem call19 (k c : Nat) (es : List (Nat × Nat)) (S : Store) (he : es.length ≤ 15) : callM (callF tab (k + 1)) 0 19 [.d (tiesD es), .d (nI c)] S = .ok (.d (natsD (near2 es c))) S :=
  callM0 (ds := [tiesD es, nI c]) (S2 := []) (S3 := []) (t := .d (natsD (near2 es c))) rfl (f19 k c es [] he) rfl
theorem natsD_map (l : List Nat) : (l.map nI).map T.d = l.map fun i => T.d (nI i) := by rw [List.map_map]; rfl

/-! ### web_reached -/
def rBody : Bx := (.cons (.asg (.nm 3) (.pop (.var 2))) (.cons (.asg (.nm 4) (.lc false [5] (.nm 5) (.seq (.call 0 6 (.cons (.var 0) (.cons (.var 3) .nil)))) (.val (.b false .nin (.var 5) (.var 1))) (.var 5))) (.cons (.exp (.ext (.var 1) (.var 4))) (.cons (.exp (.ext (.var 2) (.var 4))) .nil))))
def rSg (n : Nat) (es : List (Nat × Nat)) (a b : Option T) : Sg := [some (.d (webD n es)), some (.obj 0), some (.obj 1), a, b, none]
theorem r_more (k n h : Nat) (es : List (Nat × Nat)) (f w : List Nat) (a : Option T) (he : es.length ≤ 15) :
    ev (callF tab (k + 1)) (.lc false [5] (.nm 5) (.seq (.call 0 6 (.cons (.var 0) (.cons (.var 3) .nil)))) (.val (.b false .nin (.var 5) (.var 1))) (.var 5)) (rSg n es (some (tN' h)) a) [.lst (natsT f), .lst (natsT w)] =
      .ok (.d (natsD ((near1 es h).filter fun o => decide (o ∉ f)))) [.lst (natsT f), .lst (natsT w)] := by
  have hI : evI (callF tab (k + 1)) (.seq (.call 0 6 (.cons (.var 0) (.cons (.var 3) .nil)))) (rSg n es (some (tN' h)) a) [.lst (natsT f), .lst (natsT w)] = .ok (.its ((near1 es h).map fun i => T.d (nI i))) [.lst (natsT f), .lst (natsT w)] := by
    rw [← natsD_map]
    show (callM (callF tab (k + 1)) 0 6 [.d (webD n es), .d (nI h)] [.lst (natsT f), .lst (natsT w)]).bnd _ = _
    rw [call6 k n h es _ he]
    rfl
  rw [ev_lc_pure (near1 es h) (fun i => T.d (nI i)) (fun i => if decide (i ∉ f) = true then some (T.d (nI i)) else none) hI fun i _ => ?_]
  · rw [filterMap_if (fun i : Nat => decide (i ∉ f)) fun i => T.d (nI i)]
    rw [← natsD_map]
    exact fin_tree false _ _
  · have hg : evG (callF tab (k + 1)) (.nm 5) (T.d (nI i)) (wipe (rSg n es (some (tN' h)) a) [5]) [.lst (natsT f), .lst (natsT w)] = .ok [some (.d (webD n es)), some (.obj 0), some (.obj 1), some (tN' h), a, some (tN' i)] [.lst (natsT f), .lst (natsT w)] := rfl
    rw [hg, R.bnd_okE]
    have : evT (callF tab (k + 1)) (.val (.b false .nin (.var 5) (.var 1))) [some (.d (webD n es)), some (.obj 0), some (.obj 1), some (tN' h), a, some (tN' i)] [.lst (natsT f), .lst (natsT w)] = .ok (!decide (i ∈ f)) [.lst (natsT f), .lst (natsT w)] := by
      show (fin false [.lst (natsT f), .lst (natsT w)] (b2 .nin [.lst (natsT f), .lst (natsT w)] (.d (nI i)) (.obj 0))).bnd _ = _
      rw [b2_nin (l := f) (snap_obj rfl)]; rfl
    rw [this, R.bnd_okE]
    by_cases q : i ∈ f
    · simp [q]; rfl
    · simp [q]; rfl
theorem natsT_len (l : List Nat) : (natsT l).length = l.length := by unfold natsT; rw [List.length_map]
theorem natsT_app (a b : List Nat) : natsT (a ++ b) = natsT a ++ natsT b := by unfold natsT; rw [List.map_append]
theorem insN_len (x : Nat) : ∀ l : List Nat, (insN x l).length = l.length + 1
  | [] => rfl
  | y :: ys => by
    rw [insN]
    split
    · rw [List.length_cons, insN_len x ys, List.length_cons]
    · rfl
theorem sortN_len : ∀ l : List Nat, (sortN l).length = l.length
  | [] => rfl
  | x :: xs => by rw [sortN, insN_len, sortN_len xs, List.length_cons]
theorem near1_len (es : List (Nat × Nat)) (c : Nat) (he : es.length ≤ 15) : (near1 es c).length ≤ 30 := by
  unfold near1
  rw [sortN_len, List.length_append]
  have := lows_len es c
  have := highs_len es c
  omega
theorem pop_last {S : Store} {n : Nat} {w : List Nat} {h : Nat} (e : S[n]? = some (.lst (natsT (w ++ [h])))) : popK (.obj n) S = .ok (tN' h) (S.set n (.lst (natsT w))) := by
  unfold popK
  simp only [e, natsT_len]
  have e2 : (natsT (w ++ [h]))[(w ++ [h]).length - 1]? = some (tN' h) := by
    rw [natsT_app]
    simp [natsT]
  rw [e2]
  show R.ok _ _ = _
  rw [natsT_app]
  show R.ok (norm S (T.d (nI h))) (S.set n (.lst (natsT w ++ [T.d (nI h)]).dropLast)) = _
  rw [List.dropLast_concat]
  rfl
theorem ext_nats {S : Store} {n : Nat} {f m : List Nat} (e : S[n]? = some (.lst (natsT f))) (h : f.length + m.length < line) : extK (.obj n) (.d (natsD m)) S = .ok tN (S.set n (.lst (natsT (f ++ m)))) := by
  unfold extK
  simp only [e]
  have e2 : lstOf S (.d (natsD m)) = some (natsT m) := by rw [← natsT_eq]; rfl
  rw [e2]
  simp only [natsT_len]
  rw [if_pos h, natsT_app]
theorem r_step (k n h : Nat) (es : List (Nat × Nat)) (f w : List Nat) (a b : Option T) (he : es.length ≤ 15) (hf : f.length + 30 < line) (hw : w.length + 30 < line) :
    evB (callF tab (k + 1)) rBody (rSg n es a b) [.lst (natsT f), .lst (natsT (w ++ [h]))] = .nx (rSg n es (some (tN' h)) (some (.d (natsD ((near1 es h).filter fun o => decide (o ∉ f)))))) [.lst (natsT (add1 (near1 es) f h)), .lst (natsT (w ++ (near1 es h).filter fun o => decide (o ∉ f)))] := by
  unfold rBody add1
  have hm : ((near1 es h).filter fun o => decide (o ∉ f)).length ≤ 30 := Nat.le_trans (List.length_filter_le _ _) (near1_len es h he)
  have s1 : evS (callF tab (k + 1)) (.asg (.nm 3) (.pop (.var 2))) (rSg n es a b) [.lst (natsT f), .lst (natsT (w ++ [h]))] = .nx (rSg n es (some (tN' h)) b) [.lst (natsT f), .lst (natsT w)] := by
    show R.s (popK (.obj 1) [.lst (natsT f), .lst (natsT (w ++ [h]))]) _ = _
    rw [pop_last (n := 1) (w := w) (h := h) rfl]; rfl
  have s2 : evS (callF tab (k + 1)) (.asg (.nm 4) (.lc false [5] (.nm 5) (.seq (.call 0 6 (.cons (.var 0) (.cons (.var 3) .nil)))) (.val (.b false .nin (.var 5) (.var 1))) (.var 5))) (rSg n es (some (tN' h)) b) [.lst (natsT f), .lst (natsT w)] =
      .nx (rSg n es (some (tN' h)) (some (.d (natsD ((near1 es h).filter fun o => decide (o ∉ f)))))) [.lst (natsT f), .lst (natsT w)] := by
    rw [evS, r_more k n h es f w b he]; rfl
  generalize (near1 es h).filter (fun o => decide (o ∉ f)) = m at hm s2
  have s3 : evS (callF tab (k + 1)) (.exp (.ext (.var 1) (.var 4))) (rSg n es (some (tN' h)) (some (.d (natsD m)))) [.lst (natsT f), .lst (natsT w)] = .nx (rSg n es (some (tN' h)) (some (.d (natsD m)))) [.lst (natsT (f ++ m)), .lst (natsT w)] := by
    show R.s (extK (.obj 0) (.d (natsD m)) [.lst (natsT f), .lst (natsT w)]) _ = _
    rw [ext_nats (f := f) rfl (by omega)]; rfl
  have s4 : evS (callF tab (k + 1)) (.exp (.ext (.var 2) (.var 4))) (rSg n es (some (tN' h)) (some (.d (natsD m)))) [.lst (natsT (f ++ m)), .lst (natsT w)] = .nx (rSg n es (some (tN' h)) (some (.d (natsD m)))) [.lst (natsT (f ++ m)), .lst (natsT (w ++ m))] := by
    show R.s (extK (.obj 1) (.d (natsD m)) [.lst (natsT (f ++ m)), .lst (natsT w)]) _ = _
    rw [ext_nats (f := w) rfl (by omega)]; rfl
  rw [evB, s1, seqS_nx, evB, s2, seqS_nx, evB, s3, seqS_nx, evB, s4, seqS_nx, evB]
def rTest : Tx := .val (.b false .ne (.var 2) (.lst false .nil))
theorem r_test (k n : Nat) (es : List (Nat × Nat)) (f w : List Nat) (a b : Option T) : evT (callF tab k) rTest (rSg n es a b) [.lst (natsT f), .lst (natsT w)] = .ok (!decide (w = [])) [.lst (natsT f), .lst (natsT w)] := by
  show (fin false [.lst (natsT f), .lst (natsT w)] (b2 .ne [.lst (natsT f), .lst (natsT w)] (.obj 1) (.d (.list [])))).bnd _ = _
  rw [b2_neL (a := w) (b := []) (snap_obj rfl) rfl]; rfl
theorem r_loop (k n : Nat) (es : List (Nat × Nat)) (he : es.length ≤ 15) : ∀ (j : Nat) (f w r : List Nat) (a b : Option T), reachL (near1 es) j f w = some r → f.length + 30 * j < line → w.length + 30 * j < line → ∀ x, ∃ a' b', 
    whN (fun sg S => evT (callF tab (k + 1)) rTest sg S) (fun sg S => evB (callF tab (k + 1)) rBody sg S) (j + x) (rSg n es a b) [.lst (natsT f), .lst (natsT w)] = .nx (rSg n es a' b') [.lst (natsT r), .lst []]
  | 0, f, w, r, a, b, h, _, _, x => by cases h
  | j + 1, f, w, r, a, b, h, hf, hw, x => by
    rw [show j + 1 + x = (j + x) + 1 from by omega, whN]
    simp only [r_test]
    rw [reachL] at h
    cases e : w.getLast? with
    | none =>
      have ew : w = [] := List.getLast?_eq_none_iff.mp e
      subst ew
      rw [e] at h
      cases h
      exact ⟨a, b, rfl⟩
    | some hh =>
      rw [e] at h
      obtain ⟨ys, rfl⟩ := List.getLast?_eq_some_iff.mp e
      rw [List.dropLast_concat] at h
      have ne : decide (ys ++ [hh] = []) = false := by simp
      rw [ne]
      show ∃ a' b', R.s (.ok true _) _ = _
      rw [R.s_okE]
      show ∃ a' b', loopK (evB (callF tab (k + 1)) rBody (rSg n es a b) [.lst (natsT f), .lst (natsT (ys ++ [hh]))]) _ = _
      rw [List.length_append, List.length_singleton] at hw
      rw [r_step k n hh es f ys a b he (by omega) (by omega), loopK_nx]
      have hm : ((near1 es hh).filter fun o => decide (o ∉ f)).length ≤ 30 := Nat.le_trans (List.length_filter_le _ _) (near1_len es hh he)
      exact r_loop k n es he j _ _ r _ _ h (by unfold add1; rw [List.length_append]; omega) (by rw [List.length_append]; omega) x
theorem f7 (k n : Nat) (es : List (Nat × Nat)) (he : es.length ≤ 15) {r : List Nat} (hr : reachL (near1 es) 20 [0] [0] = some r) : callF tab (k + 2) 7 [.d (webD n es)] [] = .ok (.obj 0) [.lst (natsT r), .lst []] := by
  refine run_one (f := ⟨6, 1, b_7⟩) rfl rfl ?_
  show evB (callF tab (k + 1)) b_7 [some (.d (webD n es)), none, none, none, none, none] [] = _
  unfold b_7
  have s1 : evS (callF tab (k + 1)) (.asg (.tup (.cons (.nm 1) (.cons (.nm 2) .nil))) (.tup (.cons (.lst true (.cons (.lit (.int 0)) .nil)) (.cons (.lst true (.cons (.lit (.int 0)) .nil)) .nil)))) [some (.d (webD n es)), none, none, none, none, none] [] = .nx (rSg n es none none) [.lst (natsT [0]), .lst (natsT [0])] := rfl
  rw [evB, s1, seqS_nx, evB, evS]
  obtain ⟨a', b', hl⟩ := r_loop k n es he 20 [0] [0] r none none hr (by unfold line; decide) (by unfold line; decide) 3980
  have hl : whN (fun sg S => evT (callF tab (k + 1)) (.val (.b false .ne (.var 2) (.lst false .nil))) sg S) (fun sg S => evB (callF tab (k + 1)) (.cons (.asg (.nm 3) (.pop (.var 2))) (.cons (.asg (.nm 4) (.lc false [5] (.nm 5) (.seq (.call 0 6 (.cons (.var 0) (.cons (.var 3) .nil)))) (.val (.b false .nin (.var 5) (.var 1))) (.var 5))) (.cons (.exp (.ext (.var 1) (.var 4))) (.cons (.exp (.ext (.var 2) (.var 4))) .nil)))) sg S) FU (rSg n es none none) [.lst (natsT [0]), .lst (natsT [0])] = .nx (rSg n es a' b') [.lst (natsT r), .lst []] := hl
  rw [hl, seqS_nx]
  rfl

/-! ### web_kept -/
def kSg (n : Nat) (es : List (Nat × Nat)) (K L : List Nat) : Sg := [some (.d (webD n es)), some (.d (natsD K)), some (.d (natsD L)), none, none]
def kInner : Ex := .lc false [4] (.nm 4) (.seq (.call 0 6 (.cons (.var 0) (.cons (.var 3) .nil)))) (.val (.b false .in_ (.var 4) (.var 2))) (.var 4)
def kLc : Ex := .lc false [3] (.nm 3) (.seq (.var 2)) (.val (.b false .gt (.u false .len kInner) (.lit (.int 1)))) (.var 3)
theorem k_inner (k n c : Nat) (es : List (Nat × Nat)) (L : List Nat) (x : Option T) (S : Store) (he : es.length ≤ 15) :
    ev (callF tab (k + 1)) kInner [some (.d (webD n es)), x, some (.d (natsD L)), some (tN' c), none] S = .ok (.d (natsD ((near1 es c).filter fun o => decide (o ∈ L)))) S := by
  have hI : evI (callF tab (k + 1)) (.seq (.call 0 6 (.cons (.var 0) (.cons (.var 3) .nil)))) [some (.d (webD n es)), x, some (.d (natsD L)), some (tN' c), none] S = .ok (.its ((near1 es c).map fun i => T.d (nI i))) S := by
    rw [← natsD_map]
    show (callM (callF tab (k + 1)) 0 6 [.d (webD n es), .d (nI c)] S).bnd _ = _
    rw [call6 k n c es _ he]
    rfl
  unfold kInner
  rw [ev_lc_pure (near1 es c) (fun i => T.d (nI i)) (fun i => if decide (i ∈ L) = true then some (T.d (nI i)) else none) hI fun i _ => ?_]
  · rw [filterMap_if (fun i : Nat => decide (i ∈ L)) fun i => T.d (nI i)]
    rw [← natsD_map]
    exact fin_tree false _ _
  · have hg : evG (callF tab (k + 1)) (.nm 4) (T.d (nI i)) (wipe [some (.d (webD n es)), x, some (.d (natsD L)), some (tN' c), none] [4]) S = .ok [some (.d (webD n es)), x, some (.d (natsD L)), some (tN' c), some (tN' i)] S := rfl
    rw [hg, R.bnd_okE]
    have : evT (callF tab (k + 1)) (.val (.b false .in_ (.var 4) (.var 2))) [some (.d (webD n es)), x, some (.d (natsD L)), some (tN' c), some (tN' i)] S = .ok (decide (i ∈ L)) S := by
      show (fin false S (b2 .in_ S (.d (nI i)) (.d (natsD L)))).bnd _ = _
      rw [b2_in (l := L) rfl]; rfl
    rw [this, R.bnd_okE]
    by_cases q : i ∈ L
    · simp [q]; rfl
    · simp [q]; rfl
theorem u1_lenN (S : Store) (l : List Nat) : u1 .len S (.d (natsD l)) = some (.v (tI (l.length : Nat))) := by
  show some (O.v (tI (((l.map nI).map T.d).length : Nat))) = _
  rw [List.length_map, List.length_map]
theorem b2_gtI (S : Store) (a b : Int) : b2 .gt S (tI a) (tI b) = some (.v (tB (decide (b < a)))) := rfl
theorem b2_ltI (S : Store) (a b : Int) : b2 .lt S (tI a) (tI b) = some (.v (tB (decide (a < b)))) := rfl
theorem k_lc (k n : Nat) (es : List (Nat × Nat)) (K L : List Nat) (S : Store) (he : es.length ≤ 15) :
    ev (callF tab (k + 1)) kLc (kSg n es K L) S = .ok (.d (natsD (F (near1 es) L))) S := by
  have hI : evI (callF tab (k + 1)) (.seq (.var 2)) (kSg n es K L) S = .ok (.its (L.map fun i => T.d (nI i))) S := by
    rw [← natsD_map]; rfl
  unfold kLc
  rw [ev_lc_pure L (fun i => T.d (nI i)) (fun c => if decide (1 < ((near1 es c).filter fun o => decide (o ∈ L)).length) = true then some (T.d (nI c)) else none) hI fun c _ => ?_]
  · rw [filterMap_if (fun c : Nat => decide (1 < ((near1 es c).filter fun o => decide (o ∈ L)).length)) fun i => T.d (nI i)]
    rw [← natsD_map]
    exact fin_tree false _ _
  · have hg : evG (callF tab (k + 1)) (.nm 3) (T.d (nI c)) (wipe (kSg n es K L) [3]) S = .ok [some (.d (webD n es)), some (.d (natsD K)), some (.d (natsD L)), some (tN' c), none] S := rfl
    rw [hg, R.bnd_okE]
    have : evT (callF tab (k + 1)) (.val (.b false .gt (.u false .len kInner) (.lit (.int 1)))) [some (.d (webD n es)), some (.d (natsD K)), some (.d (natsD L)), some (tN' c), none] S = .ok (decide (1 < ((near1 es c).filter fun o => decide (o ∈ L)).length)) S := by
      rw [evT, ev, ev, k_inner k n c es L _ S he, R.bnd_okE, u1_lenN]
      show (fin false S (b2 .gt S (tI _) (tI 1))).bnd _ = _
      rw [b2_gtI]
      show R.ok (decide ((1 : Int) < _)) S = _
      congr 1
      exact decide_eq_decide.mpr (by omega)
    rw [this, R.bnd_okE]
    by_cases q : 1 < ((near1 es c).filter fun o => decide (o ∈ L)).length
    · simp [q]; rfl
    · simp [q]; rfl
def kBody : Bx := .cons (.asg (.nm 2) (.var 1)) (.cons (.asg (.nm 1) kLc) .nil)
def kTest : Tx := .val (.b false .ne (.var 1) (.var 2))
theorem k_loop (k n : Nat) (es : List (Nat × Nat)) (he : es.length ≤ 15) (S : Store) : ∀ (j : Nat) (K L r : List Nat), keptL (near1 es) j K L = some r → ∀ x, ∃ L',
    whN (fun sg S => evT (callF tab (k + 1)) kTest sg S) (fun sg S => evB (callF tab (k + 1)) kBody sg S) (j + x) (kSg n es K L) S = .nx (kSg n es r L') S
  | 0, K, L, r, h, x => by cases h
  | j + 1, K, L, r, h, x => by
    rw [show j + 1 + x = (j + x) + 1 from by omega, whN]
    have ht : evT (callF tab (k + 1)) kTest (kSg n es K L) S = .ok (!decide (K = L)) S := by
      show (fin false S (b2 .ne S (.d (natsD K)) (.d (natsD L)))).bnd _ = _
      rw [b2_neL (a := K) (b := L) rfl rfl]; rfl
    simp only [ht]
    rw [keptL] at h
    by_cases e : K = L
    · rw [if_pos e] at h
      cases h
      refine ⟨L, ?_⟩
      rw [decide_eq_true e]; rfl
    · rw [if_neg e] at h
      rw [decide_eq_false e]
      show ∃ L', R.s (.ok true S) _ = _
      rw [R.s_okE]
      show ∃ L', loopK (evB (callF tab (k + 1)) kBody (kSg n es K L) S) _ = _
      have hb : evB (callF tab (k + 1)) kBody (kSg n es K L) S = .nx (kSg n es (F (near1 es) K) K) S := by
        unfold kBody
        have s1 : evS (callF tab (k + 1)) (.asg (.nm 2) (.var 1)) (kSg n es K L) S = .nx (kSg n es K K) S := rfl
        rw [evB, s1, seqS_nx, evB, evS, k_lc k n es K K S he]
        rfl
      rw [hb, loopK_nx]
      exact k_loop k n es he S j _ _ r h x
theorem rng_nats : ∀ (n a : Nat), rng (a : Int) n = natsT (List.range' a n)
  | 0, _ => rfl
  | n + 1, a => by
    rw [rng, List.range'_succ]
    have := rng_nats n (a + 1)
    rw [Int.natCast_add] at this
    show tI (a : Int) :: rng ((a : Int) + 1) n = _
    rw [show ((a : Int) + 1) = (a : Int) + ((1 : Nat) : Int) from rfl, this]
    rfl
theorem rng0 (n : Nat) : rng 0 n = natsT (List.range n) := by
  rw [List.range_eq_range']
  exact rng_nats n 0
theorem f8 (k n : Nat) (es : List (Nat × Nat)) (he : es.length ≤ 15) (hn : n ≤ 6) {r : List Nat} (hr : keptL (near1 es) 6 (List.range n) [] = some r) (S : Store) : callF tab (k + 2) 8 [.d (webD n es)] S = .ok (.d (natsD r)) S := by
  refine run_one (f := ⟨5, 1, b_8⟩) rfl rfl ?_
  show evB (callF tab (k + 1)) b_8 [some (.d (webD n es)), none, none, none, none] S = _
  unfold b_8
  have hof : ev (callF tab (k + 1)) (.ofIt false (.rng1 (.b false .idx (.var 0) (.lit (.int 0))))) [some (.d (webD n es)), none, none, none, none] S = .ok (.d (natsD (List.range n))) S := by
    show (rng1K (T.d (nI n)) S).bnd _ = _
    have : rng1K (T.d (nI n)) S = .ok (.its (rng 0 n)) S := by
      show (if ((n : Int) ≤ 1000000 && -1000000 ≤ (n : Int)) = true then R.ok (Wk.its (rng 0 (n : Int).toNat)) S else .no) = _
      rw [if_pos (by simp; omega)]
      rfl
    rw [this, rng0]
    show fin false S (some (.l (natsT (List.range n)))) = _
    rw [← natsT_eq]
    exact fin_tree false S _
  have s1 : evS (callF tab (k + 1)) (.asg (.tup (.cons (.nm 1) (.cons (.nm 2) .nil))) (.tup (.cons (.ofIt false (.rng1 (.b false .idx (.var 0) (.lit (.int 0))))) (.cons (.lst false .nil) .nil)))) [some (.d (webD n es)), none, none, none, none] S = .nx (kSg n es (List.range n) []) S := by
    rw [evS, ev, evs, hof]
    rfl
  rw [evB, s1, seqS_nx, evB, evS]
  obtain ⟨L', hl⟩ := k_loop k n es he S 6 (List.range n) [] r hr 3994
  have hl : whN (fun sg S => evT (callF tab (k + 1)) (.val (.b false .ne (.var 1) (.var 2))) sg S) (fun sg S => evB (callF tab (k + 1)) (.cons (.asg (.nm 2) (.var 1)) (.cons (.asg (.nm 1) (.lc false [3] (.nm 3) (.seq (.var 2)) (.val (.b false .gt (.u false .len (.lc false [4] (.nm 4) (.seq (.call 0 6 (.cons (.var 0) (.cons (.var 3) .nil)))) (.val (.b false .in_ (.var 4) (.var 2))) (.var 4))) (.lit (.int 1)))) (.var 3))) .nil)) sg S) FU (kSg n es (List.range n) []) S = .nx (kSg n es r L') S := hl
  rw [hl, seqS_nx]
  rfl
end L81
end

section
set_option linter.all false
set_option maxRecDepth 100000
set_option maxHeartbeats 4000000
set_option autoImplicit false
namespace L81
open PySem Mc G81
/-! ### web_ring -/
def gSg (n : Nat) (es : List (Nat × Nat)) (K : List Nat) (a b : Option T) : Sg := [some (.d (webD n es)), some (.d (natsD K)), some (.obj 0), a, b, none]
def gS (p : List Nat) : Store := [.lst (natsT p)]
def gLc : Ex := .lc false [5] (.nm 5) (.seq (.call 0 6 (.cons (.var 0) (.cons (.b false .idx (.var 2) (.u false .neg (.lit (.int 1)))) .nil)))) (.and_ (.val (.b false .in_ (.var 5) (.var 1))) (.val (.b false .nin (.var 5) (.var 3)))) (.var 5)
theorem idx_last {S : Store} {n : Nat} {p : List Nat} {l : Nat} (e : S[n]? = some (.lst (natsT p))) (hl : p.getLast? = some l) : b2 .idx S (.obj n) (tI (-1)) = some (.v (tN' l)) := by
  obtain ⟨ys, rfl⟩ := List.getLast?_eq_some_iff.mp hl
  have h1 : seqOf S (.obj n) = some (natsT (ys ++ [l])) := by
    unfold seqOf lstOf
    simp only [e]
  have h2 : at_ (natsT (ys ++ [l])) (-1) = some (tN' l) := by
    unfold at_
    rw [natsT_len, if_neg (by decide), List.length_append, List.length_singleton, if_pos (by omega)]
    have : (-1 + ((ys.length + 1 : Nat) : Int)).toNat = ys.length := by omega
    rw [this, natsT_app]
    have := natsT_len ys
    rw [List.getElem?_append_right (by omega), this, Nat.sub_self]; rfl
  show (match seqOf S (.obj n) with | some ts => (at_ ts (-1)).map fun t => O.v (norm S t) | none => _) = _
  rw [h1]
  simp only [h2]
  rfl
theorem g_lc (k n l : Nat) (es : List (Nat × Nat)) (K p : List Nat) (b : Option T) (he : es.length ≤ 15) (hl : p.getLast? = some l) :
    ev (callF tab (k + 1)) gLc (gSg n es K (some (.d (natsD (ahead p)))) b) (gS p) = .ok (.d (natsD (cand (near1 es) K p l))) (gS p) := by
  have hx : ev (callF tab (k + 1)) (.b false .idx (.var 2) (.u false .neg (.lit (.int 1)))) (gSg n es K (some (.d (natsD (ahead p)))) b) (gS p) = .ok (tN' l) (gS p) := by
    show fin false (gS p) (b2 .idx (gS p) (.obj 0) (tI (-1))) = _
    rw [idx_last (l := l) (p := p) rfl hl]; rfl
  have hI : evI (callF tab (k + 1)) (.seq (.call 0 6 (.cons (.var 0) (.cons (.b false .idx (.var 2) (.u false .neg (.lit (.int 1)))) .nil)))) (gSg n es K (some (.d (natsD (ahead p)))) b) (gS p) = .ok (.its ((near1 es l).map fun i => T.d (nI i))) (gS p) := by
    rw [← natsD_map, evI, ev]
    have ha : evs (callF tab (k + 1)) (.cons (.var 0) (.cons (.b false .idx (.var 2) (.u false .neg (.lit (.int 1)))) .nil)) (gSg n es K (some (.d (natsD (ahead p)))) b) (gS p) = .ok [.d (webD n es), .d (nI l)] (gS p) := by
      have hv : ev (callF tab (k + 1)) (.var 0) (gSg n es K (some (.d (natsD (ahead p)))) b) (gS p) = .ok (.d (webD n es)) (gS p) := rfl
      rw [evs, hv, R.bnd_okE, evs, hx, R.bnd_okE]; rfl
    rw [ha, R.bnd_okE, call6 k n l es _ he]
    rfl
  unfold gLc
  rw [ev_lc_pure (near1 es l) (fun i => T.d (nI i)) (fun i => if (decide (i ∈ K) && decide (i ∉ ahead p)) = true then some (T.d (nI i)) else none) hI fun i _ => ?_]
  · rw [filterMap_if (fun i : Nat => decide (i ∈ K) && decide (i ∉ ahead p)) fun i => T.d (nI i)]
    rw [← natsD_map]
    exact fin_tree false _ _
  · have hg : evG (callF tab (k + 1)) (.nm 5) (T.d (nI i)) (wipe (gSg n es K (some (.d (natsD (ahead p)))) b) [5]) (gS p) = .ok [some (.d (webD n es)), some (.d (natsD K)), some (.obj 0), some (.d (natsD (ahead p))), b, some (tN' i)] (gS p) := rfl
    rw [hg, R.bnd_okE]
    have t1 : evT (callF tab (k + 1)) (.val (.b false .in_ (.var 5) (.var 1))) [some (.d (webD n es)), some (.d (natsD K)), some (.obj 0), some (.d (natsD (ahead p))), b, some (tN' i)] (gS p) = .ok (decide (i ∈ K)) (gS p) := by
      show (fin false (gS p) (b2 .in_ (gS p) (.d (nI i)) (.d (natsD K)))).bnd _ = _
      rw [b2_in (l := K) rfl]; rfl
    have t2 : evT (callF tab (k + 1)) (.val (.b false .nin (.var 5) (.var 3))) [some (.d (webD n es)), some (.d (natsD K)), some (.obj 0), some (.d (natsD (ahead p))), b, some (tN' i)] (gS p) = .ok (!decide (i ∈ ahead p)) (gS p) := by
      show (fin false (gS p) (b2 .nin (gS p) (.d (nI i)) (.d (natsD (ahead p))))).bnd _ = _
      rw [b2_nin (l := ahead p) rfl]; rfl
    rw [evT, t1, R.bnd_okE]
    by_cases q : i ∈ K
    · simp only [q, decide_true, cond_true, Bool.true_and, t2, R.bnd_okE]
      by_cases q2 : i ∈ ahead p
      · simp [q2]; rfl
      · simp [q2]; rfl
    · simp [q]; rfl
theorem sl_ahead (S : Store) (n : Nat) (p : List Nat) (e : S[n]? = some (.lst (natsT p))) : sl3 S (.obj n) (some (-2)) (some (-1)) = some (.l (natsT (ahead p))) := by
  have h1 : lstOf S (.obj n) = some (natsT p) := by unfold lstOf; simp only [e]
  unfold sl3
  rw [h1]
  show some (O.l (cut (natsT p) (some (-2)) (some (-1)))) = _
  unfold cut
  have e1 : sIx p.length 0 (some (-2)) = p.length - 2 := by
    show (if (-2 : Int) < 0 then ((-2 : Int) + (p.length : Nat)).toNat else min (-2 : Int).toNat p.length) = _
    rw [if_pos (by decide)]; omega
  have e2 : sIx p.length p.length (some (-1)) = p.length - 1 := by
    show (if (-1 : Int) < 0 then ((-1 : Int) + (p.length : Nat)).toNat else min (-1 : Int).toNat p.length) = _
    rw [if_pos (by decide)]; omega
  rw [natsT_len, e1, e2]
  unfold ahead natsT
  rw [List.map_take, List.map_drop]
theorem sl_drop (S : Store) (n j : Nat) (p : List Nat) (e : S[n]? = some (.lst (natsT p))) (hj : j ≤ p.length) : sl3 S (.obj n) (some (j : Nat)) none = some (.l (natsT (p.drop j))) := by
  have h1 : lstOf S (.obj n) = some (natsT p) := by unfold lstOf; simp only [e]
  unfold sl3
  rw [h1]
  show some (O.l (cut (natsT p) (some (j : Nat)) none)) = _
  unfold cut
  have e1 : sIx (natsT p).length 0 (some ((j : Nat) : Int)) = j := by
    rw [natsT_len]
    show (if (j : Int) < 0 then ((j : Int) + (p.length : Nat)).toNat else min (j : Int).toNat p.length) = _
    rw [if_neg (by omega)]
    omega
  have e2 : sIx (natsT p).length (natsT p).length none = p.length := natsT_len p
  rw [e1, e2]
  unfold natsT
  rw [← List.map_drop, List.take_of_length_le (by simp)]
theorem findIdx_nats (h : Nat) : ∀ p : List Nat, h ∈ p → (p.map nI).findIdx? (fun z => PyData.eqv z (nI h)) = some (p.findIdx fun z => z == h)
  | [], q => by cases q
  | x :: p, q => by
    rw [List.map_cons, List.findIdx?_cons, beq_nI, List.findIdx_cons]
    by_cases e : x = h
    · subst e; simp
    · have e' : (x == h) = false := by simpa using e
      have q' : h ∈ p := by
        rcases List.mem_cons.mp q with q | q
        · exact absurd q.symm e
        · exact q
      rw [e', findIdx_nats h p q']
      simp
theorem index_nats {S : Store} {n h : Nat} {p : List Nat} (e : S[n]? = some (.lst (natsT p))) (hh : h ∈ p) : indexK (.obj n) (tN' h) S = .ok (tI ((p.findIdx fun z => z == h : Nat))) S := by
  unfold indexK
  rw [snap_obj e]
  show (if (decide ((nI h).depth ≤ 60) && decide ((PyData.list (p.map nI)).depth ≤ 60)) = true then (match (p.map nI).findIdx? (fun z => PyData.eqv z (nI h)) with | some j => R.ok (tI j) S | none => .no) else .no) = _
  rw [depth_N, if_pos (by simp [nI, PyData.depth]), findIdx_nats h p hh]
theorem app_nats {S : Store} {n h : Nat} {p : List Nat} (e : S[n]? = some (.lst (natsT p))) (hl : p.length < line) : appK (.obj n) (tN' h) S = .ok tN (S.set n (.lst (natsT (p ++ [h])))) := by
  unfold appK
  simp only [e, natsT_len]
  rw [if_pos hl, natsT_app]
  rfl
def gBody : Bx := (.cons (.asg (.nm 3) (.sl false (.var 2) (.some (.u false .neg (.lit (.int 2)))) (.some (.u false .neg (.lit (.int 1)))))) (.cons (.asg (.nm 4) (.b false .idx gLc (.lit (.int 0)))) (.cons (.ite (.val (.b false .in_ (.var 4) (.var 2))) (.cons (.ret (.sl false (.var 2) (.some (.index (.var 2) (.var 4))) .none)) .nil) .nil) (.cons (.exp (.app (.var 2) (.var 4))) .nil))))
def gTest : Tx := .val (.lit (.bool true))
theorem g_pre (k n l h : Nat) (t : List Nat) (es : List (Nat × Nat)) (K p : List Nat) (a b : Option T) (he : es.length ≤ 15) (hl : p.getLast? = some l) (hc : cand (near1 es) K p l = h :: t) :
    evB (callF tab (k + 1)) gBody (gSg n es K a b) (gS p) = evB (callF tab (k + 1)) (.cons (.ite (.val (.b false .in_ (.var 4) (.var 2))) (.cons (.ret (.sl false (.var 2) (.some (.index (.var 2) (.var 4))) .none)) .nil) .nil) (.cons (.exp (.app (.var 2) (.var 4))) .nil)) (gSg n es K (some (.d (natsD (ahead p)))) (some (tN' h))) (gS p) := by
  unfold gBody
  have s1 : evS (callF tab (k + 1)) (.asg (.nm 3) (.sl false (.var 2) (.some (.u false .neg (.lit (.int 2)))) (.some (.u false .neg (.lit (.int 1)))))) (gSg n es K a b) (gS p) = .nx (gSg n es K (some (.d (natsD (ahead p)))) b) (gS p) := by
    have hv : ev (callF tab (k + 1)) (.sl false (.var 2) (.some (.u false .neg (.lit (.int 2)))) (.some (.u false .neg (.lit (.int 1))))) (gSg n es K a b) (gS p) = fin false (gS p) (sl3 (gS p) (.obj 0) (some (-2)) (some (-1))) := rfl
    rw [evS, hv, sl_ahead (gS p) 0 p rfl, ← natsT_eq, fin_tree false]; rfl
  have s2 : evS (callF tab (k + 1)) (.asg (.nm 4) (.b false .idx gLc (.lit (.int 0)))) (gSg n es K (some (.d (natsD (ahead p)))) b) (gS p) = .nx (gSg n es K (some (.d (natsD (ahead p)))) (some (tN' h))) (gS p) := by
    rw [evS, ev, g_lc k n l es K p b he hl, hc, R.bnd_okE]; rfl
  rw [evB, s1, seqS_nx, evB, s2, seqS_nx]
theorem g_loop (k n : Nat) (es : List (Nat × Nat)) (K : List Nat) (he : es.length ≤ 15) : ∀ (j : Nat) (p r : List Nat) (a b : Option T), ringL (near1 es) K j p = some r → p.length + j < line → ∀ x, ∃ S',
    whN (fun sg S => evT (callF tab (k + 1)) gTest sg S) (fun sg S => evB (callF tab (k + 1)) gBody sg S) (j + x) (gSg n es K a b) (gS p) = .rt (.d (natsD r)) S'
  | 0, p, r, a, b, h, _, x => by cases h
  | j + 1, p, r, a, b, h, hp, x => by
    rw [show j + 1 + x = (j + x) + 1 from by omega, whN]
    have ht : evT (callF tab (k + 1)) gTest (gSg n es K a b) (gS p) = .ok true (gS p) := rfl
    simp only [ht]
    rw [R.s_okE]
    show ∃ S', loopK (evB (callF tab (k + 1)) gBody (gSg n es K a b) (gS p)) _ = _
    rw [ringL] at h
    cases e : p.getLast? with
    | none => rw [e] at h; cases h
    | some l =>
      rw [e] at h
      dsimp only at h
      cases e2 : cand (near1 es) K p l with
      | nil => rw [e2] at h; cases h
      | cons c t =>
        rw [e2] at h
        dsimp only at h
        rw [g_pre k n l c t es K p a b he e e2]
        have tt : evT (callF tab (k + 1)) (.val (.b false .in_ (.var 4) (.var 2))) (gSg n es K (some (.d (natsD (ahead p)))) (some (tN' c))) (gS p) = .ok (decide (c ∈ p)) (gS p) := by
          show (fin false (gS p) (b2 .in_ (gS p) (.d (nI c)) (.obj 0))).bnd _ = _
          rw [b2_in (l := p) (snap_obj rfl)]; rfl
        by_cases hc : c ∈ p
        · rw [if_pos hc] at h
          cases h
          refine ⟨gS p, ?_⟩
          rw [evB, evS, tt, R.s_okE, decide_eq_true hc]
          have hr : evB (callF tab (k + 1)) (.cons (.ret (.sl false (.var 2) (.some (.index (.var 2) (.var 4))) .none)) .nil) (gSg n es K (some (.d (natsD (ahead p)))) (some (tN' c))) (gS p) = .rt (.d (natsD (p.drop (p.findIdx fun z => z == c)))) (gS p) := by
            have hi : evO (callF tab (k + 1)) (.some (.index (.var 2) (.var 4))) (gSg n es K (some (.d (natsD (ahead p)))) (some (tN' c))) (gS p) = .ok (some ((p.findIdx fun z => z == c : Nat) : Int)) (gS p) := by
              show R.bnd (indexK (.obj 0) (tN' c) (gS p)) _ = _
              rw [index_nats (p := p) rfl hc]; rfl
            have hv : ev (callF tab (k + 1)) (.sl false (.var 2) (.some (.index (.var 2) (.var 4))) .none) (gSg n es K (some (.d (natsD (ahead p)))) (some (tN' c))) (gS p) = .ok (.d (natsD (p.drop (p.findIdx fun z => z == c)))) (gS p) := by
              have h0 : ev (callF tab (k + 1)) (.var 2) (gSg n es K (some (.d (natsD (ahead p)))) (some (tN' c))) (gS p) = .ok (.obj 0) (gS p) := rfl
              rw [ev, h0, R.bnd_okE, hi, R.bnd_okE]
              show fin false (gS p) (sl3 (gS p) (.obj 0) (some ((p.findIdx fun z => z == c : Nat) : Int)) none) = _
              rw [sl_drop (gS p) 0 _ p rfl List.findIdx_le_length, ← natsT_eq]
              exact fin_tree false _ _
            rw [evB, evS, hv, R.s_okE, seqS_rt]
          show loopK (seqS (evB (callF tab (k + 1)) (.cons (.ret _) .nil) _ _) _) _ = _
          rw [hr, seqS_rt, loopK_rt]
        · rw [if_neg hc] at h
          rw [evB, evS, tt, R.s_okE, decide_eq_false hc]
          show ∃ S', loopK (seqS (evB (callF tab (k + 1)) .nil _ _) _) _ = _
          rw [evB, seqS_nx]
          have s4 : evB (callF tab (k + 1)) (.cons (.exp (.app (.var 2) (.var 4))) .nil) (gSg n es K (some (.d (natsD (ahead p)))) (some (tN' c))) (gS p) = .nx (gSg n es K (some (.d (natsD (ahead p)))) (some (tN' c))) (gS (p ++ [c])) := by
            have : evS (callF tab (k + 1)) (.exp (.app (.var 2) (.var 4))) (gSg n es K (some (.d (natsD (ahead p)))) (some (tN' c))) (gS p) = .nx (gSg n es K (some (.d (natsD (ahead p)))) (some (tN' c))) (gS (p ++ [c])) := by
              show R.s (appK (.obj 0) (tN' c) (gS p)) _ = _
              rw [app_nats (p := p) rfl (by omega)]; rfl
            rw [evB, this, seqS_nx, evB]
          rw [s4, loopK_nx]
          exact g_loop k n es K he j _ r _ _ h (by rw [List.length_append, List.length_singleton]; omega) x
theorem call8 (k n : Nat) (es : List (Nat × Nat)) (he : es.length ≤ 15) (hn : n ≤ 6) {r : List Nat} (hr : keptL (near1 es) 6 (List.range n) [] = some r) (S : Store) : callM (callF tab (k + 2)) 0 8 [.d (webD n es)] S = .ok (.d (natsD r)) S :=
  callM0 (ds := [webD n es]) (S2 := []) (S3 := []) (t := .d (natsD r)) rfl (f8 k n es he hn hr []) rfl
/-- no ring -/
theorem f9_none (k n : Nat) (es : List (Nat × Nat)) (he : es.length ≤ 15) (hn : n ≤ 6) (hr : keptL (near1 es) 6 (List.range n) [] = some []) : callF tab (k + 3) 9 [.d (webD n es)] [] = .ok tN [] := by
  refine run_one (f := ⟨6, 1, b_9⟩) rfl rfl ?_
  show evB (callF tab (k + 2)) b_9 [some (.d (webD n es)), none, none, none, none, none] [] = _
  unfold b_9
  have s1 : evS (callF tab (k + 2)) (.asg (.nm 1) (.call 0 8 (.cons (.var 0) .nil))) [some (.d (webD n es)), none, none, none, none, none] [] = .nx [some (.d (webD n es)), some (.d (natsD [])), none, none, none, none] [] := by
    show R.s (callM (callF tab (k + 2)) 0 8 [.d (webD n es)] []) _ = _
    rw [call8 k n es he hn hr]; rfl
  rw [evB, s1, seqS_nx, evB]
  rfl
theorem f9_some (k n : Nat) (es : List (Nat × Nat)) (he : es.length ≤ 15) (hn : n ≤ 6) {x : Nat} {K r : List Nat} (hr : keptL (near1 es) 6 (List.range n) [] = some (x :: K)) (hg : ringL (near1 es) (x :: K) 6 [x] = some r) : ∃ S', callF tab (k + 3) 9 [.d (webD n es)] [] = .ok (.d (natsD r)) S' := by
  obtain ⟨S', hl⟩ := g_loop (k + 1) n es (x :: K) he 6 [x] r none none hg (by simp; unfold line; omega) 3994
  refine ⟨S', run_one (f := ⟨6, 1, b_9⟩) rfl rfl ?_⟩
  show evB (callF tab (k + 2)) b_9 [some (.d (webD n es)), none, none, none, none, none] [] = _
  unfold b_9
  have s1 : evS (callF tab (k + 2)) (.asg (.nm 1) (.call 0 8 (.cons (.var 0) .nil))) [some (.d (webD n es)), none, none, none, none, none] [] = .nx [some (.d (webD n es)), some (.d (natsD (x :: K))), none, none, none, none] [] := by
    show R.s (callM (callF tab (k + 2)) 0 8 [.d (webD n es)] []) _ = _
    rw [call8 k n es he hn hr]; rfl
  have s2 : evS (callF tab (k + 2)) (.ite (.val (.b false .eq (.var 1) (.lst false .nil))) (.cons (.ret (.lit .none)) .nil) .nil) [some (.d (webD n es)), some (.d (natsD (x :: K))), none, none, none, none] [] = .nx [some (.d (webD n es)), some (.d (natsD (x :: K))), none, none, none, none] [] := by
    have : evT (callF tab (k + 2)) (.val (.b false .eq (.var 1) (.lst false .nil))) [some (.d (webD n es)), some (.d (natsD (x :: K))), none, none, none, none] [] = .ok (decide (x :: K = [])) [] := by
      show (fin false [] (b2 .eq [] (.d (natsD (x :: K))) (.d (.list [])))).bnd _ = _
      rw [b2_eqL (a := x :: K) (b := []) rfl rfl]; rfl
    rw [evS, this, R.s_okE]
    rfl
  have s3 : evS (callF tab (k + 2)) (.asg (.nm 2) (.lst true (.cons (.b false .idx (.var 1) (.lit (.int 0))) .nil))) [some (.d (webD n es)), some (.d (natsD (x :: K))), none, none, none, none] [] = .nx (gSg n es (x :: K) none none) (gS [x]) := rfl
  rw [evB, s1, seqS_nx, evB, s2, seqS_nx, evB, s3, seqS_nx, evB, evS]
  have hl : whN (fun sg S => evT (callF tab (k + 2)) (.val (.lit (.bool true))) sg S) (fun sg S => evB (callF tab (k + 2)) (.cons (.asg (.nm 3) (.sl false (.var 2) (.some (.u false .neg (.lit (.int 2)))) (.some (.u false .neg (.lit (.int 1)))))) (.cons (.asg (.nm 4) (.b false .idx (.lc false [5] (.nm 5) (.seq (.call 0 6 (.cons (.var 0) (.cons (.b false .idx (.var 2) (.u false .neg (.lit (.int 1)))) .nil)))) (.and_ (.val (.b false .in_ (.var 5) (.var 1))) (.val (.b false .nin (.var 5) (.var 3)))) (.var 5)) (.lit (.int 0)))) (.cons (.ite (.val (.b false .in_ (.var 4) (.var 2))) (.cons (.ret (.sl false (.var 2) (.some (.index (.var 2) (.var 4))) .none)) .nil) .nil) (.cons (.exp (.app (.var 2) (.var 4))) .nil)))) sg S) FU (gSg n es (x :: K) none none) (gS [x]) = .rt (.d (natsD r)) S' := hl
  rw [hl, seqS_rt]
end L81
end

section
set_option linter.all false
set_option maxRecDepth 100000
set_option maxHeartbeats 4000000
set_option autoImplicit false
namespace L81
open PySem Mc G81
/-! ### sorting whole numbers -/
theorem insN_perm (x : Nat) : ∀ l : List Nat, (insN x l).Perm (x :: l)
  | [] => List.Perm.refl _
  | y :: ys => by
    rw [insN]
    split
    · exact ((insN_perm x ys).cons y).trans (List.Perm.swap x y ys)
    · exact List.Perm.refl _
theorem sortN_perm : ∀ l : List Nat, (sortN l).Perm l
  | [] => List.Perm.refl _
  | x :: xs => (insN_perm x (sortN xs)).trans ((sortN_perm xs).cons x)
theorem insN_srt (x : Nat) : ∀ l : List Nat, l.Pairwise (· ≤ ·) → (insN x l).Pairwise (· ≤ ·)
  | [], _ => List.pairwise_singleton _ _
  | y :: ys, h => by
    obtain ⟨h1, h2⟩ := List.pairwise_cons.mp h
    rw [insN]
    split
    · rename_i hlt
      refine List.pairwise_cons.mpr ⟨fun z hz => ?_, insN_srt x ys h2⟩
      rcases List.mem_cons.mp ((insN_perm x ys).mem_iff.mp hz) with rfl | hz
      · omega
      · exact h1 z hz
    · rename_i hge
      refine List.pairwise_cons.mpr ⟨fun z hz => ?_, h⟩
      rcases List.mem_cons.mp hz with rfl | hz
      · omega
      · have := h1 z hz; omega
theorem sortN_srt : ∀ l : List Nat, (sortN l).Pairwise (· ≤ ·)
  | [] => List.Pairwise.nil
  | x :: xs => insN_srt x _ (sortN_srt xs)
theorem sortN_eq {a b : List Nat} (h : a.Perm b) : sortN a = sortN b :=
  List.Perm.eq_of_pairwise (le := (· ≤ ·)) (fun x y _ _ h1 h2 => Nat.le_antisymm h1 h2) (sortN_srt a) (sortN_srt b) (((sortN_perm a).trans h).trans (sortN_perm b).symm)
theorem near2_eq (es : List (Nat × Nat)) (c : Nat) : near2 es c = near1 es c := sortN_eq List.perm_append_comm
/-- a web as it is drawn -/
structure GX (n : Nat) (es : List (Nat × Nat)) : Prop where
  n6 : n ≤ 6
  n0 : 0 < n
  lt : ∀ p ∈ es, p.1 < p.2 ∧ p.2 < n
  nd : es.Nodup
  len : es.length ≤ 15
section
variable {n : Nat} {es : List (Nat × Nat)}
theorem GX.hb (G : GX n es) : ∀ p ∈ es, p.1 < n ∧ p.2 < n := fun p hp => by have := G.lt p hp; omega
theorem GX.hb3 (G : GX n es) : ∀ p ∈ es, p.1 < n ∧ p.2 < n ∧ p.1 ≠ p.2 := fun p hp => by have := G.lt p hp; omega
theorem mem_lows {c v : Nat} : v ∈ lows es c ↔ (v, c) ∈ es := by
  unfold lows
  rw [List.mem_map]
  constructor
  · rintro ⟨p, hp, rfl⟩
    obtain ⟨h1, h2⟩ := List.mem_filter.mp hp
    have : p.2 = c := by simpa using h2
    rw [← this]; exact h1
  · intro h
    exact ⟨(v, c), List.mem_filter.mpr ⟨h, by simp⟩, rfl⟩
theorem mem_highs {c v : Nat} : v ∈ highs es c ↔ (c, v) ∈ es := by
  unfold highs
  rw [List.mem_map]
  constructor
  · rintro ⟨p, hp, rfl⟩
    obtain ⟨h1, h2⟩ := List.mem_filter.mp hp
    have : p.1 = c := by simpa using h2
    rw [← this]; exact h1
  · intro h
    exact ⟨(c, v), List.mem_filter.mpr ⟨h, by simp⟩, rfl⟩
theorem near1_mem (c v : Nat) : v ∈ near1 es c ↔ adj es c v := by
  unfold near1
  rw [(sortN_perm _).mem_iff, List.mem_append, mem_lows, mem_highs]
  exact Or.comm
theorem nodup_map_on {α β : Type} {f : α → β} : ∀ {l : List α}, l.Nodup → (∀ a ∈ l, ∀ b ∈ l, f a = f b → a = b) → (l.map f).Nodup
  | [], _, _ => by simp
  | x :: l, h, hf => by
    obtain ⟨h1, h2⟩ := List.nodup_cons.mp h
    rw [List.map_cons]
    refine List.nodup_cons.mpr ⟨fun z => ?_, nodup_map_on h2 fun a ha b hb => hf a (List.mem_cons_of_mem _ ha) b (List.mem_cons_of_mem _ hb)⟩
    obtain ⟨a, ha, e⟩ := List.mem_map.mp z
    have := hf a (List.mem_cons_of_mem _ ha) x List.mem_cons_self e
    exact h1 (this ▸ ha)
theorem near1_nd (G : GX n es) (c : Nat) : (near1 es c).Nodup := by
  unfold near1
  rw [(sortN_perm _).nodup_iff, List.nodup_append]
  refine ⟨?_, ?_, fun a ha b hb e => ?_⟩
  · refine nodup_map_on (G.nd.filter _) fun a ha b hb e => ?_
    have h1 : a.2 = c := by simpa using (List.mem_filter.mp ha).2
    have h2 : b.2 = c := by simpa using (List.mem_filter.mp hb).2
    exact Prod.ext e (h1.trans h2.symm)
  · refine nodup_map_on (G.nd.filter _) fun a ha b hb e => ?_
    have h1 : a.1 = c := by simpa using (List.mem_filter.mp ha).2
    have h2 : b.1 = c := by simpa using (List.mem_filter.mp hb).2
    exact Prod.ext (h1.trans h2.symm) e
  · subst e
    have h1 := (G.lt _ (mem_lows.mp ha)).1
    have h2 := (G.lt _ (mem_highs.mp hb)).1
    simp only at h1 h2
    omega
theorem GX.nm (G : GX n es) : ∀ c v, c < n → (v ∈ near1 es c ↔ adj es c v) := fun c v _ => near1_mem c v

/-! ### _law_piece -/
def pSg (es : List (Nat × Nat)) (c : Nat) (f : List Nat) (a b : Option T) : Sg := [some (.d (tiesD es)), some (tN' c), some (.d (natsD f)), a, b, none]
def pIn : Bx := .cons (.asg (.nm 2) (.b false .add (.var 2) (.lc false [5] (.nm 5) (.seq (.call 0 19 (.cons (.var 0) (.cons (.var 4) .nil)))) (.val (.b false .nin (.var 5) (.var 2))) (.var 5)))) .nil
theorem p_lc (k c h : Nat) (f : List Nat) (a : Option T) (S : Store) (he : es.length ≤ 15) :
    ev (callF tab (k + 1)) (.lc false [5] (.nm 5) (.seq (.call 0 19 (.cons (.var 0) (.cons (.var 4) .nil)))) (.val (.b false .nin (.var 5) (.var 2))) (.var 5)) (pSg es c f a (some (tN' h))) S = .ok (.d (natsD ((near1 es h).filter fun o => decide (o ∉ f)))) S := by
  have hI : evI (callF tab (k + 1)) (.seq (.call 0 19 (.cons (.var 0) (.cons (.var 4) .nil)))) (pSg es c f a (some (tN' h))) S = .ok (.its ((near1 es h).map fun i => T.d (nI i))) S := by
    rw [← natsD_map]
    show (callM (callF tab (k + 1)) 0 19 [.d (tiesD es), .d (nI h)] S).bnd _ = _
    rw [call19 k h es _ he, near2_eq]
    rfl
  rw [ev_lc_pure (near1 es h) (fun i => T.d (nI i)) (fun i => if decide (i ∉ f) = true then some (T.d (nI i)) else none) hI fun i _ => ?_]
  · rw [filterMap_if (fun i : Nat => decide (i ∉ f)) fun i => T.d (nI i)]
    rw [← natsD_map]
    exact fin_tree false _ _
  · have hg : evG (callF tab (k + 1)) (.nm 5) (T.d (nI i)) (wipe (pSg es c f a (some (tN' h))) [5]) S = .ok [some (.d (tiesD es)), some (tN' c), some (.d (natsD f)), a, some (tN' h), some (tN' i)] S := rfl
    rw [hg, R.bnd_okE]
    have : evT (callF tab (k + 1)) (.val (.b false .nin (.var 5) (.var 2))) [some (.d (tiesD es)), some (tN' c), some (.d (natsD f)), a, some (tN' h), some (tN' i)] S = .ok (!decide (i ∈ f)) S := by
      show (fin false S (b2 .nin S (.d (nI i)) (.d (natsD f)))).bnd _ = _
      rw [b2_nin (l := f) rfl]; rfl
    rw [this, R.bnd_okE]
    by_cases q : i ∈ f
    · simp [q]; rfl
    · simp [q]; rfl
theorem p_in (G : GX n es) (k c : Nat) (S : Store) (a : Option T) : ∀ (snap f : List Nat) (b : Option T), Sound n es c f → (∀ v ∈ snap, v ∈ f) → ∃ b',
    forL (fun t sg1 S2 => (evG (callF tab (k + 1)) (.nm 4) t sg1 S2).s fun sg2 S3 => evB (callF tab (k + 1)) pIn sg2 S3) (natsT snap) (pSg es c f a b) S = .nx (pSg es c (turnP (near1 es) snap f) a b') S
  | [], f, b, _, _ => ⟨b, rfl⟩
  | h :: snap, f, b, So, hs => by
    have hg : evG (callF tab (k + 1)) (.nm 4) (tN' h) (pSg es c f a b) S = .ok (pSg es c f a (some (tN' h))) S := rfl
    show ∃ b', loopK ((evG (callF tab (k + 1)) (.nm 4) (tN' h) (pSg es c f a b) S).s fun sg2 S3 => evB (callF tab (k + 1)) pIn sg2 S3) _ = _
    rw [hg, R.s_okE]
    have hlen := nodup_le So.nd So.lt
    have hm : ((near1 es h).filter fun o => decide (o ∉ f)).length ≤ 30 := Nat.le_trans (List.length_filter_le _ _) (near1_len es h G.len)
    have n6 := G.n6
    have hb : evB (callF tab (k + 1)) pIn (pSg es c f a (some (tN' h))) S = .nx (pSg es c (add1 (near1 es) f h) a (some (tN' h))) S := by
      have s1 : evS (callF tab (k + 1)) (.asg (.nm 2) (.b false .add (.var 2) (.lc false [5] (.nm 5) (.seq (.call 0 19 (.cons (.var 0) (.cons (.var 4) .nil)))) (.val (.b false .nin (.var 5) (.var 2))) (.var 5)))) (pSg es c f a (some (tN' h))) S = .nx (pSg es c (add1 (near1 es) f h) a (some (tN' h))) S := by
        rw [evS, ev_catN (a := f) rfl (p_lc k c h f a S G.len) (by unfold line; omega)]
        rfl
      unfold pIn
      rw [evB, s1, seqS_nx, evB]
    rw [hb, loopK_nx]
    exact p_in G k c S a snap _ _ (add1_sound G.hb (near1_nd G) G.nm So (hs h List.mem_cons_self)) fun v hv => add1_sub (hs v (List.mem_cons_of_mem _ hv))
def pOut : Bx := .cons (.for_ (.nm 4) (.seq (.u false .list (.var 2))) pIn) .nil
theorem p_out (G : GX n es) (k c : Nat) (S : Store) : ∀ (ts : List T) (f : List Nat) (a b : Option T), Sound n es c f → ∃ a' b',
    forL (fun t sg1 S2 => (evG (callF tab (k + 1)) (.nm 3) t sg1 S2).s fun sg2 S3 => evB (callF tab (k + 1)) pOut sg2 S3) ts (pSg es c f a b) S = .nx (pSg es c (pieceF (near1 es) ts.length f) a' b') S
  | [], f, a, b, _ => ⟨a, b, rfl⟩
  | t :: ts, f, a, b, So => by
    have hg : evG (callF tab (k + 1)) (.nm 3) t (pSg es c f a b) S = .ok (pSg es c f (some t) b) S := rfl
    show ∃ a' b', loopK ((evG (callF tab (k + 1)) (.nm 3) t (pSg es c f a b) S).s fun sg2 S3 => evB (callF tab (k + 1)) pOut sg2 S3) _ = _
    rw [hg, R.s_okE]
    obtain ⟨b', hl⟩ := p_in G k c S (some t) f f b So fun _ h => h
    have hb : evB (callF tab (k + 1)) pOut (pSg es c f (some t) b) S = .nx (pSg es c (turnP (near1 es) f f) (some t) b') S := by
      have hI : evI (callF tab (k + 1)) (.seq (.u false .list (.var 2))) (pSg es c f (some t) b) S = .ok (.its (natsT f)) S := by
        have h1 : ev (callF tab (k + 1)) (.u false .list (.var 2)) (pSg es c f (some t) b) S = .ok (.d (natsD f)) S := by
          show fin false S (some (.l ((f.map nI).map T.d))) = _
          exact fin_tree false _ _
        rw [evI, h1, R.bnd_okE, ← natsT_eq]; rfl
      unfold pOut
      rw [evB, evS, hI, R.s_okE]
      show seqS (forL _ (natsT f) _ S) _ = _
      rw [hl, seqS_nx, evB]
    rw [hb, loopK_nx]
    exact p_out G k c S ts _ _ _ (turn_ok G.hb (near1_nd G) G.nm f f So fun _ h => h).1
theorem sound0 (c : Nat) (hc : c < n) : Sound n es c [c] := ⟨by simp, fun v hv => by rw [List.mem_singleton.mp hv]; exact hc, fun v hv => by rw [List.mem_singleton.mp hv]; exact .refl _⟩
theorem f20 (G : GX n es) (k c : Nat) (hc : c < n) (S : Store) : callF tab (k + 2) 20 [.d (tiesD es), tN' c] S = .ok (.d (natsD (sortN (pieceF (near1 es) 6 [c])))) S := by
  refine run_one (f := ⟨6, 2, b_20⟩) rfl rfl ?_
  show evB (callF tab (k + 1)) b_20 [some (.d (tiesD es)), some (tN' c), none, none, none, none] S = _
  unfold b_20
  have s1 : evS (callF tab (k + 1)) (.asg (.nm 2) (.lst false (.cons (.var 1) .nil))) [some (.d (tiesD es)), some (tN' c), none, none, none, none] S = .nx (pSg es c [c] none none) S := rfl
  obtain ⟨a', b', hl⟩ := p_out G k c S (rng 0 6) [c] none none (sound0 c hc)
  have hl : forW (fun t sg1 S2 => (evG (callF tab (k + 1)) (.nm 3) t sg1 S2).s fun sg2 S3 => evB (callF tab (k + 1)) (.cons (.for_ (.nm 4) (.seq (.u false .list (.var 2))) (.cons (.asg (.nm 2) (.b false .add (.var 2) (.lc false [5] (.nm 5) (.seq (.call 0 19 (.cons (.var 0) (.cons (.var 4) .nil)))) (.val (.b false .nin (.var 5) (.var 2))) (.var 5)))) .nil)) .nil) sg2 S3) (.its (rng 0 6)) (pSg es c [c] none none) S = .nx (pSg es c (pieceF (near1 es) 6 [c]) a' b') S := hl
  have hI : evI (callF tab (k + 1)) (.rng1 (.lit (.int 6))) (pSg es c [c] none none) S = .ok (.its (rng 0 6)) S := rfl
  rw [evB, s1, seqS_nx, evB, evS, hI, R.s_okE, hl, seqS_nx, evB, evS, ev_sortN (l := pieceF (near1 es) 6 [c]) rfl]
  rfl
end
end L81
end

section
set_option linter.all false
set_option maxRecDepth 100000
set_option maxHeartbeats 4000000
set_option autoImplicit false
namespace L81
open PySem Mc G81
/-! ### _law_is_ring -/
theorem intsT_nats : ∀ l : List Nat, intsT (natsT l) = some (l.map fun i : Nat => (i : Int))
  | [] => rfl
  | x :: l => by
    show intsT (T.d (.int x) :: natsT l) = _
    rw [intsT, intsT_nats l]; rfl
theorem dedup_nodup : ∀ (l acc : List Int), (acc ++ l).Nodup → l.foldl PyProof.Rows.step_dedup acc = acc ++ l
  | [], acc, _ => by simp
  | x :: l, acc, h => by
    rw [List.foldl_cons]
    have e : PyProof.Rows.step_dedup acc x = acc ++ [x] := by
      unfold PyProof.Rows.step_dedup
      have : acc.any (· == x) = false := by
        rw [List.any_eq_false]
        intro y hy e
        have e : y = x := by simpa using e
        subst e
        exact (List.nodup_append.mp h).2.2 y hy y List.mem_cons_self rfl
      rw [this]; rfl
    rw [e, dedup_nodup l (acc ++ [x]) (by simpa using h)]
    simp
theorem lenset_nodup {S : Store} {r : List Nat} (h : r.Nodup) (hl : r.length ≤ 4000) : u1 .lenset S (.d (natsD r)) = some (.v (tI (r.length : Nat))) := by
  have e : lstOf S (.d (natsD r)) = some (natsT r) := by rw [← natsT_eq]; rfl
  unfold u1
  simp only [e, intsT_nats, List.length_map]
  rw [if_pos hl]
  unfold dedupI
  rw [dedup_nodup _ [] (by simpa using nodup_map_on h fun a _ b _ (e : (a : Int) = b) => by omega)]
  simp
theorem idx_nat {S : Store} {r : List Nat} {j : Int} {b : Nat} (h : at_ (natsT r) j = some (tN' b)) : b2 .idx S (.d (natsD r)) (tI j) = some (.v (tN' b)) := by
  have e : seqOf S (.d (natsD r)) = some (natsT r) := by rw [← natsT_eq]; rfl
  unfold b2
  simp only [e, h, Option.map_some]
  rfl
theorem at_prev {r : List Nat} {i b : Nat} (hr : 0 < r.length) (h : r[if i = 0 then r.length - 1 else i - 1]? = some b) : at_ (natsT r) ((i : Int) - 1) = some (tN' b) := by
  unfold at_
  rw [natsT_len]
  by_cases e : i = 0
  · subst e
    rw [if_pos rfl] at h
    rw [if_neg (by omega), if_pos (by omega)]
    have : (((0 : Nat) : Int) - 1 + (r.length : Nat)).toNat = r.length - 1 := by omega
    rw [this]
    unfold natsT
    rw [List.getElem?_map, h]; rfl
  · rw [if_neg e] at h
    rw [if_pos (by omega)]
    have : ((i : Int) - 1).toNat = i - 1 := by omega
    rw [this]
    unfold natsT
    rw [List.getElem?_map, h]; rfl
def iIn : Bx := (.cons (.ite (.val (.b false .nin (.b false .idx (.var 1) (.b false .sub (.var 2) (.lit (.int 1)))) (.call 0 19 (.cons (.var 0) (.cons (.var 3) .nil))))) (.cons (.ret (.lit (.bool false))) .nil) .nil) .nil)
def iSg (es : List (Nat × Nat)) (r : List Nat) (a b : Option T) : Sg := [some (.d (tiesD es)), some (.d (natsD r)), a, b]
section
variable {n : Nat} {es : List (Nat × Nat)}
theorem i_loop (G : GX n es) (k : Nat) (r : List Nat) (Rg : IsRing n es r) (S : Store) : ∀ (tl : List Nat) (i : Nat) (a b : Option T), (∀ (j v : Nat), tl[j]? = some v → r[i + j]? = some v) → ∃ a' b',
    forL (fun t sg1 S2 => (evG (callF tab (k + 1)) (.tup (.cons (.nm 2) (.cons (.nm 3) .nil))) t sg1 S2).s fun sg2 S3 => evB (callF tab (k + 1)) iIn sg2 S3) (enumFrom i (natsT tl)) (iSg es r a b) S = .nx (iSg es r a' b') S
  | [], i, a, b, _ => ⟨a, b, rfl⟩
  | v :: tl, i, a, b, h => by
    have hg : evG (callF tab (k + 1)) (.tup (.cons (.nm 2) (.cons (.nm 3) .nil))) (mkTup [tI (i : Nat), tN' v]) (iSg es r a b) S = .ok (iSg es r (some (tI (i : Nat))) (some (tN' v))) S := rfl
    show ∃ a' b', loopK ((evG (callF tab (k + 1)) (.tup (.cons (.nm 2) (.cons (.nm 3) .nil))) (mkTup [tI (i : Nat), tN' v]) (iSg es r a b) S).s fun sg2 S3 => evB (callF tab (k + 1)) iIn sg2 S3) _ = _
    rw [hg, R.s_okE]
    have hv := h 0 v rfl
    rw [Nat.add_zero] at hv
    obtain ⟨w, hw, ha⟩ := Rg.adj i v hv
    have hx : ev (callF tab (k + 1)) (.b false .idx (.var 1) (.b false .sub (.var 2) (.lit (.int 1)))) (iSg es r (some (tI (i : Nat))) (some (tN' v))) S = .ok (tN' w) S := by
      show fin false S (b2 .idx S (.d (natsD r)) (tI ((i : Int) - 1))) = _
      rw [idx_nat (at_prev (by have := Rg.len; omega) hw)]; rfl
    have hc : ev (callF tab (k + 1)) (.call 0 19 (.cons (.var 0) (.cons (.var 3) .nil))) (iSg es r (some (tI (i : Nat))) (some (tN' v))) S = .ok (.d (natsD (near1 es v))) S := by
      show callM (callF tab (k + 1)) 0 19 [.d (tiesD es), .d (nI v)] S = _
      rw [call19 k v es S G.len, near2_eq]
    have ht : evT (callF tab (k + 1)) (.val (.b false .nin (.b false .idx (.var 1) (.b false .sub (.var 2) (.lit (.int 1)))) (.call 0 19 (.cons (.var 0) (.cons (.var 3) .nil))))) (iSg es r (some (tI (i : Nat))) (some (tN' v))) S = .ok false S := by
      rw [evT, ev, hx, R.bnd_okE, hc, R.bnd_okE, b2_nin (l := near1 es v) rfl, decide_eq_true ((near1_mem v w).mpr ha)]
      rfl
    have hb : evB (callF tab (k + 1)) iIn (iSg es r (some (tI (i : Nat))) (some (tN' v))) S = .nx (iSg es r (some (tI (i : Nat))) (some (tN' v))) S := by
      unfold iIn
      rw [evB, evS, ht, R.s_okE]
      rfl
    rw [hb, loopK_nx]
    exact i_loop G k r Rg S tl (i + 1) _ _ fun j u hj => by
      have := h (j + 1) u hj
      rw [show i + 1 + j = i + (j + 1) from by omega]; exact this
theorem f21 (G : GX n es) (k : Nat) (r : List Nat) (Rg : IsRing n es r) (S : Store) : callF tab (k + 2) 21 [.d (tiesD es), .d (natsD r)] S = .ok (tB true) S := by
  refine run_one (f := ⟨4, 2, b_21⟩) rfl rfl ?_
  show evB (callF tab (k + 1)) b_21 (iSg es r none none) S = _
  unfold b_21
  have hlen : r.length ≤ 6 := Nat.le_trans (nodup_le Rg.nd Rg.lt) G.n6
  have t1 : evT (callF tab (k + 1)) (.not_ (.val (.u false (.isi [.list]) (.var 1)))) (iSg es r none none) S = .ok false S := rfl
  have t2 : evT (callF tab (k + 1)) (.val (.b false .lt (.u false .len (.var 1)) (.lit (.int 3)))) (iSg es r none none) S = .ok false S := by
    have hl : ev (callF tab (k + 1)) (.u false .len (.var 1)) (iSg es r none none) S = .ok (tI (r.length : Nat)) S := by
      show fin false S (u1 .len S (.d (natsD r))) = _
      rw [u1_lenN]; rfl
    rw [evT, ev, hl, R.bnd_okE]
    show (fin false S (b2 .lt S (tI (r.length : Nat)) (tI 3))).bnd _ = _
    rw [b2_ltI, decide_eq_false (by have := Rg.len; omega)]; rfl
  have t3 : evT (callF tab (k + 1)) (.val (.b false .ne (.u false .lenset (.var 1)) (.u false .len (.var 1)))) (iSg es r none none) S = .ok false S := by
    have hl : ev (callF tab (k + 1)) (.u false .len (.var 1)) (iSg es r none none) S = .ok (tI (r.length : Nat)) S := by
      show fin false S (u1 .len S (.d (natsD r))) = _
      rw [u1_lenN]; rfl
    have hl2 : ev (callF tab (k + 1)) (.u false .lenset (.var 1)) (iSg es r none none) S = .ok (tI (r.length : Nat)) S := by
      show fin false S (u1 .lenset S (.d (natsD r))) = _
      rw [lenset_nodup Rg.nd (by omega)]; rfl
    rw [evT, ev, hl2, R.bnd_okE, hl, R.bnd_okE]
    have : b2 .ne S (tI (r.length : Nat)) (tI (r.length : Nat)) = some (.v (tB false)) := by
      have e := beq_nI r.length r.length
      show some (O.v (tB (!PyData.eqv (nI r.length) (nI r.length)))) = _
      rw [e]; simp
    rw [this]; rfl
  have s1 : evS (callF tab (k + 1)) (.ite (.or_ (.not_ (.val (.u false (.isi [.list]) (.var 1)))) (.or_ (.val (.b false .lt (.u false .len (.var 1)) (.lit (.int 3)))) (.val (.b false .ne (.u false .lenset (.var 1)) (.u false .len (.var 1)))))) (.cons (.ret (.lit (.bool false))) .nil) .nil) (iSg es r none none) S = .nx (iSg es r none none) S := by
    rw [evS, evT, t1, R.bnd_okE]
    show R.s (evT (callF tab (k + 1)) (.or_ (.val (.b false .lt (.u false .len (.var 1)) (.lit (.int 3)))) (.val (.b false .ne (.u false .lenset (.var 1)) (.u false .len (.var 1))))) (iSg es r none none) S) _ = _
    rw [evT, t2, R.bnd_okE]
    show R.s (evT (callF tab (k + 1)) (.val (.b false .ne (.u false .lenset (.var 1)) (.u false .len (.var 1)))) (iSg es r none none) S) _ = _
    rw [t3, R.s_okE]
    rfl
  obtain ⟨a', b', hl⟩ := i_loop G k r Rg S r 0 none none fun j v h => by rw [Nat.zero_add]; exact h
  have hI : evI (callF tab (k + 1)) (.enum (.var 1)) (iSg es r none none) S = .ok (.its (enumFrom 0 (natsT r))) S := by
    rw [← natsT_eq]; rfl
  rw [evB, s1, seqS_nx, evB, evS, hI, R.s_okE]
  have hl : forW (fun t sg1 S2 => (evG (callF tab (k + 1)) (.tup (.cons (.nm 2) (.cons (.nm 3) .nil))) t sg1 S2).s fun sg2 S3 => evB (callF tab (k + 1)) (.cons (.ite (.val (.b false .nin (.b false .idx (.var 1) (.b false .sub (.var 2) (.lit (.int 1)))) (.call 0 19 (.cons (.var 0) (.cons (.var 3) .nil))))) (.cons (.ret (.lit (.bool false))) .nil) .nil) .nil) sg2 S3) (.its (enumFrom 0 (natsT r))) (iSg es r none none) S = .nx (iSg es r a' b') S := hl
  rw [hl, seqS_nx]
  rfl
end
end L81
end

section
set_option linter.all false
set_option maxRecDepth 100000
set_option maxHeartbeats 4000000
set_option autoImplicit false
namespace L81
open PySem Mc G81
/-! ### webs -/
theorem is_count_int (k : Nat) (i : Int) (S : Store) : callF tab (k + 2) 1 [tI i] S = .ok (tB (decide (0 ≤ i))) S := rfl
theorem call1 (k a : Nat) (S : Store) : callM (callF tab (k + 2)) 0 1 [tN' a] S = .ok (tB true) S := by
  refine callM0 (ds := [nI a]) (S2 := []) (S3 := []) (t := tB true) rfl ?_ rfl
  show callF tab (k + 2) 1 [tI (a : Int)] [] = _
  rw [is_count_int, decide_eq_true (by omega)]
theorem f3 (k n a b : Nat) (S : Store) (h1 : a < b) (h2 : b < n) : callF tab (k + 3) 3 [tN' n, .d (tieD (a, b))] S = .ok (tB true) S := by
  refine run_one (f := ⟨3, 2, b_3⟩) rfl rfl ?_
  show evB (callF tab (k + 2)) b_3 [some (tN' n), some (.d (tieD (a, b))), none] S = _
  unfold b_3
  have hlc : ev (callF tab (k + 2)) (.lc false [2] (.nm 2) (.seq (.var 1)) .tt (.call 0 1 (.cons (.var 2) .nil))) [some (tN' n), some (.d (tieD (a, b))), none] S = .ok (.d (.list [.bool true, .bool true])) S := by
    rw [ev_lc_pure [a, b] (fun i => T.d (nI i)) (fun _ => some (tB true)) rfl fun i _ => ?_]
    · rfl
    · have hg : evG (callF tab (k + 2)) (.nm 2) (T.d (nI i)) (wipe [some (tN' n), some (.d (tieD (a, b))), none] [2]) S = .ok [some (tN' n), some (.d (tieD (a, b))), some (tN' i)] S := rfl
      rw [hg, R.bnd_okE]
      have hc : ev (callF tab (k + 2)) (.call 0 1 (.cons (.var 2) .nil)) [some (tN' n), some (.d (tieD (a, b))), some (tN' i)] S = .ok (tB true) S := call1 k i S
      have ht : evT (callF tab (k + 2)) .tt [some (tN' n), some (.d (tieD (a, b))), some (tN' i)] S = .ok true S := rfl
      rw [ht, R.bnd_okE, hc]
      rfl
  have t1 : evT (callF tab (k + 2)) (.not_ (.val (.u false (.isi [.tuple]) (.var 1)))) [some (tN' n), some (.d (tieD (a, b))), none] S = .ok false S := rfl
  have t2 : evT (callF tab (k + 2)) (.val (.b false .ne (.u false .len (.var 1)) (.lit (.int 2)))) [some (tN' n), some (.d (tieD (a, b))), none] S = .ok false S := rfl
  have t3 : evT (callF tab (k + 2)) (.not_ (.val (.u false .all (.lc false [2] (.nm 2) (.seq (.var 1)) .tt (.call 0 1 (.cons (.var 2) .nil)))))) [some (tN' n), some (.d (tieD (a, b))), none] S = .ok false S := by
    rw [evT, evT, ev, hlc, R.bnd_okE]
    rfl
  have s1 : evS (callF tab (k + 2)) (.ite (.or_ (.not_ (.val (.u false (.isi [.tuple]) (.var 1)))) (.or_ (.val (.b false .ne (.u false .len (.var 1)) (.lit (.int 2)))) (.not_ (.val (.u false .all (.lc false [2] (.nm 2) (.seq (.var 1)) .tt (.call 0 1 (.cons (.var 2) .nil)))))))) (.cons (.ret (.lit (.bool false))) .nil) .nil) [some (tN' n), some (.d (tieD (a, b))), none] S = .nx [some (tN' n), some (.d (tieD (a, b))), none] S := by
    rw [evS, evT, t1, R.bnd_okE]
    show R.s (evT (callF tab (k + 2)) (.or_ _ _) [some (tN' n), some (.d (tieD (a, b))), none] S) _ = _
    rw [evT, t2, R.bnd_okE]
    show R.s (evT (callF tab (k + 2)) (.not_ _) [some (tN' n), some (.d (tieD (a, b))), none] S) _ = _
    rw [t3, R.s_okE]
    rfl
  have hv : ev (callF tab (k + 2)) (.ch .lt .lt (.b false .idx (.var 1) (.lit (.int 0))) (.b false .idx (.var 1) (.lit (.int 1))) (.var 0)) [some (tN' n), some (.d (tieD (a, b))), none] S = .ok (tB true) S := by
    have e1 : ev (callF tab (k + 2)) (.b false .idx (.var 1) (.lit (.int 0))) [some (tN' n), some (.d (tieD (a, b))), none] S = .ok (tI (a : Int)) S := rfl
    have e2 : ev (callF tab (k + 2)) (.b false .idx (.var 1) (.lit (.int 1))) [some (tN' n), some (.d (tieD (a, b))), none] S = .ok (tI (b : Int)) S := rfl
    have e3 : ev (callF tab (k + 2)) (.var 0) [some (tN' n), some (.d (tieD (a, b))), none] S = .ok (tI (n : Int)) S := rfl
    rw [ev, e1, R.bnd_okE, e2, R.bnd_okE, b2_ltI, decide_eq_true (by omega)]
    have e4 : fin false S (some (.v (tB true))) = .ok (tB true) S := rfl
    have e5 : asBool (tB true) S = .ok true S := rfl
    rw [e4, R.bnd_okE, e5, R.bnd_okE, cond_true, e3, R.bnd_okE, b2_ltI, decide_eq_true (by omega)]
    rfl
  rw [evB, s1, seqS_nx, evB, evS, hv]
  rfl
theorem call3 (k n : Nat) (p : Nat × Nat) (S : Store) (h1 : p.1 < p.2) (h2 : p.2 < n) : callM (callF tab (k + 3)) 0 3 [tN' n, .d (tieD p)] S = .ok (tB true) S :=
  callM0 (ds := [nI n, tieD p]) (S2 := []) (S3 := []) (t := tB true) rfl (f3 k n p.1 p.2 [] h1 h2) rfl
/-- the given ties, as a list or as a tuple -/
def gv (tp : Bool) (gs : List (Nat × Nat)) : PyData := bif tp then .tuple (gs.map tieD) else .list (gs.map tieD)
def wv (tp : Bool) (n : Nat) (gs : List (Nat × Nat)) : PyData := .tuple [nI n, gv tp gs]
theorem seq_gv (S : Store) (tp : Bool) (gs : List (Nat × Nat)) : seqOf S (.d (gv tp gs)) = some (gs.map fun e => T.d (tieD e)) := by
  rw [← its_ties]
  cases tp <;> rfl
theorem its_gv (tp : Bool) (gs : List (Nat × Nat)) (S : Store) : seqK (.d (gv tp gs)) S = .ok (.its (gs.map fun e => T.d (tieD e))) S := by
  rw [← its_ties]
  cases tp <;> rfl
theorem eqv_tie (p q : Nat × Nat) : PyData.eqv (tieD p) (tieD q) = decide (p = q) := by
  have : PyData.eqv (tieD p) (tieD q) = ((p.1 == q.1) && ((p.2 == q.2) && true)) := by
    rw [← beq_nI, ← beq_nI]
    unfold tieD
    rw [PyData.eqv, PySem.W.eqv_all_cons, PySem.W.eqv_all_cons]
    simp [PyData.eqvAll]
  rw [this]
  obtain ⟨a, b⟩ := p
  obtain ⟨c, d⟩ := q
  by_cases h1 : a = c <;> by_cases h2 : b = d <;> simp [h1, h2]
theorem any_ties (p : Nat × Nat) : ∀ gs : List (Nat × Nat), (gs.map tieD).any (fun z => PyData.eqv z (tieD p)) = decide (p ∈ gs)
  | [] => by simp
  | q :: gs => by
    rw [List.map_cons, List.any_cons, any_ties p gs, eqv_tie]
    by_cases h : q = p
    · subst h; simp
    · have h' : p ≠ q := fun z => h z.symm
      simp [h, h']
theorem depth_tie (p : Nat × Nat) : (tieD p).depth ≤ 60 := by simp [tieD, PyData.depth, PyData.depthAll, nI]
theorem nin_gv (S : Store) (tp : Bool) (p : Nat × Nat) (gs : List (Nat × Nat)) : b2 .nin S (.d (tieD p)) (.d (gv tp gs)) = some (.v (tB (!decide (p ∈ gs)))) := by
  have : inD S (.d (tieD p)) (.d (gv tp gs)) = some (decide (p ∈ gs)) := by
    rw [← any_ties]
    cases tp
    · show (if (tieD p).depth ≤ 60 then some ((gs.map tieD).any fun z => PyData.eqv z (tieD p)) else none) = _
      rw [if_pos (depth_tie p)]
    · show (if (tieD p).depth ≤ 60 then some ((gs.map tieD).any fun z => PyData.eqv z (tieD p)) else none) = _
      rw [if_pos (depth_tie p)]
  show (inD S _ _).map _ = _
  rw [this]; rfl
theorem cut_take {α : Type} (xs : List α) (j : Nat) (h : j < xs.length) : cut xs none (some (j : Nat)) = xs.take j := by
  unfold cut
  have e2 : sIx xs.length xs.length (some (j : Nat)) = j := by
    show (if (j : Int) < 0 then ((j : Int) + (xs.length : Nat)).toNat else min (j : Int).toNat xs.length) = j
    rw [if_neg (by omega)]
    omega
  have e1 : sIx xs.length 0 none = 0 := rfl
  rw [e1, e2]
  simp
theorem sl_gv (S : Store) (tp : Bool) (gs : List (Nat × Nat)) (j : Nat) (h : j < gs.length) : fin false S (sl3 S (.d (gv tp gs)) none (some (j : Nat))) = .ok (.d (gv tp (gs.take j))) S := by
  have h' : j < ((gs.map tieD).map T.d).length := by simpa using h
  cases tp
  · show fin false S (some (.l (cut ((gs.map tieD).map T.d) none (some (j : Nat))))) = _
    rw [cut_take _ j h', ← List.map_take, ← List.map_take, fin_tree false]
    rfl
  · have e : sl3 S (.d (gv true gs)) none (some (j : Nat)) = some (.v (mkTup (cut ((gs.map tieD).map T.d) none (some (j : Nat))))) := by
      show (if ((sIx ((gs.map tieD).map T.d).length 0 none == 0) && (sIx ((gs.map tieD).map T.d).length ((gs.map tieD).map T.d).length (some (j : Nat)) == ((gs.map tieD).map T.d).length)) = true then none else some (O.v (mkTup (cut ((gs.map tieD).map T.d) none (some (j : Nat)))))) = _
      rw [if_neg]
      have e2 : sIx ((gs.map tieD).map T.d).length ((gs.map tieD).map T.d).length (some (j : Nat)) = j := by
        show (if (j : Int) < 0 then ((j : Int) + (((gs.map tieD).map T.d).length : Nat)).toNat else min (j : Int).toNat ((gs.map tieD).map T.d).length) = j
        rw [if_neg (by omega)]
        omega
      rw [e2]
      simp
      intro z
      simp at h'
      omega
    rw [e, cut_take _ j h', ← List.map_take, ← List.map_take, mkTup_map]
    rfl
theorem all_true (S : Store) : ∀ (m : Nat), u1 .all S (.d (.list (List.replicate m (.bool true)))) = some (.v (tB true)) := fun m => by
  have h1 : ∀ m : Nat, boolsT ((List.replicate m (PyData.bool true)).map T.d) = some (List.replicate m true) := fun m => by
    induction m with
    | zero => rfl
    | succ m ih =>
      rw [List.replicate_succ, List.map_cons]
      show (match boolsT ((List.replicate m (PyData.bool true)).map T.d) with | some bs => some (true :: bs) | none => none) = _
      rw [ih]; rfl
  show (boolsT ((List.replicate m (PyData.bool true)).map T.d)).map _ = _
  rw [h1]
  simp
theorem filterMap_const {α : Type} (b : T) : ∀ l : List α, l.filterMap (fun _ => some b) = List.replicate l.length b
  | [] => rfl
  | x :: l => by rw [List.filterMap_cons_some (f := fun _ : α => some b) rfl, filterMap_const b l]; rfl
end L81
end

section
set_option linter.all false
set_option maxRecDepth 100000
set_option maxHeartbeats 4000000
set_option autoImplicit false
namespace L81
open PySem Mc G81
/-! ### is_web_value -/
def vSg (tp : Bool) (n : Nat) (gs : List (Nat × Nat)) : Sg := [some (.d (wv tp n gs)), some (tN' n), some (.d (gv tp gs)), none, none]
theorem v_lc1 (k n : Nat) (tp : Bool) (gs : List (Nat × Nat)) (S : Store) (hlt : ∀ p ∈ gs, p.1 < p.2 ∧ p.2 < n) : ev (callF tab (k + 3)) (.lc false [4] (.nm 4) (.seq (.var 2)) .tt (.call 0 3 (.cons (.var 1) (.cons (.var 4) .nil)))) (vSg tp n gs) S = .ok (.d (.list (List.replicate gs.length (.bool true)))) S := by
  have hI : evI (callF tab (k + 3)) (.seq (.var 2)) (vSg tp n gs) S = .ok (.its (gs.map fun e => T.d (tieD e))) S := its_gv tp gs S
  rw [ev_lc_pure gs (fun e => T.d (tieD e)) (fun _ => some (tB true)) hI fun e he => ?_]
  · rw [filterMap_const]
    have : List.replicate gs.length (tB true) = (List.replicate gs.length (PyData.bool true)).map T.d := by rw [List.map_replicate]
    rw [this, fin_tree false]
  · have hg : evG (callF tab (k + 3)) (.nm 4) (T.d (tieD e)) (wipe (vSg tp n gs) [4]) S = .ok [some (.d (wv tp n gs)), some (tN' n), some (.d (gv tp gs)), none, some (.d (tieD e))] S := rfl
    rw [hg, R.bnd_okE]
    have ht : evT (callF tab (k + 3)) .tt [some (.d (wv tp n gs)), some (tN' n), some (.d (gv tp gs)), none, some (.d (tieD e))] S = .ok true S := rfl
    have hc : ev (callF tab (k + 3)) (.call 0 3 (.cons (.var 1) (.cons (.var 4) .nil))) [some (.d (wv tp n gs)), some (tN' n), some (.d (gv tp gs)), none, some (.d (tieD e))] S = .ok (tB true) S := call3 k n e S (hlt e he).1 (hlt e he).2
    rw [ht, R.bnd_okE, hc]
    rfl
theorem take_not (gs : List (Nat × Nat)) (hn : gs.Nodup) (j : Nat) (h : j < gs.length) : gs[j] ∉ gs.take j := fun hm => by
  obtain ⟨i, hi, e⟩ := List.getElem_of_mem hm
  rw [List.getElem_take] at e
  have hlt : i < j := by rw [List.length_take] at hi; omega
  exact List.pairwise_iff_getElem.mp hn i j (by omega) h hlt e
theorem v_lc2 (k n : Nat) (tp : Bool) (gs : List (Nat × Nat)) (S : Store) (hn : gs.Nodup) (hl : gs.length ≤ 15) : ev (callF tab (k + 3)) (.lc false [3] (.nm 3) (.rng1 (.u false .len (.var 2))) .tt (.b false .nin (.b false .idx (.var 2) (.var 3)) (.sl false (.var 2) .none (.some (.var 3))))) (vSg tp n gs) S = .ok (.d (.list (List.replicate gs.length (.bool true)))) S := by
  have hlen : ev (callF tab (k + 3)) (.u false .len (.var 2)) (vSg tp n gs) S = .ok (tI (gs.length : Nat)) S := by
    show fin false S (u1 .len S (.d (gv tp gs))) = _
    unfold u1
    simp only [seq_gv, List.length_map]
    rfl
  have hI : evI (callF tab (k + 3)) (.rng1 (.u false .len (.var 2))) (vSg tp n gs) S = .ok (.its ((List.range gs.length).map fun i => T.d (nI i))) S := by
    rw [evI, hlen, R.bnd_okE]
    show (if ((gs.length : Int) ≤ 1000000 && -1000000 ≤ (gs.length : Int)) = true then R.ok (Wk.its (rng 0 (gs.length : Int).toNat)) S else .no) = _
    rw [if_pos (by simp; omega)]
    show R.ok (Wk.its (rng 0 gs.length)) S = _
    rw [rng0]; rfl
  rw [ev_lc_pure (List.range gs.length) (fun i => T.d (nI i)) (fun _ => some (tB true)) hI fun j hj => ?_]
  · rw [filterMap_const, List.length_range]
    have : List.replicate gs.length (tB true) = (List.replicate gs.length (PyData.bool true)).map T.d := by rw [List.map_replicate]
    rw [this, fin_tree false]
  · have hj := List.mem_range.mp hj
    have hg : evG (callF tab (k + 3)) (.nm 3) (T.d (nI j)) (wipe (vSg tp n gs) [3]) S = .ok [some (.d (wv tp n gs)), some (tN' n), some (.d (gv tp gs)), some (tN' j), none] S := rfl
    rw [hg, R.bnd_okE]
    have ht : evT (callF tab (k + 3)) .tt [some (.d (wv tp n gs)), some (tN' n), some (.d (gv tp gs)), some (tN' j), none] S = .ok true S := rfl
    have e1 : ev (callF tab (k + 3)) (.b false .idx (.var 2) (.var 3)) [some (.d (wv tp n gs)), some (tN' n), some (.d (gv tp gs)), some (tN' j), none] S = .ok (.d (tieD gs[j])) S := by
      show fin false S (b2 .idx S (.d (gv tp gs)) (tI (j : Int))) = _
      have ha : at_ (gs.map fun e => T.d (tieD e)) (j : Int) = some (T.d (tieD gs[j])) := by
        unfold at_
        rw [if_pos (by omega)]
        show (gs.map fun e => T.d (tieD e))[j]? = _
        rw [List.getElem?_map, List.getElem?_eq_getElem hj]; rfl
      have : b2 .idx S (.d (gv tp gs)) (tI (j : Int)) = some (.v (.d (tieD gs[j]))) := by
        unfold b2
        simp only [seq_gv, ha, Option.map_some]
        rfl
      rw [this]; rfl
    have e2 : ev (callF tab (k + 3)) (.sl false (.var 2) .none (.some (.var 3))) [some (.d (wv tp n gs)), some (tN' n), some (.d (gv tp gs)), some (tN' j), none] S = .ok (.d (gv tp (gs.take j))) S := by
      rw [← sl_gv S tp gs j hj]; rfl
    have hc : ev (callF tab (k + 3)) (.b false .nin (.b false .idx (.var 2) (.var 3)) (.sl false (.var 2) .none (.some (.var 3)))) [some (.d (wv tp n gs)), some (tN' n), some (.d (gv tp gs)), some (tN' j), none] S = .ok (tB true) S := by
      rw [ev, e1, R.bnd_okE, e2, R.bnd_okE, nin_gv, decide_eq_false (take_not gs hn j hj)]; rfl
    rw [ht, R.bnd_okE, hc]
    rfl
theorem call2 (k : Nat) (tp : Bool) (gs : List (Nat × Nat)) (S : Store) : callM (callF tab (k + 1)) 0 2 [.d (gv tp gs)] S = .ok (tB true) S := by
  refine callM0 (ds := [gv tp gs]) (S2 := []) (S3 := []) (t := tB true) rfl ?_ rfl
  cases tp <;> rfl
theorem f4 (k n : Nat) (tp : Bool) (gs : List (Nat × Nat)) (S : Store) (h0 : 0 < n) (h6 : n ≤ 6) (hlt : ∀ p ∈ gs, p.1 < p.2 ∧ p.2 < n) (hn : gs.Nodup) (hl : gs.length ≤ 15) : callF tab (k + 4) 4 [.d (wv tp n gs)] S = .ok (tB true) S := by
  refine run_one (f := ⟨5, 1, b_4⟩) rfl rfl ?_
  show evB (callF tab (k + 3)) b_4 [some (.d (wv tp n gs)), none, none, none, none] S = _
  unfold b_4
  have s1 : evS (callF tab (k + 3)) (.ite (.or_ (.not_ (.val (.u false (.isi [.tuple]) (.var 0)))) (.val (.b false .ne (.u false .len (.var 0)) (.lit (.int 2))))) (.cons (.ret (.lit (.bool false))) .nil) .nil) [some (.d (wv tp n gs)), none, none, none, none] S = .nx [some (.d (wv tp n gs)), none, none, none, none] S := rfl
  have s2 : evS (callF tab (k + 3)) (.asg (.tup (.cons (.nm 1) (.cons (.nm 2) .nil))) (.var 0)) [some (.d (wv tp n gs)), none, none, none, none] S = .nx (vSg tp n gs) S := rfl
  have t1 : evT (callF tab (k + 3)) (.not_ (.val (.call 0 1 (.cons (.var 1) .nil)))) (vSg tp n gs) S = .ok false S := by
    have : ev (callF tab (k + 3)) (.call 0 1 (.cons (.var 1) .nil)) (vSg tp n gs) S = .ok (tB true) S := call1 (k + 1) n S
    rw [evT, evT, this]; rfl
  have t2 : evT (callF tab (k + 3)) (.not_ (.val (.ch .le .le (.lit (.int 1)) (.var 1) (.lit (.int 6))))) (vSg tp n gs) S = .ok false S := by
    have a1 : b2 .le S (tI 1) (tI (n : Int)) = some (.v (tB true)) := by
      show some (O.v (tB (decide ((1 : Int) ≤ n)))) = _
      rw [decide_eq_true (by omega)]
    have a2 : b2 .le S (tI (n : Int)) (tI 6) = some (.v (tB true)) := by
      show some (O.v (tB (decide ((n : Int) ≤ 6)))) = _
      rw [decide_eq_true (by omega)]
    have e1 : ev (callF tab (k + 3)) (.lit (.int 1)) (vSg tp n gs) S = .ok (tI 1) S := rfl
    have e2 : ev (callF tab (k + 3)) (.var 1) (vSg tp n gs) S = .ok (tI (n : Int)) S := rfl
    have e3 : ev (callF tab (k + 3)) (.lit (.int 6)) (vSg tp n gs) S = .ok (tI 6) S := rfl
    have e4 : fin false S (some (.v (tB true))) = .ok (tB true) S := rfl
    have e5 : asBool (tB true) S = .ok true S := rfl
    have : ev (callF tab (k + 3)) (.ch .le .le (.lit (.int 1)) (.var 1) (.lit (.int 6))) (vSg tp n gs) S = .ok (tB true) S := by
      rw [ev, e1, R.bnd_okE, e2, R.bnd_okE, a1, e4, R.bnd_okE, e5, R.bnd_okE, cond_true, e3, R.bnd_okE, a2, e4]
    rw [evT, evT, this]; rfl
  have t3 : evT (callF tab (k + 3)) (.not_ (.val (.call 0 2 (.cons (.var 2) .nil)))) (vSg tp n gs) S = .ok false S := by
    have : ev (callF tab (k + 3)) (.call 0 2 (.cons (.var 2) .nil)) (vSg tp n gs) S = .ok (tB true) S := call2 (k + 2) tp gs S
    rw [evT, evT, this]; rfl
  have s3 : evS (callF tab (k + 3)) (.ite (.or_ (.not_ (.val (.call 0 1 (.cons (.var 1) .nil)))) (.or_ (.not_ (.val (.ch .le .le (.lit (.int 1)) (.var 1) (.lit (.int 6))))) (.not_ (.val (.call 0 2 (.cons (.var 2) .nil)))))) (.cons (.ret (.lit (.bool false))) .nil) .nil) (vSg tp n gs) S = .nx (vSg tp n gs) S := by
    rw [evS, evT, t1, R.bnd_okE, cond_false, evT, t2, R.bnd_okE, cond_false, t3, R.s_okE, cond_false, evB]
  have s4 : evS (callF tab (k + 3)) (.ite (.not_ (.val (.u false .all (.lc false [4] (.nm 4) (.seq (.var 2)) .tt (.call 0 3 (.cons (.var 1) (.cons (.var 4) .nil))))))) (.cons (.ret (.lit (.bool false))) .nil) .nil) (vSg tp n gs) S = .nx (vSg tp n gs) S := by
    have : evT (callF tab (k + 3)) (.not_ (.val (.u false .all (.lc false [4] (.nm 4) (.seq (.var 2)) .tt (.call 0 3 (.cons (.var 1) (.cons (.var 4) .nil))))))) (vSg tp n gs) S = .ok false S := by
      rw [evT, evT, ev, v_lc1 k n tp gs S hlt, R.bnd_okE, all_true]; rfl
    rw [evS, this, R.s_okE, cond_false, evB]
  rw [evB, s1, seqS_nx, evB, s2, seqS_nx, evB, s3, seqS_nx, evB, s4, seqS_nx, evB, evS, ev, v_lc2 k n tp gs S hn hl, R.bnd_okE, all_true]
  rfl
end L81
end

section
set_option linter.all false
set_option maxRecDepth 100000
set_option maxHeartbeats 4000000
set_option autoImplicit false
namespace L81
open PySem Mc G81
/-! ### sorting ties -/
def ltP (p q : Nat × Nat) : Bool := if p.1 = q.1 then (if p.2 = q.2 then false else decide (p.2 < q.2)) else decide (p.1 < q.1)
theorem ltP_iff (p q : Nat × Nat) : ltP p q = true ↔ p.1 < q.1 ∨ (p.1 = q.1 ∧ p.2 < q.2) := by
  unfold ltP
  by_cases h1 : p.1 = q.1
  · rw [if_pos h1]
    by_cases h2 : p.2 = q.2
    · rw [if_pos h2]; simp; omega
    · rw [if_neg h2, decide_eq_true_eq]; omega
  · rw [if_neg h1, decide_eq_true_eq]; omega
theorem ltI_nat (a b : Nat) : ltD (nI a) (nI b) = decide (a < b) := by
  show decide ((a : Int) < (b : Int)) = _
  exact decide_eq_decide.mpr (by omega)
theorem ltD_tie (p q : Nat × Nat) : ltD (tieD p) (tieD q) = ltP p q := by
  show ltDs [nI p.1, nI p.2] [nI q.1, nI q.2] = _
  rw [ltDs, ltDs, ltDs, beq_nI, beq_nI, ltI_nat, ltI_nat]
  unfold ltP
  by_cases h1 : p.1 = q.1 <;> by_cases h2 : p.2 = q.2 <;> simp [h1, h2]
def insP (x : Nat × Nat) : List (Nat × Nat) → List (Nat × Nat)
  | [] => [x]
  | y :: ys => if ltP y x then y :: insP x ys else x :: y :: ys
def sortP : List (Nat × Nat) → List (Nat × Nat)
  | [] => []
  | x :: xs => insP x (sortP xs)
theorem insR_tie (x : Nat × Nat) : ∀ l : List (Nat × Nat), sortD.insR (tieD x) (l.map tieD) = (insP x l).map tieD
  | [] => rfl
  | y :: ys => by
    rw [List.map_cons, sortD.insR, insP, ltD_tie]
    by_cases h : ltP y x = true
    · rw [if_pos h, if_pos h, insR_tie x ys]; rfl
    · rw [if_neg h, if_neg h]; rfl
theorem sortD_tie : ∀ l : List (Nat × Nat), sortD (l.map tieD) = (sortP l).map tieD
  | [] => rfl
  | x :: xs => by rw [List.map_cons, sortD, sortD_tie xs, insR_tie]; rfl
theorem insP_perm (x : Nat × Nat) : ∀ l : List (Nat × Nat), (insP x l).Perm (x :: l)
  | [] => List.Perm.refl _
  | y :: ys => by
    rw [insP]
    split
    · exact ((insP_perm x ys).cons y).trans (List.Perm.swap x y ys)
    · exact List.Perm.refl _
theorem sortP_perm : ∀ l : List (Nat × Nat), (sortP l).Perm l
  | [] => List.Perm.refl _
  | x :: xs => (insP_perm x (sortP xs)).trans ((sortP_perm xs).cons x)
def leP (p q : Nat × Nat) : Prop := p.1 < q.1 ∨ (p.1 = q.1 ∧ p.2 ≤ q.2)
theorem insP_srt (x : Nat × Nat) : ∀ l : List (Nat × Nat), l.Pairwise leP → (insP x l).Pairwise leP
  | [], _ => List.pairwise_singleton _ _
  | y :: ys, h => by
    obtain ⟨h1, h2⟩ := List.pairwise_cons.mp h
    rw [insP]
    by_cases c : ltP y x = true
    · rw [if_pos c]
      have c' := (ltP_iff y x).mp c
      refine List.pairwise_cons.mpr ⟨fun z hz => ?_, insP_srt x ys h2⟩
      rcases List.mem_cons.mp ((insP_perm x ys).mem_iff.mp hz) with rfl | hz
      · unfold leP; omega
      · exact h1 z hz
    · rw [if_neg c]
      have c' : ¬ (y.1 < x.1 ∨ (y.1 = x.1 ∧ y.2 < x.2)) := fun z => c ((ltP_iff y x).mpr z)
      refine List.pairwise_cons.mpr ⟨fun z hz => ?_, h⟩
      rcases List.mem_cons.mp hz with rfl | hz
      · unfold leP; omega
      · have := h1 z hz
        unfold leP at this ⊢
        omega
theorem sortP_srt : ∀ l : List (Nat × Nat), (sortP l).Pairwise leP
  | [] => List.Pairwise.nil
  | x :: xs => insP_srt x _ (sortP_srt xs)
theorem sortP_eq {gs es : List (Nat × Nat)} (h : gs.Perm es) (hs : es.Pairwise leP) : sortP gs = es :=
  List.Perm.eq_of_pairwise (le := leP) (fun x y _ _ h1 h2 => by
    unfold leP at h1 h2
    exact Prod.ext (by omega) (by omega)) (sortP_srt gs) hs ((sortP_perm gs).trans h)
/-- a web as it is given -/
structure PX (n : Nat) (es gs : List (Nat × Nat)) : Prop where
  G : GX n es
  p : gs.Perm es
  s : es.Pairwise leP
section
variable {n : Nat} {es gs : List (Nat × Nat)}
theorem PX.glt (X : PX n es gs) : ∀ p ∈ gs, p.1 < p.2 ∧ p.2 < n := fun p hp => X.G.lt p (X.p.mem_iff.mp hp)
theorem PX.gnd (X : PX n es gs) : gs.Nodup := X.p.nodup_iff.mpr X.G.nd
theorem PX.glen (X : PX n es gs) : gs.length ≤ 15 := by rw [X.p.length_eq]; exact X.G.len
theorem sorted_gv (X : PX n es gs) (S : Store) (tp : Bool) : u1 .sorted S (.d (gv tp gs)) = some (.l ((es.map tieD).map T.d)) := by
  have h1 : seqOf S (.d (gv tp gs)) = some ((gs.map tieD).map T.d) := by rw [seq_gv, its_ties]
  have h2 : sortable (gs.map tieD) = true := by
    unfold sortable allAl
    rw [Bool.and_eq_true, Bool.or_eq_true]
    refine ⟨?_, .inl ?_⟩
    · simp [List.all_eq_true, tieD, PySem.W.alike, PySem.W.alikeAll, nI]
    · simp [List.all_eq_true, tieD, isTupNE]
  have h3 : (PyData.list (gs.map tieD)).depth ≤ 60 := by
    have : ∀ l : List (Nat × Nat), PyData.depthAll (l.map tieD) ≤ 1 := fun l => by
      induction l with
      | nil => simp [PyData.depthAll]
      | cons x l ih => simp [PyData.depthAll, tieD, PyData.depth, nI]; exact Nat.max_le.mpr ⟨Nat.le_refl _, ih⟩
    have := this gs
    simp only [PyData.depth]
    omega
  unfold u1
  simp only [h1, allD_map, h2, Bool.true_and, sortD_tie, sortP_eq X.p X.s]
  rw [if_pos (decide_eq_true h3)]
theorem frzs_d (k : Nat) (S : Store) : ∀ ds : List PyData, frzs (frz (k + 1)) (ds.map T.d) S = some (ds, S)
  | [] => rfl
  | d :: ds => by
    rw [List.map_cons, frzs]
    have e : frz (k + 1) (T.d d) S = some (d, S) := rfl
    simp only [e, frzs_d k S ds]
theorem call4 (X : PX n es gs) (k : Nat) (tp : Bool) (S : Store) : callM (callF tab (k + 4)) 0 4 [.d (wv tp n gs)] S = .ok (tB true) S :=
  callM0 (ds := [wv tp n gs]) (S2 := []) (S3 := []) (t := tB true) rfl (f4 k n tp gs [] X.G.n0 X.G.n6 X.glt X.gnd X.glen) rfl
theorem f5 (X : PX n es gs) (k : Nat) (tp : Bool) (S : Store) : callF tab (k + 5) 5 [.d (wv tp n gs)] S = .ok (.tup [tN' n, .obj S.length]) (S ++ [.lst ((es.map tieD).map T.d)]) := by
  refine run_one (f := ⟨1, 1, b_5⟩) rfl rfl ?_
  show evB (callF tab (k + 4)) b_5 [some (.d (wv tp n gs))] S = _
  unfold b_5
  have s1 : evS (callF tab (k + 4)) (.ite (.not_ (.val (.call 0 4 (.cons (.var 0) .nil)))) (.cons .stuck .nil) .nil) [some (.d (wv tp n gs))] S = .nx [some (.d (wv tp n gs))] S := by
    have : evT (callF tab (k + 4)) (.not_ (.val (.call 0 4 (.cons (.var 0) .nil)))) [some (.d (wv tp n gs))] S = .ok false S := by
      have : ev (callF tab (k + 4)) (.call 0 4 (.cons (.var 0) .nil)) [some (.d (wv tp n gs))] S = .ok (tB true) S := call4 X k tp S
      rw [evT, evT, this]; rfl
    rw [evS, this, R.s_okE, cond_false, evB]
  have e1 : ev (callF tab (k + 4)) (.b false .idx (.var 0) (.lit (.int 0))) [some (.d (wv tp n gs))] S = .ok (tN' n) S := rfl
  have e2 : ev (callF tab (k + 4)) (.u true .sorted (.b false .idx (.var 0) (.lit (.int 1)))) [some (.d (wv tp n gs))] S = .ok (.obj S.length) (S ++ [.lst ((es.map tieD).map T.d)]) := by
    have : ev (callF tab (k + 4)) (.b false .idx (.var 0) (.lit (.int 1))) [some (.d (wv tp n gs))] S = .ok (.d (gv tp gs)) S := rfl
    rw [ev, this, R.bnd_okE, sorted_gv X]
    rfl
  have e3 : ev (callF tab (k + 4)) (.tup (.cons (.b false .idx (.var 0) (.lit (.int 0))) (.cons (.u true .sorted (.b false .idx (.var 0) (.lit (.int 1)))) .nil))) [some (.d (wv tp n gs))] S = .ok (.tup [tN' n, .obj S.length]) (S ++ [.lst ((es.map tieD).map T.d)]) := by
    rw [ev, evs, e1, R.bnd_okE, evs, e2, R.bnd_okE, evs]
    rfl
  rw [evB, s1, seqS_nx, evB, evS, e3]
  rfl
theorem frz_web (n : Nat) (es : List (Nat × Nat)) : frz deep (.tup [tN' n, .obj 0]) [.lst ((es.map tieD).map T.d)] = some (webD n es, [.fz (tiesD es)]) := by
  show frz (11 + 1) _ _ = _
  rw [frz]
  rw [frzs]
  have e1 : frz 11 (tN' n) [.lst ((es.map tieD).map T.d)] = some (nI n, [.lst ((es.map tieD).map T.d)]) := rfl
  have e2 : frz 11 (.obj 0) [.lst ((es.map tieD).map T.d)] = some (tiesD es, [.fz (tiesD es)]) := by
    show frz (10 + 1) _ _ = _
    rw [frz]
    have : ([Cell.lst ((es.map tieD).map T.d)] : Store)[0]? = some (.lst ((es.map tieD).map T.d)) := rfl
    simp only [this]
    rw [frzs_d 9]
    rfl
  simp only [e1]
  rw [frzs]
  simp only [e2]
  rw [frzs]
  rfl
theorem call5 (X : PX n es gs) (k : Nat) (tp : Bool) (S : Store) : callM (callF tab (k + 5)) 0 5 [.d (wv tp n gs)] S = .ok (.d (webD n es)) S :=
  callM0 (ds := [wv tp n gs]) (S2 := [.lst ((es.map tieD).map T.d)]) (S3 := [.fz (tiesD es)]) (t := .tup [tN' n, .obj 0]) rfl (f5 X k tp []) (frz_web n es)
/-! ### the functions of the interface -/
theorem f10 (X : PX n es gs) (k : Nat) (tp : Bool) (S : Store) : callF tab (k + 5) 10 [.d (wv tp n gs)] S = .ok (tB true) S := by
  refine run_one (f := ⟨1, 1, b_10⟩) rfl rfl ?_
  show evB (callF tab (k + 4)) b_10 [some (.d (wv tp n gs))] S = _
  unfold b_10
  have : ev (callF tab (k + 4)) (.call 0 4 (.cons (.var 0) .nil)) [some (.d (wv tp n gs))] S = .ok (tB true) S := call4 X k tp S
  rw [evB, evS, this]
  rfl
theorem f11 (X : PX n es gs) (k : Nat) (tp : Bool) (S : Store) : callF tab (k + 6) 11 [.d (wv tp n gs)] S = .ok (.tup [tN' n, .obj S.length]) (S ++ [.lst ((es.map tieD).map T.d)]) := by
  refine run_one (f := ⟨1, 1, b_11⟩) rfl rfl ?_
  show evB (callF tab (k + 5)) b_11 [some (.d (wv tp n gs))] S = _
  unfold b_11
  have : ev (callF tab (k + 5)) (.call 1 5 (.cons (.var 0) .nil)) [some (.d (wv tp n gs))] S = .ok (.tup [tN' n, .obj S.length]) (S ++ [.lst ((es.map tieD).map T.d)]) := f5 X k tp S
  rw [evB, evS, this]
  rfl
theorem f12 (X : PX n es gs) (k c : Nat) (tp : Bool) (S : Store) (hc : c < n) : callF tab (k + 6) 12 [.d (wv tp n gs), tN' c] S = .ok (.d (natsD (near1 es c))) S := by
  refine run_one (f := ⟨3, 2, b_12⟩) rfl rfl ?_
  show evB (callF tab (k + 5)) b_12 [some (.d (wv tp n gs)), some (tN' c), none] S = _
  unfold b_12
  have s1 : evS (callF tab (k + 5)) (.asg (.nm 2) (.call 0 5 (.cons (.var 0) .nil))) [some (.d (wv tp n gs)), some (tN' c), none] S = .nx [some (.d (wv tp n gs)), some (tN' c), some (.d (webD n es))] S := by
    have : ev (callF tab (k + 5)) (.call 0 5 (.cons (.var 0) .nil)) [some (.d (wv tp n gs)), some (tN' c), none] S = .ok (.d (webD n es)) S := call5 X k tp S
    rw [evS, this]; rfl
  have t1 : evT (callF tab (k + 5)) (.not_ (.val (.call 0 1 (.cons (.var 1) .nil)))) [some (.d (wv tp n gs)), some (tN' c), some (.d (webD n es))] S = .ok false S := by
    have : ev (callF tab (k + 5)) (.call 0 1 (.cons (.var 1) .nil)) [some (.d (wv tp n gs)), some (tN' c), some (.d (webD n es))] S = .ok (tB true) S := call1 (k + 3) c S
    rw [evT, evT, this]; rfl
  have t2 : evT (callF tab (k + 5)) (.val (.b false .ge (.var 1) (.b false .idx (.var 2) (.lit (.int 0))))) [some (.d (wv tp n gs)), some (tN' c), some (.d (webD n es))] S = .ok false S := by
    show (fin false S (some (.v (tB (decide ((n : Int) ≤ (c : Int))))))).bnd _ = _
    rw [decide_eq_false (by omega)]
    rfl
  have s2 : evS (callF tab (k + 5)) (.ite (.or_ (.not_ (.val (.call 0 1 (.cons (.var 1) .nil)))) (.val (.b false .ge (.var 1) (.b false .idx (.var 2) (.lit (.int 0)))))) (.cons .stuck .nil) .nil) [some (.d (wv tp n gs)), some (tN' c), some (.d (webD n es))] S = .nx [some (.d (wv tp n gs)), some (tN' c), some (.d (webD n es))] S := by
    rw [evS, evT, t1, R.bnd_okE, cond_false, t2, R.s_okE, cond_false, evB]
  have e3 : ev (callF tab (k + 5)) (.call 0 6 (.cons (.var 2) (.cons (.var 1) .nil))) [some (.d (wv tp n gs)), some (tN' c), some (.d (webD n es))] S = .ok (.d (natsD (near1 es c))) S := call6 (k + 4) n c es S X.G.len
  rw [evB, s1, seqS_nx, evB, s2, seqS_nx, evB, evS, e3]
  rfl
theorem frz_nats (k : Nat) {S : Store} {m : Nat} {l : List Nat} (h : S[m]? = some (.lst (natsT l))) : frz (k + 2) (.obj m) S = some (natsD l, S.set m (.fz (natsD l))) := by
  show frz (k + 1 + 1) _ _ = _
  rw [frz]
  simp only [h]
  rw [← natsT_eq, frzs_d k]
  rfl
theorem f13 (X : PX n es gs) (k : Nat) (tp : Bool) (S : Store) {r : List Nat} (hr : reachL (near1 es) 20 [0] [0] = some r) : callF tab (k + 6) 13 [.d (wv tp n gs)] S = .ok (tB (decide (r.length = n))) S := by
  refine run_one (f := ⟨2, 1, b_13⟩) rfl rfl ?_
  show evB (callF tab (k + 5)) b_13 [some (.d (wv tp n gs)), none] S = _
  unfold b_13
  have s1 : evS (callF tab (k + 5)) (.asg (.nm 1) (.call 0 5 (.cons (.var 0) .nil))) [some (.d (wv tp n gs)), none] S = .nx [some (.d (wv tp n gs)), some (.d (webD n es))] S := by
    have : ev (callF tab (k + 5)) (.call 0 5 (.cons (.var 0) .nil)) [some (.d (wv tp n gs)), none] S = .ok (.d (webD n es)) S := call5 X k tp S
    rw [evS, this]; rfl
  have e1 : ev (callF tab (k + 5)) (.call 0 7 (.cons (.var 1) .nil)) [some (.d (wv tp n gs)), some (.d (webD n es))] S = .ok (.d (natsD r)) S := by
    show callM (callF tab (k + 5)) 0 7 [.d (webD n es)] S = _
    exact callM0 (ds := [webD n es]) (S2 := [.lst (natsT r), .lst []]) (t := .obj 0) rfl (f7 (k + 3) n es X.G.len hr) (frz_nats 10 rfl)
  have e2 : ev (callF tab (k + 5)) (.b false .eq (.u false .len (.call 0 7 (.cons (.var 1) .nil))) (.b false .idx (.var 1) (.lit (.int 0)))) [some (.d (wv tp n gs)), some (.d (webD n es))] S = .ok (tB (decide (r.length = n))) S := by
    have e3 : ev (callF tab (k + 5)) (.u false .len (.call 0 7 (.cons (.var 1) .nil))) [some (.d (wv tp n gs)), some (.d (webD n es))] S = .ok (tN' r.length) S := by
      rw [ev, e1, R.bnd_okE, u1_lenN]; rfl
    have e4 : ev (callF tab (k + 5)) (.b false .idx (.var 1) (.lit (.int 0))) [some (.d (wv tp n gs)), some (.d (webD n es))] S = .ok (tN' n) S := rfl
    rw [ev, e3, R.bnd_okE, e4, R.bnd_okE, b2_eqN]
    have : (r.length == n) = decide (r.length = n) := by
      rw [Bool.eq_iff_iff]; simp
    rw [this]; rfl
  rw [evB, s1, seqS_nx, evB, evS, e2]
  rfl
theorem f14 (X : PX n es gs) (k : Nat) (tp : Bool) (S : Store) {K : List Nat} (hr : keptL (near1 es) 6 (List.range n) [] = some K) : callF tab (k + 6) 14 [.d (wv tp n gs)] S = .ok (tB (!decide (K = []))) S := by
  refine run_one (f := ⟨1, 1, b_14⟩) rfl rfl ?_
  show evB (callF tab (k + 5)) b_14 [some (.d (wv tp n gs))] S = _
  unfold b_14
  have e0 : ev (callF tab (k + 5)) (.call 0 5 (.cons (.var 0) .nil)) [some (.d (wv tp n gs))] S = .ok (.d (webD n es)) S := call5 X k tp S
  have e1 : ev (callF tab (k + 5)) (.call 0 8 (.cons (.call 0 5 (.cons (.var 0) .nil)) .nil)) [some (.d (wv tp n gs))] S = .ok (.d (natsD K)) S := by
    rw [ev, evs, e0, R.bnd_okE, evs, R.bnd_okE, R.bnd_okE]
    exact call8 (k + 3) n es X.G.len X.G.n6 hr S
  have e2 : ev (callF tab (k + 5)) (.lst false .nil) [some (.d (wv tp n gs))] S = .ok (.d (natsD [])) S := rfl
  rw [evB, evS, ev, e1, R.bnd_okE, e2, R.bnd_okE, b2_neL (a := K) (b := []) rfl rfl]
  rfl
theorem f15_none (X : PX n es gs) (k : Nat) (tp : Bool) (hr : keptL (near1 es) 6 (List.range n) [] = some []) (S : Store) : callF tab (k + 6) 15 [.d (wv tp n gs)] S = .ok tN S := by
  refine run_one (f := ⟨1, 1, b_15⟩) rfl rfl ?_
  show evB (callF tab (k + 5)) b_15 [some (.d (wv tp n gs))] S = _
  unfold b_15
  have e0 : ev (callF tab (k + 5)) (.call 0 5 (.cons (.var 0) .nil)) [some (.d (wv tp n gs))] S = .ok (.d (webD n es)) S := call5 X k tp S
  have e1 : ev (callF tab (k + 5)) (.call 0 9 (.cons (.call 0 5 (.cons (.var 0) .nil)) .nil)) [some (.d (wv tp n gs))] S = .ok tN S := by
    rw [ev, evs, e0, R.bnd_okE, evs, R.bnd_okE, R.bnd_okE]
    exact callM0 (ds := [webD n es]) (S2 := []) (S3 := []) (t := tN) rfl (f9_none (k + 2) n es X.G.len X.G.n6 hr) rfl
  rw [evB, evS, e1]
  rfl
theorem f15_some (X : PX n es gs) (k : Nat) (tp : Bool) {x : Nat} {K r : List Nat} (hr : keptL (near1 es) 6 (List.range n) [] = some (x :: K)) (hg : ringL (near1 es) (x :: K) 6 [x] = some r) (S : Store) : callF tab (k + 6) 15 [.d (wv tp n gs)] S = .ok (.d (natsD r)) S := by
  refine run_one (f := ⟨1, 1, b_15⟩) rfl rfl ?_
  show evB (callF tab (k + 5)) b_15 [some (.d (wv tp n gs))] S = _
  unfold b_15
  have e0 : ev (callF tab (k + 5)) (.call 0 5 (.cons (.var 0) .nil)) [some (.d (wv tp n gs))] S = .ok (.d (webD n es)) S := call5 X k tp S
  obtain ⟨S', h9⟩ := f9_some (k + 2) n es X.G.len X.G.n6 hr hg
  have e1 : ev (callF tab (k + 5)) (.call 0 9 (.cons (.call 0 5 (.cons (.var 0) .nil)) .nil)) [some (.d (wv tp n gs))] S = .ok (.d (natsD r)) S := by
    rw [ev, evs, e0, R.bnd_okE, evs, R.bnd_okE, R.bnd_okE]
    exact callM0 (ds := [webD n es]) (S2 := S') (S3 := S') (t := .d (natsD r)) rfl h9 rfl
  rw [evB, evS, e1]
  rfl
end
end L81
end

section
set_option linter.all false
set_option maxRecDepth 100000
set_option maxHeartbeats 4000000
set_option autoImplicit false
namespace L81
open PySem Mc G81
/-! ### the pot -/
theorem idx_cell {S : Store} {p : Nat} {ts : List T} {j : Nat} {t : T} (e : S[p]? = some (.lst ts)) (h : ts[j]? = some t) : b2 .idx S (.obj p) (tI (j : Nat)) = some (.v (norm S t)) := by
  have h1 : seqOf S (.obj p) = some ts := by
    unfold seqOf lstOf
    simp only [e]
  have h2 : at_ ts (j : Nat) = some t := by
    unfold at_
    rw [if_pos (by omega)]
    exact h
  unfold b2
  simp only [h1, h2, Option.map_some]
theorem b2_mulR (S : Store) (i j : Int) (h : small j = true) : b2 .mul S (tI i) (tI j) = some (.v (tI (i * j))) := by
  show (if (small i || small j) = true then some (O.v (tI (i * j))) else none) = _
  rw [if_pos (by rw [h]; simp)]
theorem b2_modP (S : Store) (i j : Int) (h : 0 < j) : b2 .mod S (tI i) (tI j) = some (.v (tI (i % j))) := by
  show (if 0 < j then some (O.v (tI (i % j))) else none) = _
  rw [if_pos h]
theorem b2_fdivP (S : Store) (i j : Int) (h : 0 < j) (h2 : j < 1073741824) : b2 .fdiv S (tI i) (tI j) = some (.v (tI (i / j))) := by
  show (if (decide (0 < j) && decide (j < 1073741824)) = true then some (O.v (tI (i / j))) else none) = _
  rw [if_pos (by simp [h, h2])]
theorem b2_divmodP (S : Store) (i j : Int) (h : 0 < j) (h2 : j < 1073741824) : b2 .divmod S (tI i) (tI j) = some (.v (.d (.tuple [.int (i / j), .int (i % j)]))) := by
  show (if (decide (0 < j) && decide (j < 1073741824)) = true then some (O.v (.d (.tuple [.int (i / j), .int (i % j)]))) else none) = _
  rw [if_pos (by simp [h, h2])]
theorem fin_vE (hp : Bool) (S : Store) (t : T) : fin hp S (some (.v t)) = .ok t S := rfl
theorem f17 (k p : Nat) (S : Store) (a b m : Int) (hS : S[p]? = some (.lst [tI a, tI b])) (ha : 0 ≤ a) (hb : 0 ≤ b) (hm : 0 < m) (hm2 : m < 1073741824) :
    ∃ (r a' b' : Int), callF tab (k + 1) 17 [.obj p, tI m] S = .ok (tI r) (S.set p (.lst [tI a', tI b'])) ∧ 0 ≤ r ∧ r < m ∧ 0 ≤ a' ∧ 0 ≤ b' := by
  have hp : p < S.length := (List.getElem?_eq_some_iff.mp hS).1
  have i0 : ∀ x, ev (callF tab k) (.b false .idx (.var 0) (.lit (.int 0))) [some (.obj p), some (tI m), x] S = .ok (tI a) S := fun x => by
    show fin false S (b2 .idx (S) (norm S (.obj p)) (tI 0)) = _
    have : norm S (.obj p) = .obj p := by unfold norm; simp only [hS]
    rw [this, show (0 : Int) = ((0 : Nat) : Int) from rfl, idx_cell hS rfl]; rfl
  have n0 : ∀ (S' : Store) (ts : List T), S'[p]? = some (.lst ts) → norm S' (.obj p) = .obj p := fun S' ts h => by unfold norm; simp only [h]
  have v0 : ∀ (S' : Store) (ts : List T) (x : Option T), S'[p]? = some (.lst ts) → ev (callF tab k) (.var 0) [some (.obj p), some (tI m), x] S' = .ok (.obj p) S' := fun S' ts x h => by
    show R.ok (norm S' (.obj p)) S' = _
    rw [n0 S' ts h]
  have tst : evT (callF tab k) (.val (.b false .gt (.b false .idx (.var 0) (.lit (.int 0))) (.lit (.int 0)))) [some (.obj p), some (tI m), none] S = .ok (decide (0 < a)) S := by
    rw [evT, ev, i0, R.bnd_okE]
    show (fin false S (b2 .gt S (tI a) (tI 0))).bnd _ = _
    rw [b2_gtI]; rfl
  by_cases h : 0 < a
  · refine ⟨a % m, a / m, b, ?_, Int.emod_nonneg _ (by omega), Int.emod_lt_of_pos _ hm, Int.ediv_nonneg ha (by omega), hb⟩
    refine run_one (f := ⟨3, 2, b_17⟩) rfl rfl ?_
    show evB (callF tab k) b_17 [some (.obj p), some (tI m), none] S = _
    unfold b_17
    have e1 : ev (callF tab k) (.b false .divmod (.b false .idx (.var 0) (.lit (.int 0))) (.var 1)) [some (.obj p), some (tI m), none] S = .ok (.d (.tuple [.int (a / m), .int (a % m)])) S := by
      have v1 : ev (callF tab k) (.var 1) [some (.obj p), some (tI m), none] S = .ok (tI m) S := rfl
      rw [ev, i0, R.bnd_okE, v1, R.bnd_okE, b2_divmodP S a m hm hm2, fin_vE]
    have e2 : evG (callF tab k) (.tup (.cons (.sub (.var 0) (.lit (.int 0))) (.cons (.nm 2) .nil))) (.d (.tuple [.int (a / m), .int (a % m)])) [some (.obj p), some (tI m), none] S = .ok [some (.obj p), some (tI m), some (tI (a % m))] (S.set p (.lst [tI (a / m), tI b])) := by
      have as : asTup (Tgs.cons (.sub (.var 0) (.lit (.int 0))) (.cons (.nm 2) .nil)).len (.d (.tuple [.int (a / m), .int (a % m)])) S = .ok [tI (a / m), tI (a % m)] S := rfl
      have l0 : ev (callF tab k) (.lit (.int 0)) [some (.obj p), some (tI m), none] S = .ok (tI 0) S := rfl
      have sb : subK (.obj p) (tI 0) (tI (a / m)) [some (.obj p), some (tI m), none] S = .ok [some (.obj p), some (tI m), none] (S.set p (.lst [tI (a / m), tI b])) := by
        unfold subK
        simp only [hS]
        rfl
      rw [evG, as, R.bnd_okE, evGs, evG, v0 S _ none hS, R.bnd_okE, l0, R.bnd_okE, sb, R.bnd_okE]
      rfl
    have s1 : evS (callF tab k) (.ite (.val (.b false .gt (.b false .idx (.var 0) (.lit (.int 0))) (.lit (.int 0)))) (.cons (.asg (.tup (.cons (.sub (.var 0) (.lit (.int 0))) (.cons (.nm 2) .nil))) (.b false .divmod (.b false .idx (.var 0) (.lit (.int 0))) (.var 1))) (.cons (.ret (.var 2)) .nil)) .nil) [some (.obj p), some (tI m), none] S = .rt (tI (a % m)) (S.set p (.lst [tI (a / m), tI b])) := by
      rw [evS, tst, R.s_okE, decide_eq_true h, cond_true, evB, evS, e1, R.s_okE, e2, R.s_okE, seqS_nx]
      rfl
    rw [evB, s1, seqS_rt]
  · have e48 : small 48271 = true := by decide
    have hb' : 0 ≤ (b * 48271 + 151) % 2147483587 := Int.emod_nonneg _ (by omega)
    have hb2 : (b * 48271 + 151) % 2147483587 < 2147483587 := Int.emod_lt_of_pos _ (by omega)
    generalize hB : (b * 48271 + 151) % 2147483587 = B at hb' hb2
    refine ⟨B * B % 2147483549 / 13 % m, a, B, ?_, Int.emod_nonneg _ (by omega), Int.emod_lt_of_pos _ hm, ha, hb'⟩
    refine run_one (f := ⟨3, 2, b_17⟩) rfl rfl ?_
    show evB (callF tab k) b_17 [some (.obj p), some (tI m), none] S = _
    unfold b_17
    have s1 : evS (callF tab k) (.ite (.val (.b false .gt (.b false .idx (.var 0) (.lit (.int 0))) (.lit (.int 0)))) (.cons (.asg (.tup (.cons (.sub (.var 0) (.lit (.int 0))) (.cons (.nm 2) .nil))) (.b false .divmod (.b false .idx (.var 0) (.lit (.int 0))) (.var 1))) (.cons (.ret (.var 2)) .nil)) .nil) [some (.obj p), some (tI m), none] S = .nx [some (.obj p), some (tI m), none] S := by
      rw [evS, tst, R.s_okE, decide_eq_false h, cond_false, evB]
    have i1 : ev (callF tab k) (.b false .idx (.var 0) (.lit (.int 1))) [some (.obj p), some (tI m), none] S = .ok (tI b) S := by
      have l1 : ev (callF tab k) (.lit (.int 1)) [some (.obj p), some (tI m), none] S = .ok (tI ((1 : Nat) : Int)) S := rfl
      rw [ev, v0 S _ none hS, R.bnd_okE, l1, R.bnd_okE, idx_cell hS rfl]; rfl
    have hS2 : (S.set p (.lst [tI a, tI B]))[p]? = some (.lst [tI a, tI B]) := List.getElem?_set_self hp
    have e1 : ev (callF tab k) (.b false .mod (.b false .add (.b false .mul (.b false .idx (.var 0) (.lit (.int 1))) (.lit (.int 48271))) (.lit (.int 151))) (.lit (.int 2147483587))) [some (.obj p), some (tI m), none] S = .ok (tI B) S := by
      have l1 : ∀ z : Int, ev (callF tab k) (.lit (.int z)) [some (.obj p), some (tI m), none] S = .ok (tI z) S := fun _ => rfl
      have ad : ∀ x y : Int, b2 .add S (tI x) (tI y) = some (.v (tI (x + y))) := fun _ _ => rfl
      rw [ev, ev, ev, i1, R.bnd_okE, l1, R.bnd_okE, b2_mulR S b 48271 e48, fin_vE, R.bnd_okE, l1, R.bnd_okE, ad, fin_vE, R.bnd_okE, l1, R.bnd_okE, b2_modP S _ _ (by decide), fin_vE, hB]
    have e2 : evG (callF tab k) (.sub (.var 0) (.lit (.int 1))) (tI B) [some (.obj p), some (tI m), none] S = .ok [some (.obj p), some (tI m), none] (S.set p (.lst [tI a, tI B])) := by
      have l1 : ev (callF tab k) (.lit (.int 1)) [some (.obj p), some (tI m), none] S = .ok (tI 1) S := rfl
      rw [evG, v0 S _ none hS, R.bnd_okE, l1, R.bnd_okE]
      unfold subK
      simp only [hS]
      rfl
    have s2 : evS (callF tab k) (.asg (.sub (.var 0) (.lit (.int 1))) (.b false .mod (.b false .add (.b false .mul (.b false .idx (.var 0) (.lit (.int 1))) (.lit (.int 48271))) (.lit (.int 151))) (.lit (.int 2147483587)))) [some (.obj p), some (tI m), none] S = .nx [some (.obj p), some (tI m), none] (S.set p (.lst [tI a, tI B])) := by
      rw [evS, e1, R.s_okE, e2, R.s_okE]
    generalize S.set p (.lst [tI a, tI B]) = S2 at hS2 s2 ⊢
    have j1 : ev (callF tab k) (.b false .idx (.var 0) (.lit (.int 1))) [some (.obj p), some (tI m), none] S2 = .ok (tI B) S2 := by
      have l1 : ev (callF tab k) (.lit (.int 1)) [some (.obj p), some (tI m), none] S2 = .ok (tI ((1 : Nat) : Int)) S2 := rfl
      rw [ev, v0 S2 _ none hS2, R.bnd_okE, l1, R.bnd_okE, idx_cell hS2 rfl]; rfl
    have l1 : ∀ z : Int, ev (callF tab k) (.lit (.int z)) [some (.obj p), some (tI m), none] S2 = .ok (tI z) S2 := fun _ => rfl
    have v1 : ev (callF tab k) (.var 1) [some (.obj p), some (tI m), none] S2 = .ok (tI m) S2 := rfl
    have sm : small B = true := by
      unfold small
      rw [Bool.and_eq_true, decide_eq_true_eq, decide_eq_true_eq]
      omega
    have e3 : ev (callF tab k) (.b false .mod (.b false .fdiv (.b false .mod (.b false .mul (.b false .idx (.var 0) (.lit (.int 1))) (.b false .idx (.var 0) (.lit (.int 1)))) (.lit (.int 2147483549))) (.lit (.int 13))) (.var 1)) [some (.obj p), some (tI m), none] S2 = .ok (tI (B * B % 2147483549 / 13 % m)) S2 := by
      rw [ev, ev, ev, ev, j1, R.bnd_okE, j1, R.bnd_okE, b2_mulR S2 B B sm, fin_vE, R.bnd_okE, l1, R.bnd_okE, b2_modP S2 _ _ (by decide), fin_vE, R.bnd_okE, l1, R.bnd_okE, b2_fdivP S2 _ _ (by decide) (by decide), fin_vE, R.bnd_okE, v1, R.bnd_okE, b2_modP S2 _ _ hm, fin_vE]
    rw [evB, s1, seqS_nx, evB, s2, seqS_nx, evB, evS, e3]
    rfl
end L81
end

section
set_option linter.all false
set_option maxRecDepth 100000
set_option maxHeartbeats 4000000
set_option autoImplicit false
namespace L81
open PySem Mc G81
def scr (ns : List Int) : PyData := .list (ns.map .int)
theorem f16 (k : Nat) (S : Store) (ns : List Int) : ∃ a b : Int, callF tab (k + 1) 16 [.d (scr ns), tI 0] S = .ok (.obj S.length) (S ++ [.lst [tI a, tI b]]) ∧ 0 ≤ a ∧ 0 ≤ b := by
  have body : ∃ c : Int, evB (callF tab k) b_16 [some (.d (scr ns)), some (tI 0), none] S = evB (callF tab k) (.cons (.ret (.lst true (.cons (.b false .max2 (.lit (.int 0)) (.b false .sub (.var 2) (.b false .pow (.lit (.int 10)) (.lit (.int 18))))) (.cons (.b false .add (.b false .mod (.b false .mul (.b false .add (.b false .mod (.var 2) (.lit (.int 2147483549))) (.lit (.int 151))) (.b false .pow (.b false .add (.b false .mul (.lit (.int 2)) (.var 1)) (.lit (.int 95))) (.lit (.int 3)))) (.lit (.int 2147483477))) (.lit (.int 1))) .nil)))) .nil) [some (.d (scr ns)), some (tI 0), some (tI c)] S := by
    cases ns with
    | nil => exact ⟨827, rfl⟩
    | cons i rest =>
      refine ⟨if i < 0 then -i else i, ?_⟩
      unfold b_16
      have m0 : ev (callF tab k) (.b false .add (.b false .mul (.lit (.int 449)) (.var 1)) (.lit (.int 827))) [some (.d (scr (i :: rest))), some (tI 0), none] S = .ok (tI 827) S := rfl
      have sl : ev (callF tab k) (.sl false (.var 0) .none (.some (.lit (.int 1)))) [some (.d (scr (i :: rest))), some (tI 0), none] S = .ok (.d (.list [.int i])) S := by
        have h : sl3 S (.d (scr (i :: rest))) none (some ((1 : Nat) : Int)) = some (.l [tI i]) := by
          show some (O.l (cut (((i :: rest).map PyData.int).map T.d) none (some ((1 : Nat) : Int)))) = _
          by_cases hr : rest = []
          · subst hr; rfl
          · rw [cut_take _ 1 (by
              have := List.length_pos_iff.mpr hr
              simp; omega)]
            rfl
        have e : ev (callF tab k) (.sl false (.var 0) .none (.some (.lit (.int 1)))) [some (.d (scr (i :: rest))), some (tI 0), none] S = fin false S (sl3 S (.d (scr (i :: rest))) none (some ((1 : Nat) : Int))) := rfl
        rw [e, h]; rfl
      have sm : ev (callF tab k) (.u false .sum (.sl false (.var 0) .none (.some (.lit (.int 1))))) [some (.d (scr (i :: rest))), some (tI 0), none] S = .ok (tI (i + 0)) S := by
        rw [ev, sl, R.bnd_okE]; rfl
      have l3 : ev (callF tab k) (.lit (.int 1000003)) [some (.d (scr (i :: rest))), some (tI 0), none] S = .ok (tI 1000003) S := rfl
      have s1 : evS (callF tab k) (.asg (.nm 2) (.b false .add (.b false .add (.b false .mul (.lit (.int 449)) (.var 1)) (.lit (.int 827))) (.b false .mod (.u false .sum (.sl false (.var 0) .none (.some (.lit (.int 1))))) (.lit (.int 1000003))))) [some (.d (scr (i :: rest))), some (tI 0), none] S = .nx [some (.d (scr (i :: rest))), some (tI 0), some (tI (827 + (i + 0) % 1000003))] S := by
        rw [evS, ev, m0, R.bnd_okE, ev, sm, R.bnd_okE, l3, R.bnd_okE, b2_modP S _ _ (by decide), fin_vE, R.bnd_okE]
        rfl
      have tt : evT (callF tab k) (.val (.b false .lt (.var 1) (.u false .len (.var 0)))) [some (.d (scr (i :: rest))), some (tI 0), some (tI (827 + (i + 0) % 1000003))] S = .ok true S := by
        have hl : ev (callF tab k) (.u false .len (.var 0)) [some (.d (scr (i :: rest))), some (tI 0), some (tI (827 + (i + 0) % 1000003))] S = .ok (tI ((((i :: rest).map PyData.int).map T.d).length : Nat)) S := rfl
        have v1 : ev (callF tab k) (.var 1) [some (.d (scr (i :: rest))), some (tI 0), some (tI (827 + (i + 0) % 1000003))] S = .ok (tI 0) S := rfl
        rw [evT, ev, v1, R.bnd_okE, hl, R.bnd_okE, b2_ltI, decide_eq_true (by simp)]
        rfl
      have s2 : evS (callF tab k) (.asg (.nm 2) (.u false .abs (.b false .idx (.var 0) (.var 1)))) [some (.d (scr (i :: rest))), some (tI 0), some (tI (827 + (i + 0) % 1000003))] S = .nx [some (.d (scr (i :: rest))), some (tI 0), some (tI (if i < 0 then -i else i))] S := rfl
      have s3 : evS (callF tab k) (.ite (.val (.b false .lt (.var 1) (.u false .len (.var 0)))) (.cons (.asg (.nm 2) (.u false .abs (.b false .idx (.var 0) (.var 1)))) .nil) .nil) [some (.d (scr (i :: rest))), some (tI 0), some (tI (827 + (i + 0) % 1000003))] S = .nx [some (.d (scr (i :: rest))), some (tI 0), some (tI (if i < 0 then -i else i))] S := by
        rw [evS, tt, R.s_okE, cond_true, evB, s2, seqS_nx, evB]
      rw [evB, s1, seqS_nx, evB, s3, seqS_nx]
  obtain ⟨c, hc⟩ := body
  have l : ∀ z : Int, ev (callF tab k) (.lit (.int z)) [some (.d (scr ns)), some (tI 0), some (tI c)] S = .ok (tI z) S := fun _ => rfl
  have v2 : ev (callF tab k) (.var 2) [some (.d (scr ns)), some (tI 0), some (tI c)] S = .ok (tI c) S := rfl
  have pw : ev (callF tab k) (.b false .pow (.lit (.int 10)) (.lit (.int 18))) [some (.d (scr ns)), some (tI 0), some (tI c)] S = .ok (tI (10 ^ 18)) S := rfl
  have pw2 : ev (callF tab k) (.b false .pow (.b false .add (.b false .mul (.lit (.int 2)) (.var 1)) (.lit (.int 95))) (.lit (.int 3))) [some (.d (scr ns)), some (tI 0), some (tI c)] S = .ok (tI ((2 * 0 + 95) ^ 3)) S := rfl
  have ad : ∀ x y : Int, b2 .add S (tI x) (tI y) = some (.v (tI (x + y))) := fun _ _ => rfl
  have sb : ∀ x y : Int, b2 .sub S (tI x) (tI y) = some (.v (tI (x - y))) := fun _ _ => rfl
  have mx : ∀ x y : Int, b2 .max2 S (tI x) (tI y) = some (.v (tI (if y > x then y else x))) := fun _ _ => rfl
  have e1 : ev (callF tab k) (.b false .max2 (.lit (.int 0)) (.b false .sub (.var 2) (.b false .pow (.lit (.int 10)) (.lit (.int 18))))) [some (.d (scr ns)), some (tI 0), some (tI c)] S = .ok (tI (if c - 10 ^ 18 > 0 then c - 10 ^ 18 else 0)) S := by
    rw [ev, l, R.bnd_okE, ev, v2, R.bnd_okE, pw, R.bnd_okE, sb, fin_vE, R.bnd_okE, mx, fin_vE]
  have e2 : ev (callF tab k) (.b false .add (.b false .mod (.b false .mul (.b false .add (.b false .mod (.var 2) (.lit (.int 2147483549))) (.lit (.int 151))) (.b false .pow (.b false .add (.b false .mul (.lit (.int 2)) (.var 1)) (.lit (.int 95))) (.lit (.int 3)))) (.lit (.int 2147483477))) (.lit (.int 1))) [some (.d (scr ns)), some (tI 0), some (tI c)] S = .ok (tI ((c % 2147483549 + 151) * (2 * 0 + 95) ^ 3 % 2147483477 + 1)) S := by
    rw [ev, ev, ev, ev, ev, v2, R.bnd_okE, l, R.bnd_okE, b2_modP S _ _ (by decide), fin_vE, R.bnd_okE, l, R.bnd_okE, ad, fin_vE, R.bnd_okE, pw2, R.bnd_okE, b2_mulR S _ _ (by decide), fin_vE, R.bnd_okE, l, R.bnd_okE, b2_modP S _ _ (by decide), fin_vE, R.bnd_okE, l, R.bnd_okE, ad, fin_vE]
  have e3 : ev (callF tab k) (.lst true (.cons (.b false .max2 (.lit (.int 0)) (.b false .sub (.var 2) (.b false .pow (.lit (.int 10)) (.lit (.int 18))))) (.cons (.b false .add (.b false .mod (.b false .mul (.b false .add (.b false .mod (.var 2) (.lit (.int 2147483549))) (.lit (.int 151))) (.b false .pow (.b false .add (.b false .mul (.lit (.int 2)) (.var 1)) (.lit (.int 95))) (.lit (.int 3)))) (.lit (.int 2147483477))) (.lit (.int 1))) .nil))) [some (.d (scr ns)), some (tI 0), some (tI c)] S = .ok (.obj S.length) (S ++ [.lst [tI (if c - 10 ^ 18 > 0 then c - 10 ^ 18 else 0), tI ((c % 2147483549 + 151) * (2 * 0 + 95) ^ 3 % 2147483477 + 1)]]) := by
    rw [ev, evs, e1, R.bnd_okE, evs, e2, R.bnd_okE, evs]
    rfl
  refine ⟨if c - 10 ^ 18 > 0 then c - 10 ^ 18 else 0, (c % 2147483549 + 151) * (2 * 0 + 95) ^ 3 % 2147483477 + 1, run_one (f := ⟨3, 2, b_16⟩) rfl rfl ?_, ?_, ?_⟩
  · show evB (callF tab k) b_16 [some (.d (scr ns)), some (tI 0), none] S = _
    rw [hc, evB, evS, e3]
    rfl
  · split <;> omega
  · have : 0 ≤ (c % 2147483549 + 151) * (2 * 0 + 95) ^ 3 % 2147483477 := Int.emod_nonneg _ (by decide)
    omega
end L81
end

section
set_option linter.all false
set_option maxRecDepth 100000
set_option maxHeartbeats 4000000
set_option autoImplicit false
namespace L81
open PySem Mc G81
/-! ### _law_web -/
def pot (a b : Int) : Cell := .lst [tI a, tI b]
def tcell (es : List (Nat × Nat)) : Cell := .lst (es.map fun e => T.d (tieD e))
def wS (a b : Int) (es : List (Nat × Nat)) : Store := [pot a b, tcell es]
def wSg (n : Nat) (low x : Option T) : Sg := [some (.obj 0), some (tI 1), some (tI 6), low, some (tN' n), some (.obj 1), x]
def wIn : Bx := (.cons (.ite (.val (.b false .eq (.call 1 17 (.cons (.var 0) (.cons (.lit (.int 2)) .nil))) (.lit (.int 0)))) (.cons (.exp (.app (.var 5) (.tup (.cons (.var 3) (.cons (.var 6) .nil))))) .nil) .nil) .nil)
theorem draw_at (k p : Nat) (S : Store) (a b m : Int) (hS : S[p]? = some (pot a b)) (ha : 0 ≤ a) (hb : 0 ≤ b) (hm : 0 < m) (hm2 : m < 1073741824) :
    ∃ (r a' b' : Int), callM (callF tab (k + 1)) 1 17 [.obj p, tI m] S = .ok (tI r) (S.set p (pot a' b')) ∧ 0 ≤ r ∧ r < m ∧ 0 ≤ a' ∧ 0 ≤ b' := f17 k p S a b m hS ha hb hm hm2
theorem b2_eqI (S : Store) (a b : Int) : b2 .eq S (tI a) (tI b) = some (.v (tB (a == b))) := rfl
theorem w_in (k n low : Nat) : ∀ (hs : List Nat) (es : List (Nat × Nat)) (a b : Int) (x : Option T), 0 ≤ a → 0 ≤ b → es.length + hs.length ≤ 100 → ∃ (a' b' : Int) (sub : List (Nat × Nat)) (x' : Option T),
    forL (fun t sg1 S2 => (evG (callF tab (k + 1)) (.nm 6) t sg1 S2).s fun sg2 S3 => evB (callF tab (k + 1)) wIn sg2 S3) (natsT hs) (wSg n (some (tN' low)) x) (wS a b es) = .nx (wSg n (some (tN' low)) x') (wS a' b' (es ++ sub)) ∧ 0 ≤ a' ∧ 0 ≤ b' ∧ sub.Sublist (hs.map fun h => (low, h))
  | [], es, a, b, x, ha, hb, _ => ⟨a, b, [], x, by rw [List.append_nil]; rfl, ha, hb, List.Sublist.refl _⟩
  | h :: hs, es, a, b, x, ha, hb, hl => by
    have hg : evG (callF tab (k + 1)) (.nm 6) (tN' h) (wSg n (some (tN' low)) x) (wS a b es) = .ok (wSg n (some (tN' low)) (some (tN' h))) (wS a b es) := rfl
    obtain ⟨r, a1, b1, hd, h1, h2, ha1, hb1⟩ := draw_at k 0 (wS a b es) a b 2 rfl ha hb (by decide) (by decide)
    have hd : callM (callF tab (k + 1)) 1 17 [.obj 0, tI 2] (wS a b es) = .ok (tI r) (wS a1 b1 es) := hd
    have tt : evT (callF tab (k + 1)) (.val (.b false .eq (.call 1 17 (.cons (.var 0) (.cons (.lit (.int 2)) .nil))) (.lit (.int 0)))) (wSg n (some (tN' low)) (some (tN' h))) (wS a b es) = .ok (r == 0) (wS a1 b1 es) := by
      have e1 : ev (callF tab (k + 1)) (.call 1 17 (.cons (.var 0) (.cons (.lit (.int 2)) .nil))) (wSg n (some (tN' low)) (some (tN' h))) (wS a b es) = .ok (tI r) (wS a1 b1 es) := hd
      have e2 : ev (callF tab (k + 1)) (.lit (.int 0)) (wSg n (some (tN' low)) (some (tN' h))) (wS a1 b1 es) = .ok (tI 0) (wS a1 b1 es) := rfl
      rw [evT, ev, e1, R.bnd_okE, e2, R.bnd_okE, b2_eqI, fin_vE]
      rfl
    rw [List.length_cons] at hl
    by_cases hr : r = 0
    · have ap : evB (callF tab (k + 1)) (.cons (.exp (.app (.var 5) (.tup (.cons (.var 3) (.cons (.var 6) .nil))))) .nil) (wSg n (some (tN' low)) (some (tN' h))) (wS a1 b1 es) = .nx (wSg n (some (tN' low)) (some (tN' h))) (wS a1 b1 (es ++ [(low, h)])) := by
        have e3 : ev (callF tab (k + 1)) (.app (.var 5) (.tup (.cons (.var 3) (.cons (.var 6) .nil)))) (wSg n (some (tN' low)) (some (tN' h))) (wS a1 b1 es) = .ok tN (wS a1 b1 (es ++ [(low, h)])) := by
          have e4 : ev (callF tab (k + 1)) (.app (.var 5) (.tup (.cons (.var 3) (.cons (.var 6) .nil)))) (wSg n (some (tN' low)) (some (tN' h))) (wS a1 b1 es) = appK (.obj 1) (.d (tieD (low, h))) (wS a1 b1 es) := rfl
          have e5 : (wS a1 b1 es)[1]? = some (.lst (es.map fun e => T.d (tieD e))) := rfl
          rw [e4]
          unfold appK
          simp only [e5, List.length_map]
          rw [if_pos (by unfold line; omega)]
          show R.ok tN [pot a1 b1, .lst (es.map (fun e => T.d (tieD e)) ++ [T.d (tieD (low, h))])] = _
          unfold wS tcell
          rw [List.map_append]
          rfl
        rw [evB, evS, e3]
        rfl
      obtain ⟨a2, b2', sub, x', hf, ha2, hb2, hsub⟩ := w_in k n low hs (es ++ [(low, h)]) a1 b1 (some (tN' h)) ha1 hb1 (by rw [List.length_append, List.length_singleton]; omega)
      refine ⟨a2, b2', (low, h) :: sub, x', ?_, ha2, hb2, by rw [List.map_cons]; exact hsub.cons_cons _⟩
      show loopK ((evG (callF tab (k + 1)) (.nm 6) (tN' h) (wSg n (some (tN' low)) x) (wS a b es)).s fun sg2 S3 => evB (callF tab (k + 1)) wIn sg2 S3) _ = _
      have hb : evB (callF tab (k + 1)) wIn (wSg n (some (tN' low)) (some (tN' h))) (wS a b es) = .nx (wSg n (some (tN' low)) (some (tN' h))) (wS a1 b1 (es ++ [(low, h)])) := by
        unfold wIn
        rw [evB, evS, tt, R.s_okE, hr]
        show seqS (evB (callF tab (k + 1)) (.cons (.exp (.app (.var 5) (.tup (.cons (.var 3) (.cons (.var 6) .nil))))) .nil) (wSg n (some (tN' low)) (some (tN' h))) (wS a1 b1 es)) _ = _
        rw [ap, seqS_nx, evB]
      rw [hg, R.s_okE, hb, loopK_nx]
      rw [List.append_assoc] at hf
      exact hf
    · obtain ⟨a2, b2', sub, x', hf, ha2, hb2, hsub⟩ := w_in k n low hs es a1 b1 (some (tN' h)) ha1 hb1 (by omega)
      refine ⟨a2, b2', sub, x', ?_, ha2, hb2, by rw [List.map_cons]; exact hsub.cons _⟩
      show loopK ((evG (callF tab (k + 1)) (.nm 6) (tN' h) (wSg n (some (tN' low)) x) (wS a b es)).s fun sg2 S3 => evB (callF tab (k + 1)) wIn sg2 S3) _ = _
      have hb : evB (callF tab (k + 1)) wIn (wSg n (some (tN' low)) (some (tN' h))) (wS a b es) = .nx (wSg n (some (tN' low)) (some (tN' h))) (wS a1 b1 es) := by
        unfold wIn
        have e0 : (r == 0) = false := by simpa using hr
        rw [evB, evS, tt, R.s_okE, e0, cond_false, evB, seqS_nx, evB]
      rw [hg, R.s_okE, hb, loopK_nx]
      exact hf
def wOut : Bx := .cons (.for_ (.nm 6) (.rng2 (.b false .add (.var 3) (.lit (.int 1))) (.var 4)) wIn) .nil
theorem rng2_nats (S : Store) (low n : Nat) (h : n ≤ 6) (hl : low < 6) : rng2K (tI ((low : Int) + 1)) (tN' n) S = .ok (.its (natsT (List.range' (low + 1) (n - (low + 1))))) S := by
  show (if ((-1000000 ≤ ((low : Int) + 1) && ((low : Int) + 1) ≤ 1000000 && -1000000 ≤ (n : Int) && (n : Int) ≤ 1000000) = true) then R.ok (Wk.its (rng ((low : Int) + 1) ((n : Int) - ((low : Int) + 1)).toNat)) S else .no) = _
  rw [if_pos (by simp; omega)]
  have e : ((n : Int) - ((low : Int) + 1)).toNat = n - (low + 1) := by omega
  rw [e]
  have := rng_nats (n - (low + 1)) (low + 1)
  rw [show (((low + 1 : Nat)) : Int) = (low : Int) + 1 from rfl] at this
  rw [this]
theorem w_out (k n : Nat) (hn : n ≤ 6) : ∀ (ls : List Nat) (es : List (Nat × Nat)) (a b : Int) (y x : Option T), 0 ≤ a → 0 ≤ b → (∀ l ∈ ls, l < 6) → es.length + 6 * ls.length ≤ 90 → ∃ (a' b' : Int) (sub : List (Nat × Nat)) (y' x' : Option T),
    forL (fun t sg1 S2 => (evG (callF tab (k + 1)) (.nm 3) t sg1 S2).s fun sg2 S3 => evB (callF tab (k + 1)) wOut sg2 S3) (natsT ls) (wSg n y x) (wS a b es) = .nx (wSg n y' x') (wS a' b' (es ++ sub)) ∧ 0 ≤ a' ∧ 0 ≤ b' ∧ sub.Sublist (ls.flatMap fun l => (List.range' (l + 1) (n - (l + 1))).map fun h => (l, h))
  | [], es, a, b, y, x, ha, hb, _, _ => ⟨a, b, [], y, x, by rw [List.append_nil]; rfl, ha, hb, List.Sublist.refl _⟩
  | l :: ls, es, a, b, y, x, ha, hb, hls, hl => by
    have hg : evG (callF tab (k + 1)) (.nm 3) (tN' l) (wSg n y x) (wS a b es) = .ok (wSg n (some (tN' l)) x) (wS a b es) := rfl
    rw [List.length_cons] at hl
    have hll := hls l List.mem_cons_self
    have hr : (List.range' (l + 1) (n - (l + 1))).length ≤ 6 := by rw [List.length_range']; omega
    obtain ⟨a1, b1, sub, x1, hf, ha1, hb1, hsub⟩ := w_in k n l (List.range' (l + 1) (n - (l + 1))) es a b x ha hb (by omega)
    have hsl : sub.length ≤ 6 := by
      have := hsub.length_le
      rw [List.length_map] at this
      omega
    obtain ⟨a2, b2', sub2, y', x', hf2, ha2, hb2, hsub2⟩ := w_out k n hn ls (es ++ sub) a1 b1 (some (tN' l)) x1 ha1 hb1 (fun z hz => hls z (List.mem_cons_of_mem _ hz)) (by rw [List.length_append]; omega)
    refine ⟨a2, b2', sub ++ sub2, y', x', ?_, ha2, hb2, by rw [List.flatMap_cons]; exact hsub.append hsub2⟩
    show loopK ((evG (callF tab (k + 1)) (.nm 3) (tN' l) (wSg n y x) (wS a b es)).s fun sg2 S3 => evB (callF tab (k + 1)) wOut sg2 S3) _ = _
    have hI : evI (callF tab (k + 1)) (.rng2 (.b false .add (.var 3) (.lit (.int 1))) (.var 4)) (wSg n (some (tN' l)) x) (wS a b es) = .ok (.its (natsT (List.range' (l + 1) (n - (l + 1))))) (wS a b es) := by
      have e1 : ev (callF tab (k + 1)) (.b false .add (.var 3) (.lit (.int 1))) (wSg n (some (tN' l)) x) (wS a b es) = .ok (tI ((l : Int) + 1)) (wS a b es) := rfl
      have e2 : ev (callF tab (k + 1)) (.var 4) (wSg n (some (tN' l)) x) (wS a b es) = .ok (tN' n) (wS a b es) := rfl
      rw [evI, e1, R.bnd_okE, e2, R.bnd_okE, rng2_nats (wS a b es) l n hn hll]
    have hb' : evB (callF tab (k + 1)) wOut (wSg n (some (tN' l)) x) (wS a b es) = .nx (wSg n (some (tN' l)) x1) (wS a1 b1 (es ++ sub)) := by
      unfold wOut
      rw [evB, evS, hI, R.s_okE]
      show seqS (forL _ (natsT _) _ _) _ = _
      rw [hf, seqS_nx, evB]
    rw [hg, R.s_okE, hb', loopK_nx]
    rw [List.append_assoc] at hf2
    exact hf2
theorem pairs_eq : ∀ n ≤ 6, ((List.range n).flatMap fun l => (List.range' (l + 1) (n - (l + 1))).map fun h => (l, h)) = pairs n := by decide +kernel
theorem f18 (k : Nat) (a b : Int) (ha : 0 ≤ a) (hb : 0 ≤ b) : ∃ (n : Nat) (es : List (Nat × Nat)) (a' b' : Int), callF tab (k + 2) 18 [.obj 0, tI 1, tI 6] [pot a b] = .ok (.tup [tN' n, .obj 1]) (wS a' b' es) ∧ 0 ≤ a' ∧ 0 ≤ b' ∧ 0 < n ∧ n ≤ 6 ∧ es.Sublist (pairs n) := by
  obtain ⟨r, a1, b1, hd, h1, h2, ha1, hb1⟩ := draw_at k 0 [pot a b] a b 6 rfl ha hb (by decide) (by decide)
  have hd : callM (callF tab (k + 1)) 1 17 [.obj 0, tI 6] [pot a b] = .ok (tI r) [pot a1 b1] := hd
  obtain ⟨n, hn⟩ : ∃ n : Nat, 1 + r = (n : Int) := ⟨(1 + r).toNat, by omega⟩
  have hn6 : n ≤ 6 := by omega
  have hn0 : 0 < n := by omega
  obtain ⟨a2, b2', sub, y', x', hf, ha2, hb2, hsub⟩ := w_out k n hn6 (List.range n) [] a1 b1 none none ha1 hb1 (fun l hl => by have := List.mem_range.mp hl; omega) (by simp; omega)
  rw [List.nil_append] at hf
  rw [pairs_eq n hn6] at hsub
  refine ⟨n, sub, a2, b2', run_one (f := ⟨7, 3, b_18⟩) rfl rfl ?_, ha2, hb2, hn0, hn6, hsub⟩
  show evB (callF tab (k + 1)) b_18 [some (.obj 0), some (tI 1), some (tI 6), none, none, none, none] [pot a b] = _
  unfold b_18
  have e1 : ev (callF tab (k + 1)) (.b false .add (.var 1) (.call 1 17 (.cons (.var 0) (.cons (.b false .add (.b false .sub (.var 2) (.var 1)) (.lit (.int 1))) .nil)))) [some (.obj 0), some (tI 1), some (tI 6), none, none, none, none] [pot a b] = .ok (tN' n) [pot a1 b1] := by
    have v1 : ev (callF tab (k + 1)) (.var 1) [some (.obj 0), some (tI 1), some (tI 6), none, none, none, none] [pot a b] = .ok (tI 1) [pot a b] := rfl
    have c1 : ev (callF tab (k + 1)) (.call 1 17 (.cons (.var 0) (.cons (.b false .add (.b false .sub (.var 2) (.var 1)) (.lit (.int 1))) .nil))) [some (.obj 0), some (tI 1), some (tI 6), none, none, none, none] [pot a b] = .ok (tI r) [pot a1 b1] := hd
    have ad : b2 .add [pot a1 b1] (tI 1) (tI r) = some (.v (tI (1 + r))) := rfl
    rw [ev, v1, R.bnd_okE, c1, R.bnd_okE, ad, fin_vE, hn]
    rfl
  have e2 : ev (callF tab (k + 1)) (.lst true .nil) [some (.obj 0), some (tI 1), some (tI 6), none, none, none, none] [pot a1 b1] = .ok (.obj 1) (wS a1 b1 []) := rfl
  have s1 : evS (callF tab (k + 1)) (.par 4 5 (.b false .add (.var 1) (.call 1 17 (.cons (.var 0) (.cons (.b false .add (.b false .sub (.var 2) (.var 1)) (.lit (.int 1))) .nil)))) (.lst true .nil)) [some (.obj 0), some (tI 1), some (tI 6), none, none, none, none] [pot a b] = .nx (wSg n none none) (wS a1 b1 []) := by
    rw [evS, e1, R.s_okE, e2, R.s_okE]; rfl
  have hI : evI (callF tab (k + 1)) (.rng1 (.var 4)) (wSg n none none) (wS a1 b1 []) = .ok (.its (natsT (List.range n))) (wS a1 b1 []) := by
    show rng1K (T.d (nI n)) (wS a1 b1 []) = _
    show (if ((n : Int) ≤ 1000000 && -1000000 ≤ (n : Int)) = true then R.ok (Wk.its (rng 0 (n : Int).toNat)) (wS a1 b1 []) else .no) = _
    rw [if_pos (by simp; omega)]
    show R.ok (Wk.its (rng 0 n)) _ = _
    rw [rng0]
  have hf : forW (fun t sg1 S2 => (evG (callF tab (k + 1)) (.nm 3) t sg1 S2).s fun sg2 S3 => evB (callF tab (k + 1)) (.cons (.for_ (.nm 6) (.rng2 (.b false .add (.var 3) (.lit (.int 1))) (.var 4)) (.cons (.ite (.val (.b false .eq (.call 1 17 (.cons (.var 0) (.cons (.lit (.int 2)) .nil))) (.lit (.int 0)))) (.cons (.exp (.app (.var 5) (.tup (.cons (.var 3) (.cons (.var 6) .nil))))) .nil) .nil) .nil)) .nil) sg2 S3) (.its (natsT (List.range n))) (wSg n none none) (wS a1 b1 []) = .nx (wSg n y' x') (wS a2 b2' sub) := hf
  rw [evB, s1, seqS_nx, evB, evS, hI, R.s_okE, hf, seqS_nx]
  rfl
end L81
end

section
set_option linter.all false
set_option maxRecDepth 100000
set_option maxHeartbeats 4000000
set_option autoImplicit false
namespace L81
open PySem Mc G81
/-! ### the given sequence: left, given -/
theorem erase_map {α β : Type} (f : α → β) : ∀ (l : List α) (j : Nat), (l.map f).eraseIdx j = (l.eraseIdx j).map f
  | [], _ => rfl
  | x :: l, 0 => rfl
  | x :: l, j + 1 => by
    show f x :: (l.map f).eraseIdx j = f x :: (l.eraseIdx j).map f
    rw [erase_map f l j]
theorem perm_erase {α : Type} {e : α} : ∀ (l : List α) (j : Nat), l[j]? = some e → ([e] ++ l.eraseIdx j).Perm l
  | [], _, h => by simp at h
  | x :: l, 0, h => by
    have : x = e := by simpa using h
    subst this
    exact List.Perm.refl _
  | x :: l, j + 1, h => by
    have ih := perm_erase l j (by simpa using h)
    show (e :: x :: l.eraseIdx j).Perm (x :: l)
    exact (List.Perm.swap x e _).trans (List.Perm.cons x ih)
def gSt (a b : Int) (es left given : List (Nat × Nat)) : Store := [pot a b, tcell es, tcell left, tcell given]
def hSg (n : Nat) : Sg := [some (.obj 0), none, none, none, none, none, some (tN' n), some (.obj 1), some (.obj 2), some (.obj 3)]
def hTest : Tx := .val (.b false .ne (.var 8) (.lst false .nil))
def hBody : Bx := (.cons (.exp (.app (.var 9) (.popAt (.var 8) (.call 1 17 (.cons (.var 0) (.cons (.u false .len (.var 8)) .nil)))))) .nil)
theorem mapO_ties (S : Store) (k : Nat) : ∀ l : List (Nat × Nat), mapO (snap S (k + 1)) (l.map fun e => T.d (tieD e)) = some (l.map tieD)
  | [] => rfl
  | e :: l => by
    show mapO (snap S (k + 1)) (T.d (tieD e) :: l.map fun e => T.d (tieD e)) = _
    rw [mapO]
    have e : snap S (k + 1) (T.d (tieD e)) = some (tieD e) := rfl
    simp only [e, mapO_ties S k l]
    rfl
theorem snap_ties {S : Store} {n : Nat} {l : List (Nat × Nat)} (h : S[n]? = some (tcell l)) : snap S deep (.obj n) = some (tiesD l) := by
  show snap S (11 + 1) (.obj n) = _
  rw [snap]
  have h : S[n]? = some (.lst (l.map fun e => T.d (tieD e))) := h
  simp only [h]
  show (mapO (snap S (10 + 1)) _).map PyData.list = _
  rw [mapO_ties]; rfl
theorem eqvAll_ties : ∀ a b : List (Nat × Nat), PyData.eqvAll (a.map tieD) (b.map tieD) = decide (a = b)
  | [], [] => by simp [PyData.eqvAll]
  | [], _ :: _ => by simp [PyData.eqvAll]
  | _ :: _, [] => by simp [PyData.eqvAll]
  | x :: a, y :: b => by
    rw [List.map_cons, List.map_cons, PySem.W.eqv_all_cons, eqv_tie, eqvAll_ties a b]
    by_cases h : x = y <;> by_cases h2 : a = b <;> simp [h, h2]
theorem depthAll_ties : ∀ l : List (Nat × Nat), PyData.depthAll (l.map tieD) ≤ 1
  | [] => by simp [PyData.depthAll]
  | x :: l => by simp [PyData.depthAll, tieD, PyData.depth, nI]; exact Nat.max_le.mpr ⟨Nat.le_refl _, depthAll_ties l⟩
theorem depth_ties (l : List (Nat × Nat)) : (tiesD l).depth ≤ 2 := by
  have := depthAll_ties l
  unfold tiesD
  simp only [PyData.depth]
  omega
theorem b2_neT {S : Store} {x y : T} {a b : List (Nat × Nat)} (h1 : snap S deep x = some (tiesD a)) (h2 : snap S deep y = some (tiesD b)) : b2 .ne S x y = some (.v (tB (!decide (a = b)))) := by
  show (cmp2 S x y).map _ = _
  unfold cmp2
  rw [h1, h2]
  simp only
  rw [if_pos (by have := depth_ties a; omega)]
  show some (O.v (tB (!PyData.eqv (tiesD a) (tiesD b)))) = _
  unfold tiesD
  rw [PyData.eqv, eqvAll_ties]
theorem h_step (k n : Nat) (es left given : List (Nat × Nat)) (a b : Int) (ha : 0 ≤ a) (hb : 0 ≤ b) (hne : left ≠ []) (hl : left.length ≤ 100) (hg : given.length ≤ 100) : ∃ (a' b' : Int) (j : Nat) (e : Nat × Nat), left[j]? = some e ∧ 0 ≤ a' ∧ 0 ≤ b' ∧
    evB (callF tab (k + 1)) hBody (hSg n) (gSt a b es left given) = .nx (hSg n) (gSt a' b' es (left.eraseIdx j) (given ++ [e])) := by
  have hlen : 0 < left.length := List.length_pos_iff.mpr hne
  obtain ⟨r, a1, b1, hd, h1, h2, ha1, hb1⟩ := draw_at k 0 (gSt a b es left given) a b (left.length : Nat) rfl ha hb (by omega) (by omega)
  have hd : callM (callF tab (k + 1)) 1 17 [.obj 0, tI (left.length : Nat)] (gSt a b es left given) = .ok (tI r) (gSt a1 b1 es left given) := hd
  obtain ⟨j, hj⟩ : ∃ j : Nat, r = (j : Int) := ⟨r.toNat, by omega⟩
  subst hj
  have hj : j < left.length := by omega
  refine ⟨a1, b1, j, left[j], List.getElem?_eq_getElem hj, ha1, hb1, ?_⟩
  have eL : ev (callF tab (k + 1)) (.u false .len (.var 8)) (hSg n) (gSt a b es left given) = .ok (tI (left.length : Nat)) (gSt a b es left given) := by
    have : u1 .len (gSt a b es left given) (.obj 2) = some (.v (tI (left.length : Nat))) := by
      show some (O.v (tI ((left.map fun e => T.d (tieD e)).length : Nat))) = _
      rw [List.length_map]
    show fin false (gSt a b es left given) (u1 .len (gSt a b es left given) (.obj 2)) = _
    rw [this]; rfl
  have eC : ev (callF tab (k + 1)) (.call 1 17 (.cons (.var 0) (.cons (.u false .len (.var 8)) .nil))) (hSg n) (gSt a b es left given) = .ok (tI (j : Nat)) (gSt a1 b1 es left given) := by
    have v0 : ev (callF tab (k + 1)) (.var 0) (hSg n) (gSt a b es left given) = .ok (.obj 0) (gSt a b es left given) := rfl
    rw [ev, evs, v0, R.bnd_okE, evs, eL, R.bnd_okE, evs]
    exact hd
  have eP : ev (callF tab (k + 1)) (.popAt (.var 8) (.call 1 17 (.cons (.var 0) (.cons (.u false .len (.var 8)) .nil)))) (hSg n) (gSt a b es left given) = .ok (.d (tieD left[j])) (gSt a1 b1 es (left.eraseIdx j) given) := by
    have v8 : ev (callF tab (k + 1)) (.var 8) (hSg n) (gSt a b es left given) = .ok (.obj 2) (gSt a b es left given) := rfl
    have ck : chkL (.obj 2) (gSt a b es left given) = .ok (.obj 2) (gSt a b es left given) := rfl
    rw [ev, v8, R.bnd_okE, ck, R.bnd_okE, eC, R.bnd_okE]
    have e5 : (gSt a1 b1 es left given)[2]? = some (.lst (left.map fun e => T.d (tieD e))) := rfl
    have e6 : (left.map fun e => T.d (tieD e))[((j : Int)).toNat]? = some (.d (tieD left[j])) := by
      show (left.map fun e => T.d (tieD e))[j]? = _
      rw [List.getElem?_map, List.getElem?_eq_getElem hj]; rfl
    have c : (decide (0 ≤ (j : Int)) && decide ((j : Int) < 1000000)) = true := by rw [decide_eq_true (by omega), decide_eq_true (by omega)]; rfl
    unfold popAtK
    simp only [e5, e6]
    rw [if_pos c]
    show R.ok (T.d (tieD left[j])) [pot a1 b1, tcell es, .lst ((left.map fun e => T.d (tieD e)).eraseIdx j), tcell given] = _
    unfold gSt tcell
    rw [erase_map]
  have eA : ev (callF tab (k + 1)) (.app (.var 9) (.popAt (.var 8) (.call 1 17 (.cons (.var 0) (.cons (.u false .len (.var 8)) .nil))))) (hSg n) (gSt a b es left given) = .ok tN (gSt a1 b1 es (left.eraseIdx j) (given ++ [left[j]])) := by
    have v9 : ev (callF tab (k + 1)) (.var 9) (hSg n) (gSt a b es left given) = .ok (.obj 3) (gSt a b es left given) := rfl
    have ck : chkL (.obj 3) (gSt a b es left given) = .ok (.obj 3) (gSt a b es left given) := rfl
    rw [ev, v9, R.bnd_okE, ck, R.bnd_okE, eP, R.bnd_okE]
    have e5 : (gSt a1 b1 es (left.eraseIdx j) given)[3]? = some (.lst (given.map fun e => T.d (tieD e))) := rfl
    unfold appK
    simp only [e5, List.length_map]
    rw [if_pos (by unfold line; omega)]
    show R.ok tN [pot a1 b1, tcell es, tcell (left.eraseIdx j), .lst (given.map (fun e => T.d (tieD e)) ++ [T.d (tieD left[j])])] = _
    unfold gSt tcell
    rw [List.map_append]
    rfl
  unfold hBody
  rw [evB, evS, eA]
  rfl
theorem h_loop (k n : Nat) (es : List (Nat × Nat)) : ∀ (m : Nat) (left given : List (Nat × Nat)) (a b : Int), 0 ≤ a → 0 ≤ b → left.length = m → left.length + given.length ≤ 50 → ∀ x, ∃ (a' b' : Int) (gs : List (Nat × Nat)), 0 ≤ a' ∧ 0 ≤ b' ∧ gs.Perm (given ++ left) ∧
    whN (fun sg S => evT (callF tab (k + 1)) hTest sg S) (fun sg S => evB (callF tab (k + 1)) hBody sg S) (m + 1 + x) (hSg n) (gSt a b es left given) = .nx (hSg n) (gSt a' b' es [] gs)
  | 0, left, given, a, b, ha, hb, hm, hl, x => by
    have e : left = [] := List.length_eq_zero_iff.mp hm
    subst e
    refine ⟨a, b, given, ha, hb, by rw [List.append_nil], ?_⟩
    rw [show 0 + 1 + x = x + 1 from by omega, whN]
    have ht : evT (callF tab (k + 1)) hTest (hSg n) (gSt a b es [] given) = .ok false (gSt a b es [] given) := by
      show (fin false (gSt a b es [] given) (b2 .ne (gSt a b es [] given) (.obj 2) (.d (.list [])))).bnd _ = _
      rw [b2_neT (a := []) (b := []) (snap_ties rfl) rfl]; rfl
    simp only [ht]
    rfl
  | m + 1, left, given, a, b, ha, hb, hm, hl, x => by
    have hne : left ≠ [] := fun e => by rw [e] at hm; cases hm
    obtain ⟨a1, b1, j, e, he, ha1, hb1, hs⟩ := h_step k n es left given a b ha hb hne (by omega) (by omega)
    have hj : j < left.length := (List.getElem?_eq_some_iff.mp he).1
    have hlen : (left.eraseIdx j).length = m := by rw [List.length_eraseIdx_of_lt hj, hm]; omega
    obtain ⟨a2, b2', gs, ha2, hb2, hp, hr⟩ := h_loop k n es m (left.eraseIdx j) (given ++ [e]) a1 b1 ha1 hb1 hlen (by rw [List.length_append, List.length_singleton, hlen]; omega) x
    refine ⟨a2, b2', gs, ha2, hb2, ?_, ?_⟩
    · refine hp.trans ?_
      rw [List.append_assoc]
      refine List.Perm.append_left _ ?_
      exact perm_erase left j he
    · rw [show m + 1 + 1 + x = (m + 1 + x) + 1 from by omega, whN]
      have ht : evT (callF tab (k + 1)) hTest (hSg n) (gSt a b es left given) = .ok true (gSt a b es left given) := by
        show (fin false (gSt a b es left given) (b2 .ne (gSt a b es left given) (.obj 2) (.d (.list [])))).bnd _ = _
        rw [b2_neT (a := left) (b := []) (snap_ties rfl) rfl, decide_eq_false hne]; rfl
      simp only [ht]
      rw [R.s_okE]
      show loopK (evB (callF tab (k + 1)) hBody (hSg n) (gSt a b es left given)) _ = _
      rw [hs, loopK_nx]
      exact hr
end L81
end

section
set_option linter.all false
set_option maxRecDepth 100000
set_option maxHeartbeats 4000000
set_option autoImplicit false
namespace L81
open PySem Mc G81
/-! ### a web that is not a tree -/
structure WX (W : T) (S : Store) (tp : Bool) (n : Nat) (gs : List (Nat × Nat)) : Prop where
  frz : frzs (frz deep) [W] S = some ([wv tp n gs], S)
  nm : norm S W = W
  i0 : b2 .idx S W (tI 0) = some (.v (tN' n))
  i1 : b2 .idx S W (tI 1) = some (.v (.d (gv tp gs)))
section
variable {n : Nat} {es gs : List (Nat × Nat)} {tp : Bool} {W : T} {S : Store}
theorem f5W (X : PX n es gs) (h : WX W S tp n gs) (k : Nat) : callF tab (k + 5) 5 [W] S = .ok (.tup [tN' n, .obj S.length]) (S ++ [.lst ((es.map tieD).map T.d)]) := by
  refine run_one (f := ⟨1, 1, b_5⟩) rfl rfl ?_
  show evB (callF tab (k + 4)) b_5 [some W] S = _
  unfold b_5
  have v0 : ev (callF tab (k + 4)) (.var 0) [some W] S = .ok W S := by
    show R.ok (norm S W) S = _
    rw [h.nm]
  have c4 : ev (callF tab (k + 4)) (.call 0 4 (.cons (.var 0) .nil)) [some W] S = .ok (tB true) S := by
    rw [ev, evs, v0, R.bnd_okE, evs]
    exact callM0 h.frz (f4 k n tp gs [] X.G.n0 X.G.n6 X.glt X.gnd X.glen) rfl
  have s1 : evS (callF tab (k + 4)) (.ite (.not_ (.val (.call 0 4 (.cons (.var 0) .nil)))) (.cons .stuck .nil) .nil) [some W] S = .nx [some W] S := by
    have : evT (callF tab (k + 4)) (.not_ (.val (.call 0 4 (.cons (.var 0) .nil)))) [some W] S = .ok false S := by
      rw [evT, evT, c4]; rfl
    rw [evS, this, R.s_okE, cond_false, evB]
  have l : ∀ z : Int, ev (callF tab (k + 4)) (.lit (.int z)) [some W] S = .ok (tI z) S := fun _ => rfl
  have e1 : ev (callF tab (k + 4)) (.b false .idx (.var 0) (.lit (.int 0))) [some W] S = .ok (tN' n) S := by
    rw [ev, v0, R.bnd_okE, l, R.bnd_okE, h.i0, fin_vE]
  have e2 : ev (callF tab (k + 4)) (.u true .sorted (.b false .idx (.var 0) (.lit (.int 1)))) [some W] S = .ok (.obj S.length) (S ++ [.lst ((es.map tieD).map T.d)]) := by
    have : ev (callF tab (k + 4)) (.b false .idx (.var 0) (.lit (.int 1))) [some W] S = .ok (.d (gv tp gs)) S := by
      rw [ev, v0, R.bnd_okE, l, R.bnd_okE, h.i1, fin_vE]
    rw [ev, this, R.bnd_okE, sorted_gv X]
    rfl
  have e3 : ev (callF tab (k + 4)) (.tup (.cons (.b false .idx (.var 0) (.lit (.int 0))) (.cons (.u true .sorted (.b false .idx (.var 0) (.lit (.int 1)))) .nil))) [some W] S = .ok (.tup [tN' n, .obj S.length]) (S ++ [.lst ((es.map tieD).map T.d)]) := by
    rw [ev, evs, e1, R.bnd_okE, evs, e2, R.bnd_okE, evs]
    rfl
  rw [evB, s1, seqS_nx, evB, evS, e3]
  rfl
theorem f11W (X : PX n es gs) (h : WX W S tp n gs) (k : Nat) : callF tab (k + 6) 11 [W] S = .ok (.tup [tN' n, .obj S.length]) (S ++ [.lst ((es.map tieD).map T.d)]) := by
  refine run_one (f := ⟨1, 1, b_11⟩) rfl rfl ?_
  show evB (callF tab (k + 5)) b_11 [some W] S = _
  unfold b_11
  have v0 : ev (callF tab (k + 5)) (.var 0) [some W] S = .ok W S := by
    show R.ok (norm S W) S = _
    rw [h.nm]
  have : ev (callF tab (k + 5)) (.call 1 5 (.cons (.var 0) .nil)) [some W] S = .ok (.tup [tN' n, .obj S.length]) (S ++ [.lst ((es.map tieD).map T.d)]) := by
    rw [ev, evs, v0, R.bnd_okE, evs]
    exact f5W X h k
  rw [evB, evS, this]
  rfl
end
/-! ### counting -/
theorem dc_len {α : Type} [DecidableEq α] : ∀ (l r : List α), r.Nodup → (∀ x, x ∈ r ↔ x ∈ l) → dc l = r.length
  | [], r, _, h => by
    cases r with
    | nil => rfl
    | cons x r => exact absurd ((h x).mp List.mem_cons_self) (by simp)
  | x :: xs, r, hn, h => by
    rw [dc]
    by_cases q : x ∈ xs
    · rw [if_pos q, Nat.zero_add]
      refine dc_len xs r hn fun y => ?_
      rw [h y, List.mem_cons]
      exact ⟨fun z => z.elim (fun e => e ▸ q) id, .inr⟩
    · rw [if_neg q]
      have hx : x ∈ r := (h x).mpr List.mem_cons_self
      have ih := dc_len xs (r.erase x) (hn.erase x) fun y => by
        rw [hn.mem_erase_iff, h y, List.mem_cons]
        constructor
        · rintro ⟨a, b | b⟩
          · exact absurd b a
          · exact b
        · intro hy
          exact ⟨fun e => q (e ▸ hy), .inr hy⟩
      have := List.length_erase_of_mem hx
      have hp : 0 < r.length := List.length_pos_of_mem hx
      omega
theorem step_ok (acc : List Int) (x : Int) (h : acc.Nodup) : (PyProof.Rows.step_dedup acc x).Nodup ∧ ∀ y, y ∈ PyProof.Rows.step_dedup acc x ↔ y ∈ acc ∨ y = x := by
  unfold PyProof.Rows.step_dedup
  by_cases q : acc.any (· == x) = true
  · rw [if_pos q]
    have hx : x ∈ acc := by
      obtain ⟨y, hy, e⟩ := List.any_eq_true.mp q
      have : y = x := by simpa using e
      exact this ▸ hy
    exact ⟨h, fun y => ⟨.inl, fun z => z.elim id fun e => e ▸ hx⟩⟩
  · rw [if_neg q]
    have hx : x ∉ acc := fun hx => q (List.any_eq_true.mpr ⟨x, hx, by simp⟩)
    refine ⟨?_, fun y => by simp⟩
    rw [List.nodup_append]
    refine ⟨h, by simp, fun a ha b hb e => ?_⟩
    rw [List.mem_singleton.mp hb] at e
    exact hx (e ▸ ha)
theorem fold_ok : ∀ (l acc : List Int), acc.Nodup → (l.foldl PyProof.Rows.step_dedup acc).Nodup ∧ ∀ y, y ∈ l.foldl PyProof.Rows.step_dedup acc ↔ y ∈ acc ∨ y ∈ l
  | [], acc, h => ⟨h, fun y => by simp⟩
  | x :: l, acc, h => by
    obtain ⟨h1, h2⟩ := step_ok acc x h
    obtain ⟨h3, h4⟩ := fold_ok l _ h1
    refine ⟨h3, fun y => ?_⟩
    show y ∈ l.foldl _ (PyProof.Rows.step_dedup acc x) ↔ _
    rw [h4, h2, List.mem_cons]
    constructor
    · rintro ((a | a) | a)
      · exact .inl a
      · exact .inr (.inl a)
      · exact .inr (.inr a)
    · rintro (a | a | a)
      · exact .inl (.inl a)
      · exact .inl (.inr a)
      · exact .inr a
theorem dedup_dc (l : List Int) : (dedupI l).length = dc l := by
  obtain ⟨h1, h2⟩ := fold_ok l [] List.nodup_nil
  unfold dedupI
  rw [dc_len l _ h1 fun x => by rw [h2]; simp]
theorem dc_cast (l : List Nat) : dc (l.map fun i : Nat => (i : Int)) = dc l := by
  have := dc_pat (fun i : Nat => (i : Int)) (fun i : Nat => i) l fun a _ b _ => by omega
  rw [this, List.map_id']
theorem lensetN {S : Store} {l : List Nat} (hl : l.length ≤ 4000) : u1 .lenset S (.d (natsD l)) = some (.v (tI (dc l : Nat))) := by
  have e : lstOf S (.d (natsD l)) = some (natsT l) := by rw [← natsT_eq]; rfl
  unfold u1
  simp only [e, intsT_nats, List.length_map]
  rw [if_pos hl, dedup_dc, dc_cast]
end L81
end

section
set_option linter.all false
set_option maxRecDepth 100000
set_option maxHeartbeats 4000000
set_option autoImplicit false
namespace L81
open PySem Mc G81
def first (es : List (Nat × Nat)) (c : Nat) : Nat := (sortN (pieceF (near1 es) 6 [c])).headD 0
def pcs (n : Nat) (es : List (Nat × Nat)) : Nat := dc ((List.range n).map (first es))
theorem perm_of_mem : ∀ (l r : List Nat), l.Nodup → r.Nodup → (∀ x, x ∈ l ↔ x ∈ r) → l.Perm r
  | [], r, _, _, h => by
    cases r with
    | nil => exact List.Perm.refl _
    | cons x r => exact absurd ((h x).mpr List.mem_cons_self) (by simp)
  | x :: l, r, hl, hr, h => by
    obtain ⟨h1, h2⟩ := List.nodup_cons.mp hl
    have hx : x ∈ r := (h x).mp List.mem_cons_self
    have ih := perm_of_mem l (r.erase x) h2 (hr.erase x) fun y => by
      rw [hr.mem_erase_iff, ← h y, List.mem_cons]
      constructor
      · intro hy
        exact ⟨fun e => h1 (e ▸ hy), .inr hy⟩
      · rintro ⟨a, b | b⟩
        · exact absurd b a
        · exact b
    exact (ih.cons x).trans (List.perm_cons_erase hx).symm
section
variable {n : Nat} {es : List (Nat × Nat)}
theorem first_mem (G : GX n es) {c : Nat} (hc : c < n) : Rch es c (first es c) := by
  obtain ⟨hm, _⟩ := piece_mem G.n6 G.hb (near1_nd G) G.nm hc
  have hne : sortN (pieceF (near1 es) 6 [c]) ≠ [] := fun e => by
    have : c ∈ sortN (pieceF (near1 es) 6 [c]) := (sortN_perm _).mem_iff.mpr ((hm c).mpr (.refl _))
    rw [e] at this
    cases this
  unfold first
  cases e : sortN (pieceF (near1 es) 6 [c]) with
  | nil => exact absurd e hne
  | cons x l =>
    refine (hm x).mp ((sortN_perm _).mem_iff.mp ?_)
    rw [e]
    exact List.mem_cons_self
theorem first_iff (G : GX n es) {u v : Nat} (hu : u < n) (hv : v < n) : first es u = first es v ↔ Rch es u v := by
  constructor
  · intro h
    have h1 := first_mem G hu
    have h2 := first_mem G hv
    rw [h] at h1
    exact h1.trans h2.symm
  · intro h
    obtain ⟨m1, n1⟩ := piece_mem G.n6 G.hb (near1_nd G) G.nm hu
    obtain ⟨m2, n2⟩ := piece_mem G.n6 G.hb (near1_nd G) G.nm hv
    unfold first
    rw [sortN_eq (perm_of_mem _ _ n1 n2 fun x => by
      rw [m1, m2]
      exact ⟨fun z => h.symm.trans z, fun z => h.trans z⟩)]
theorem gx_of (h0 : 0 < n) (h6 : n ≤ 6) (hs : es.Sublist (pairs n)) : GX n es ∧ es.Pairwise leP := by
  obtain ⟨p1, p2, p3, p4⟩ := pairs_ok n h6
  exact ⟨⟨h6, h0, fun p hp => p2 p (hs.subset hp), p1.sublist hs, Nat.le_trans hs.length_le p3⟩, List.Pairwise.sublist hs p4⟩
theorem graph (h0 : 0 < n) (h6 : n ≤ 6) (hs : es.Sublist (pairs n)) : ∃ (K r : List Nat), keptL (near1 es) 6 (List.range n) [] = some K ∧ reachL (near1 es) 20 [0] [0] = some r ∧
    (r.length = n ↔ pcs n es = 1) ∧ (K = [] ↔ ¬ n < pcs n es + es.length) ∧ ∀ x K', K = x :: K' → ∃ q, ringL (near1 es) K 6 [x] = some q ∧ IsRing n es q := by
  obtain ⟨G, _⟩ := gx_of h0 h6 hs
  have I := inv_fold es [] (st0 n) (inv0 n) G.hb3
  rw [List.nil_append] at I
  have hl := trie_sub n (pairs n) (st0 n) (tr h0 h6) es hs
  have pc := pieces I (first es) fun u v hu hv => first_iff G hu hv
  obtain ⟨K, hK, hF, hsub, hz⟩ := kept_run h0 h6 I (near1_nd G) G.nm hl
  obtain ⟨r, hr, rnd, rlt, rm⟩ := reach_run h6 h0 G.hb (near1_nd G) G.nm
  refine ⟨K, r, hK 0, hr 0, ?_, ?_, fun x K' e => ?_⟩
  · unfold pcs
    rw [dc_one]
    have full : r.length = n ↔ ∀ v, v < n → Rch es 0 v := by
      constructor
      · intro h v hv
        rw [← rm v]
        rcases Classical.em (v ∈ r) with q | q
        · exact q
        · have := nodup_le (n := n) (List.nodup_cons.mpr ⟨q, rnd⟩) fun w hw => by
            rcases List.mem_cons.mp hw with rfl | hw
            · exact hv
            · exact rlt w hw
          rw [List.length_cons] at this
          omega
      · intro h
        have hp : r.Perm (List.range n) := perm_of_mem r (List.range n) rnd List.nodup_range fun v => by
          rw [List.mem_range]
          exact ⟨rlt v, fun hv => (rm v).mpr (h v hv)⟩
        rw [hp.length_eq, List.length_range]
    rw [full]
    constructor
    · intro h
      refine ⟨first es 0, List.mem_map.mpr ⟨0, List.mem_range.mpr h0, rfl⟩, fun y hy => ?_⟩
      obtain ⟨v, hv, rfl⟩ := List.mem_map.mp hy
      have hv := List.mem_range.mp hv
      exact ((first_iff G h0 hv).mpr (h v hv)).symm
    · rintro ⟨x, _, h⟩ v hv
      have e1 := h (first es 0) (List.mem_map.mpr ⟨0, List.mem_range.mpr h0, rfl⟩)
      have e2 := h (first es v) (List.mem_map.mpr ⟨v, List.mem_range.mpr hv, rfl⟩)
      exact (first_iff G h0 hv).mp (e1.trans e2.symm)
  · rw [hz]
    unfold pcs
    rw [pc]
    have := I.red
    cases e : (es.foldl stp (st0 n)).red with
    | true => rw [e] at this; simp [this.mp rfl]
    | false =>
      rw [e] at this
      simp only [true_iff]
      intro q
      have := this.mpr q
      cases this
  · obtain ⟨q, h1, h2⟩ := ring_run h6 G.hb3 (near1_nd G) G.nm hF (fun v hv => List.mem_range.mp (hsub.subset hv)) (x := x) (by rw [e]; exact List.mem_cons_self)
    exact ⟨q, h1 0, h2⟩
end
end L81
end

section
set_option linter.all false
set_option maxRecDepth 100000
set_option maxHeartbeats 4000000
set_option autoImplicit false
namespace L81
open PySem Mc G81
/-! ### _law_right -/
def St (a b : Int) (c1 c3 : Cell) : Store := [pot a b, c1, tcell [], c3]
inductive WC (n : Nat) (gs : List (Nat × Nat)) : Bool → T → Cell → Prop
  | lst : WC n gs false (.tup [tN' n, .obj 3]) (.fz (tiesD gs))
  | tup : WC n gs true (.d (wv true n gs)) (tcell gs)
theorem wx {n : Nat} {gs : List (Nat × Nat)} {tp : Bool} {W : T} {c3 : Cell} (h : WC n gs tp W c3) (a b : Int) (c1 : Cell) : WX W (St a b c1 c3) tp n gs := by
  cases h with
  | lst => exact ⟨rfl, rfl, rfl, rfl⟩
  | tup => exact ⟨rfl, rfl, rfl, rfl⟩
inductive TC (es : List (Nat × Nat)) : Cell → T → Prop
  | lst : TC es (tcell es) (.obj 1)
  | fz : TC es (.fz (tiesD es)) (.d (tiesD es))
def rSg2 (n : Nat) (W : T) (x2 x3 x4 x5 : Option T) : Sg := [some (.obj 0), some W, x2, x3, x4, x5, some (tN' n), some (.obj 1), some (.obj 2), some (.obj 3)]
section
variable {n : Nat} {es gs : List (Nat × Nat)} {tp : Bool} {W : T} {c1 c3 : Cell} {t7 : T}
theorem v7 (h : TC es c1 t7) (cf : Nat → List T → Store → R T) (a b : Int) (x2 x3 x4 x5 : Option T) : ev cf (.var 7) (rSg2 n W x2 x3 x4 x5) (St a b c1 c3) = .ok t7 (St a b c1 c3) := by
  cases h <;> rfl
theorem tc_frz (h : TC es c1 t7) (a b : Int) : frz deep t7 (St a b c1 c3) = some (tiesD es, St a b (.fz (tiesD es)) c3) := by
  cases h with
  | fz => rfl
  | lst =>
    show frz (11 + 1) (.obj 1) _ = _
    rw [frz]
    have : (St a b (tcell es) c3)[1]? = some (.lst ((es.map tieD).map T.d)) := by rw [its_ties]; rfl
    simp only [this]
    rw [frzs_d 10]
    rfl
theorem tc_frz2 (h : TC es c1 t7) (a b : Int) (c : Nat) : frzs (frz deep) [t7, tN' c] (St a b c1 c3) = some ([tiesD es, nI c], St a b (.fz (tiesD es)) c3) := by
  rw [frzs]
  simp only [tc_frz h]
  rfl
theorem near_call (G : GX n es) (h : TC es c1 t7) (k c : Nat) (a b : Int) : callM (callF tab (k + 1)) 0 19 [t7, tN' c] (St a b c1 c3) = .ok (.d (natsD (near1 es c))) (St a b (.fz (tiesD es)) c3) := by
  have := callM0 (cf := callF tab (k + 1)) (f := 19) (tc_frz2 (c3 := c3) h a b c) (f19 k c es [] G.len) rfl
  rw [near2_eq] at this
  exact this
theorem piece_call (G : GX n es) (h : TC es c1 t7) (k c : Nat) (hc : c < n) (a b : Int) : callM (callF tab (k + 2)) 0 20 [t7, tN' c] (St a b c1 c3) = .ok (.d (natsD (sortN (pieceF (near1 es) 6 [c])))) (St a b (.fz (tiesD es)) c3) :=
  callM0 (tc_frz2 (c3 := c3) h a b c) (f20 G k c hc []) rfl
theorem w_call {f : Nat} {cf : Nat → List T → Store → R T} {t : T} {d : PyData} {S2 S3 : Store} (h : WC n gs tp W c3) (a b : Int) (h2 : cf f [.d (wv tp n gs)] [] = .ok t S2) (h3 : frz deep t S2 = some (d, S3)) : callM cf 0 f [W] (St a b c1 c3) = .ok (.d d) (St a b c1 c3) :=
  callM0 (wx h a b c1).frz h2 h3
theorem w_frz2 (h : WC n gs tp W c3) (a b : Int) (c : Nat) : frzs (frz deep) [W, tN' c] (St a b c1 c3) = some ([wv tp n gs, nI c], St a b c1 c3) := by
  cases h <;> rfl
theorem nb_call (X : PX n es gs) (h : WC n gs tp W c3) (k c : Nat) (hc : c < n) (a b : Int) : callM (callF tab (k + 6)) 0 12 [W, tN' c] (St a b c1 c3) = .ok (.d (natsD (near1 es c))) (St a b c1 c3) :=
  callM0 (w_frz2 h a b c) (f12 X k c tp [] hc) rfl
theorem told_call (X : PX n es gs) (h : WC n gs tp W c3) (k : Nat) (a b : Int) : callM (callF tab (k + 6)) 0 11 [W] (St a b c1 c3) = .ok (.d (webD n es)) (St a b c1 c3) :=
  w_call h a b (f11 X k tp []) (frz_web n es)
end
end L81
end

section
set_option linter.all false
set_option maxRecDepth 100000
set_option maxHeartbeats 4000000
set_option autoImplicit false
namespace L81
open PySem Mc G81
def cBody : Bx := (.cons (.ite (.or_ (.val (.b false .ne (.call 0 12 (.cons (.var 1) (.cons (.var 2) .nil))) (.call 0 19 (.cons (.var 7) (.cons (.var 2) .nil))))) (.val (.b false .ne (.callK 0 12 [1, 0] (.cons (.var 2) (.cons (.var 1) .nil))) (.call 0 19 (.cons (.var 7) (.cons (.var 2) .nil)))))) (.cons (.ret (.lit (.bool false))) .nil) .nil) .nil)
section
variable {n : Nat} {es gs : List (Nat × Nat)} {tp : Bool} {W : T} {c1 c3 : Cell} {t7 : T}
theorem v1 (h : WC n gs tp W c3) (cf : Nat → List T → Store → R T) (a b : Int) (x2 x3 x4 x5 : Option T) : ev cf (.var 1) (rSg2 n W x2 x3 x4 x5) (St a b c1 c3) = .ok W (St a b c1 c3) := by
  cases h <;> rfl
theorem c_loop (X : PX n es gs) (h : WC n gs tp W c3) (k : Nat) (a b : Int) (x3 x4 x5 : Option T) : ∀ (cs : List Nat) (c1 : Cell) (t7 : T) (x2 : Option T), TC es c1 t7 → (∀ c ∈ cs, c < n) → ∃ c1' t7' x2', TC es c1' t7' ∧
    forL (fun t sg1 S2 => (evG (callF tab (k + 6)) (.nm 2) t sg1 S2).s fun sg2 S3 => evB (callF tab (k + 6)) cBody sg2 S3) (natsT cs) (rSg2 n W x2 x3 x4 x5) (St a b c1 c3) = .nx (rSg2 n W x2' x3 x4 x5) (St a b c1' c3)
  | [], c1, t7, x2, ht, _ => ⟨c1, t7, x2, ht, rfl⟩
  | c :: cs, c1, t7, x2, ht, hc => by
    have hcn := hc c List.mem_cons_self
    obtain ⟨c1', t7', x2', ht', hl⟩ := c_loop X h k a b x3 x4 x5 cs (.fz (tiesD es)) (.d (tiesD es)) (some (tN' c)) .fz fun z hz => hc z (List.mem_cons_of_mem _ hz)
    refine ⟨c1', t7', x2', ht', ?_⟩
    show loopK ((evG (callF tab (k + 6)) (.nm 2) (tN' c) (rSg2 n W x2 x3 x4 x5) (St a b c1 c3)).s fun sg2 S3 => evB (callF tab (k + 6)) cBody sg2 S3) _ = _
    have hg : evG (callF tab (k + 6)) (.nm 2) (tN' c) (rSg2 n W x2 x3 x4 x5) (St a b c1 c3) = .ok (rSg2 n W (some (tN' c)) x3 x4 x5) (St a b c1 c3) := rfl
    have w1 : ∀ c1 : Cell, ev (callF tab (k + 6)) (.var 1) (rSg2 n W (some (tN' c)) x3 x4 x5) (St a b c1 c3) = .ok W (St a b c1 c3) := fun c1 => v1 h _ a b _ _ _ _
    have w2 : ∀ c1 : Cell, ev (callF tab (k + 6)) (.var 2) (rSg2 n W (some (tN' c)) x3 x4 x5) (St a b c1 c3) = .ok (tN' c) (St a b c1 c3) := fun c1 => rfl
    have n1 : ∀ c1 : Cell, ev (callF tab (k + 6)) (.call 0 12 (.cons (.var 1) (.cons (.var 2) .nil))) (rSg2 n W (some (tN' c)) x3 x4 x5) (St a b c1 c3) = .ok (.d (natsD (near1 es c))) (St a b c1 c3) := fun c1 => by
      rw [ev, evs, w1, R.bnd_okE, evs, w2, R.bnd_okE, evs]
      exact nb_call X h k c hcn a b
    have n2 : ∀ c1 : Cell, ev (callF tab (k + 6)) (.callK 0 12 [1, 0] (.cons (.var 2) (.cons (.var 1) .nil))) (rSg2 n W (some (tN' c)) x3 x4 x5) (St a b c1 c3) = .ok (.d (natsD (near1 es c))) (St a b c1 c3) := fun c1 => by
      rw [ev, evs, w2, R.bnd_okE, evs, w1, R.bnd_okE, evs]
      exact nb_call X h k c hcn a b
    have l1 : ∀ {c1 : Cell} {t7 : T}, TC es c1 t7 → ev (callF tab (k + 6)) (.call 0 19 (.cons (.var 7) (.cons (.var 2) .nil))) (rSg2 n W (some (tN' c)) x3 x4 x5) (St a b c1 c3) = .ok (.d (natsD (near1 es c))) (St a b (.fz (tiesD es)) c3) := fun {c1 t7} ht => by
      rw [ev, evs, v7 ht, R.bnd_okE, evs, w2, R.bnd_okE, evs]
      exact near_call X.G ht (k + 5) c a b
    have t1 : evT (callF tab (k + 6)) (.val (.b false .ne (.call 0 12 (.cons (.var 1) (.cons (.var 2) .nil))) (.call 0 19 (.cons (.var 7) (.cons (.var 2) .nil))))) (rSg2 n W (some (tN' c)) x3 x4 x5) (St a b c1 c3) = .ok false (St a b (.fz (tiesD es)) c3) := by
      rw [evT, ev, n1, R.bnd_okE, l1 ht, R.bnd_okE, b2_neL (a := near1 es c) (b := near1 es c) rfl rfl, decide_eq_true rfl]; rfl
    have t2 : evT (callF tab (k + 6)) (.val (.b false .ne (.callK 0 12 [1, 0] (.cons (.var 2) (.cons (.var 1) .nil))) (.call 0 19 (.cons (.var 7) (.cons (.var 2) .nil))))) (rSg2 n W (some (tN' c)) x3 x4 x5) (St a b (.fz (tiesD es)) c3) = .ok false (St a b (.fz (tiesD es)) c3) := by
      rw [evT, ev, n2, R.bnd_okE, l1 .fz, R.bnd_okE, b2_neL (a := near1 es c) (b := near1 es c) rfl rfl, decide_eq_true rfl]; rfl
    have hb : evB (callF tab (k + 6)) cBody (rSg2 n W (some (tN' c)) x3 x4 x5) (St a b c1 c3) = .nx (rSg2 n W (some (tN' c)) x3 x4 x5) (St a b (.fz (tiesD es)) c3) := by
      unfold cBody
      rw [evB, evS, evT, t1, R.bnd_okE, cond_false, t2, R.s_okE, cond_false, evB, seqS_nx, evB]
    rw [hg, R.s_okE, hb, loopK_nx]
    exact hl
/-- the first of each piece -/
theorem p_firsts (X : PX n es gs) (k : Nat) (a b : Int) (x3 x4 x5 : Option T) (x2 : Option T) : ∀ (cs : List Nat) (c1 : Cell) (t7 : T), TC es c1 t7 → (∀ c ∈ cs, c < n) → ∃ c1' t7', TC es c1' t7' ∧
    lcL (fun t S2 => ((evG (callF tab (k + 2)) (.nm 2) t (wipe (rSg2 n W x2 x3 x4 x5) [2]) S2).bnd fun sg1 S3 => (evT (callF tab (k + 2)) .tt sg1 S3).bnd fun k' S4 => cond k' ((ev (callF tab (k + 2)) (.b false .idx (.call 0 20 (.cons (.var 7) (.cons (.var 2) .nil))) (.lit (.int 0))) sg1 S4).bnd fun x S5 => .ok (some x) S5) (.ok none S4)).calm) (natsT cs) (St a b c1 c3) = .ok (natsT (cs.map (first es))) (St a b c1' c3)
  | [], c1, t7, ht, _ => ⟨c1, t7, ht, rfl⟩
  | c :: cs, c1, t7, ht, hc => by
    have hcn := hc c List.mem_cons_self
    obtain ⟨c1', t7', ht', hl⟩ := p_firsts X k a b x3 x4 x5 x2 cs (.fz (tiesD es)) (.d (tiesD es)) .fz fun z hz => hc z (List.mem_cons_of_mem _ hz)
    refine ⟨c1', t7', ht', ?_⟩
    have hg : evG (callF tab (k + 2)) (.nm 2) (tN' c) (wipe (rSg2 n W x2 x3 x4 x5) [2]) (St a b c1 c3) = .ok (rSg2 n W (some (tN' c)) x3 x4 x5) (St a b c1 c3) := rfl
    have w2 : ev (callF tab (k + 2)) (.var 2) (rSg2 n W (some (tN' c)) x3 x4 x5) (St a b c1 c3) = .ok (tN' c) (St a b c1 c3) := rfl
    have p1 : ev (callF tab (k + 2)) (.call 0 20 (.cons (.var 7) (.cons (.var 2) .nil))) (rSg2 n W (some (tN' c)) x3 x4 x5) (St a b c1 c3) = .ok (.d (natsD (sortN (pieceF (near1 es) 6 [c])))) (St a b (.fz (tiesD es)) c3) := by
      rw [ev, evs, v7 ht, R.bnd_okE, evs, w2, R.bnd_okE, evs]
      exact piece_call X.G ht k c hcn a b
    have hne : sortN (pieceF (near1 es) 6 [c]) ≠ [] := fun e => by
      obtain ⟨hm, _⟩ := piece_mem X.G.n6 X.G.hb (near1_nd X.G) X.G.nm hcn
      have : c ∈ sortN (pieceF (near1 es) 6 [c]) := (sortN_perm _).mem_iff.mpr ((hm c).mpr (.refl _))
      rw [e] at this
      cases this
    have p2 : ev (callF tab (k + 2)) (.b false .idx (.call 0 20 (.cons (.var 7) (.cons (.var 2) .nil))) (.lit (.int 0))) (rSg2 n W (some (tN' c)) x3 x4 x5) (St a b c1 c3) = .ok (tN' (first es c)) (St a b (.fz (tiesD es)) c3) := by
      have l0 : ev (callF tab (k + 2)) (.lit (.int 0)) (rSg2 n W (some (tN' c)) x3 x4 x5) (St a b (.fz (tiesD es)) c3) = .ok (tI ((0 : Nat) : Int)) (St a b (.fz (tiesD es)) c3) := rfl
      rw [ev, p1, R.bnd_okE, l0, R.bnd_okE]
      unfold first
      cases e : sortN (pieceF (near1 es) 6 [c]) with
      | nil => exact absurd e hne
      | cons y l =>
        rw [idx_nat (r := y :: l) (j := ((0 : Nat) : Int)) (b := y) rfl]
        rfl
    have ht2 : evT (callF tab (k + 2)) .tt (rSg2 n W (some (tN' c)) x3 x4 x5) (St a b c1 c3) = .ok true (St a b c1 c3) := rfl
    show lcL _ (tN' c :: natsT cs) _ = _
    rw [lcL, hg, R.bnd_okE, ht2, R.bnd_okE, cond_true, p2, R.bnd_okE, R.calm_ok, R.bnd_okE, hl, R.bnd_okE]
    rfl
end
end L81
end

section
set_option linter.all false
set_option maxRecDepth 100000
set_option maxHeartbeats 4000000
set_option autoImplicit false
namespace L81
open PySem Mc G81
section
variable {n : Nat} {es gs : List (Nat × Nat)}
theorem frz_gs (a b : Int) (c1 : Cell) : frzs (frz deep) [.tup [tN' n, .obj 3]] (St a b c1 (tcell gs)) = some ([wv false n gs], St a b c1 (.fz (tiesD gs))) := by
  have e2 : frz 11 (.obj 3) (St a b c1 (tcell gs)) = some (tiesD gs, St a b c1 (.fz (tiesD gs))) := by
    show frz (10 + 1) (.obj 3) _ = _
    rw [frz]
    have : (St a b c1 (tcell gs))[3]? = some (.lst ((gs.map tieD).map T.d)) := by rw [its_ties]; rfl
    simp only [this]
    rw [frzs_d 9]
    rfl
  have e1 : frz 11 (tN' n) (St a b c1 (tcell gs)) = some (nI n, St a b c1 (tcell gs)) := rfl
  have e3 : frz deep (.tup [tN' n, .obj 3]) (St a b c1 (tcell gs)) = some (wv false n gs, St a b c1 (.fz (tiesD gs))) := by
    show frz (11 + 1) _ _ = _
    rw [frz]
    rw [frzs]
    simp only [e1]
    rw [frzs]
    simp only [e2]
    rw [frzs]
    rfl
  rw [frzs]
  simp only [e3]
  rw [frzs]
/-- the web made: a list or a tuple; is_web says True and freezes -/
theorem made (X : PX n es gs) (k : Nat) (a b : Int) (ha : 0 ≤ a) (hb : 0 ≤ b) : ∃ (a' b' : Int) (tp : Bool) (W : T) (c3 : Cell), WC n gs tp W c3 ∧ 0 ≤ a' ∧ 0 ≤ b' ∧
    ev (callF tab (k + 6)) (.tup (.cons (.var 6) (.cons (.ite (.val (.b false .eq (.call 1 17 (.cons (.var 0) (.cons (.lit (.int 2)) .nil))) (.lit (.int 0)))) (.var 9) (.u false .tuple (.var 9))) .nil))) (hSg n) (gSt a b es [] gs) = .ok W (St a' b' (tcell es) (tcell gs)) ∧
    callM (callF tab (k + 6)) 0 10 [W] (St a' b' (tcell es) (tcell gs)) = .ok (tB true) (St a' b' (tcell es) c3) ∧ norm (St a' b' (tcell es) (tcell gs)) W = W := by
  obtain ⟨r, a1, b1, hd, h1, h2, ha1, hb1⟩ := draw_at (k + 5) 0 (gSt a b es [] gs) a b 2 rfl ha hb (by decide) (by decide)
  have hd : callM (callF tab (k + 6)) 1 17 [.obj 0, tI 2] (gSt a b es [] gs) = .ok (tI r) (St a1 b1 (tcell es) (tcell gs)) := hd
  have v6 : ev (callF tab (k + 6)) (.var 6) (hSg n) (gSt a b es [] gs) = .ok (tN' n) (gSt a b es [] gs) := rfl
  have tt : evT (callF tab (k + 6)) (.val (.b false .eq (.call 1 17 (.cons (.var 0) (.cons (.lit (.int 2)) .nil))) (.lit (.int 0)))) (hSg n) (gSt a b es [] gs) = .ok (r == 0) (St a1 b1 (tcell es) (tcell gs)) := by
    have e1 : ev (callF tab (k + 6)) (.call 1 17 (.cons (.var 0) (.cons (.lit (.int 2)) .nil))) (hSg n) (gSt a b es [] gs) = .ok (tI r) (St a1 b1 (tcell es) (tcell gs)) := hd
    have e2 : ev (callF tab (k + 6)) (.lit (.int 0)) (hSg n) (St a1 b1 (tcell es) (tcell gs)) = .ok (tI 0) (St a1 b1 (tcell es) (tcell gs)) := rfl
    rw [evT, ev, e1, R.bnd_okE, e2, R.bnd_okE, b2_eqI, fin_vE]
    rfl
  by_cases hr : r = 0
  · refine ⟨a1, b1, false, .tup [tN' n, .obj 3], .fz (tiesD gs), .lst, ha1, hb1, ?_, callM0 (frz_gs a1 b1 (tcell es)) (f10 X (k + 1) false []) rfl, rfl⟩
    have v9 : ev (callF tab (k + 6)) (.var 9) (hSg n) (St a1 b1 (tcell es) (tcell gs)) = .ok (.obj 3) (St a1 b1 (tcell es) (tcell gs)) := rfl
    rw [ev, evs, v6, R.bnd_okE, evs, ev, tt, R.bnd_okE, hr]
    show R.bnd (R.bnd (R.bnd (ev (callF tab (k + 6)) (.var 9) (hSg n) (St a1 b1 (tcell es) (tcell gs))) _) _) _ = _
    rw [v9, R.bnd_okE, evs]
    rfl
  · refine ⟨a1, b1, true, .d (wv true n gs), tcell gs, .tup, ha1, hb1, ?_, callM0 (ds := [wv true n gs]) rfl (f10 X (k + 1) true []) rfl, rfl⟩
    have e0 : (r == 0) = false := by simpa using hr
    have v9 : ev (callF tab (k + 6)) (.u false .tuple (.var 9)) (hSg n) (St a1 b1 (tcell es) (tcell gs)) = .ok (.d (gv true gs)) (St a1 b1 (tcell es) (tcell gs)) := by
      show R.ok (mkTup (gs.map fun e => T.d (tieD e))) (St a1 b1 (tcell es) (tcell gs)) = _
      rw [← its_ties, mkTup_map]
      rfl
    rw [ev, evs, v6, R.bnd_okE, evs, ev, tt, R.bnd_okE, e0, cond_false, v9, R.bnd_okE, evs]
    rfl
end
end L81
end

section
set_option linter.all false
set_option maxRecDepth 100000
set_option maxHeartbeats 4000000
set_option autoImplicit false
namespace L81
open PySem Mc G81
section
variable {n : Nat} {es gs : List (Nat × Nat)} {tp : Bool} {W : T} {c1 c3 : Cell} {t7 : T}
theorem eqv_web (n : Nat) (es : List (Nat × Nat)) : PyData.eqv (webD n es) (webD n es) = true := by
  unfold webD
  rw [PyData.eqv, PySem.W.eqv_all_cons, PySem.W.eqv_all_cons, beq_nI]
  have : PyData.eqv (tiesD es) (tiesD es) = true := by unfold tiesD; rw [PyData.eqv, eqvAll_ties]; simp
  rw [this]
  simp [PyData.eqvAll]
theorem depth_web (n : Nat) (es : List (Nat × Nat)) : (webD n es).depth ≤ 3 := by
  have := depth_ties es
  unfold webD
  simp only [PyData.depth, PyData.depthAll, nI]
  omega
theorem snap_pair (h : TC es c1 t7) (a b : Int) : snap (St a b c1 c3) deep (mkTup [tN' n, t7]) = some (webD n es) := by
  cases h with
  | fz => rfl
  | lst =>
    show snap (St a b (tcell es) c3) (11 + 1) (.tup [tN' n, .obj 1]) = _
    rw [snap]
    have e1 : snap (St a b (tcell es) c3) 11 (tN' n) = some (nI n) := rfl
    have e2 : snap (St a b (tcell es) c3) 11 (.obj 1) = some (tiesD es) := by
      show snap _ (10 + 1) _ = _
      rw [snap]
      have : (St a b (tcell es) c3)[1]? = some (.lst (es.map fun e => T.d (tieD e))) := rfl
      simp only [this]
      show (mapO (snap _ (9 + 1)) _).map PyData.list = _
      rw [mapO_ties]; rfl
    simp only [mapO, e1, e2]
    rfl
theorem ev_pair (h : TC es c1 t7) (cf : Nat → List T → Store → R T) (a b : Int) (x2 x3 x4 x5 : Option T) : ev cf (.tup (.cons (.var 6) (.cons (.var 7) .nil))) (rSg2 n W x2 x3 x4 x5) (St a b c1 c3) = .ok (mkTup [tN' n, t7]) (St a b c1 c3) := by
  have v6 : ev cf (.var 6) (rSg2 n W x2 x3 x4 x5) (St a b c1 c3) = .ok (tN' n) (St a b c1 c3) := rfl
  rw [ev, evs, v6, R.bnd_okE, evs, v7 h, R.bnd_okE, evs]
  rfl
theorem ne_pair (h : TC es c1 t7) (a b : Int) : b2 .ne (St a b c1 c3) (.d (webD n es)) (mkTup [tN' n, t7]) = some (.v (tB false)) := by
  show (cmp2 _ _ _).map _ = _
  unfold cmp2
  rw [snap_pair h a b, snap_d]
  simp only
  rw [if_pos (by have := depth_web n es; omega)]
  show some (O.v (tB (!PyData.eqv (webD n es) (webD n es)))) = _
  rw [eqv_web]; rfl
theorem eq_pair (h : TC es c1 t7) (a b : Int) : b2 .eq (St a b c1 c3) (.d (webD n es)) (mkTup [tN' n, t7]) = some (.v (tB true)) := by
  show (cmp2 _ _ _).map _ = _
  unfold cmp2
  rw [snap_pair h a b, snap_d]
  simp only
  rw [if_pos (by have := depth_web n es; omega)]
  show some (O.v (tB (PyData.eqv (webD n es) (webD n es)))) = _
  rw [eqv_web]
end
end L81
end

section
set_option linter.all false
set_option maxRecDepth 100000
set_option maxHeartbeats 4000000
set_option autoImplicit false
namespace L81
open PySem Mc G81
section
variable {n : Nat} {es gs : List (Nat × Nat)} {tp : Bool} {W : T} {c1 c3 : Cell} {t7 : T}
def q5 : Tx := (.or_ (.val (.b false (B2.is_ true) (.call 0 10 (.cons (.var 1) .nil)) (.lit (.bool true)))) (.or_ (.val (.b false .ne (.call 0 11 (.cons (.var 1) .nil)) (.tup (.cons (.var 6) (.cons (.var 7) .nil))))) (.not_ (.val (.u false (.isi [.list]) (.b false .idx (.call 0 11 (.cons (.var 1) .nil)) (.lit (.int 1))))))))
theorem t5 (X : PX n es gs) (h : WC n gs tp W c3) (k : Nat) (a b : Int) (h10 : callM (callF tab (k + 6)) 0 10 [W] (St a b (tcell es) (tcell gs)) = .ok (tB true) (St a b (tcell es) c3)) (hn : norm (St a b (tcell es) (tcell gs)) W = W) :
    evT (callF tab (k + 6)) q5 (rSg2 n W none none none none) (St a b (tcell es) (tcell gs)) = .ok false (St a b (tcell es) c3) := by
  have w0 : ev (callF tab (k + 6)) (.var 1) (rSg2 n W none none none none) (St a b (tcell es) (tcell gs)) = .ok W (St a b (tcell es) (tcell gs)) := by
    show R.ok (norm _ W) _ = _
    rw [hn]
  have w1 : ev (callF tab (k + 6)) (.var 1) (rSg2 n W none none none none) (St a b (tcell es) c3) = .ok W (St a b (tcell es) c3) := v1 h _ a b _ _ _ _
  have a1 : evT (callF tab (k + 6)) (.val (.b false (B2.is_ true) (.call 0 10 (.cons (.var 1) .nil)) (.lit (.bool true)))) (rSg2 n W none none none none) (St a b (tcell es) (tcell gs)) = .ok false (St a b (tcell es) c3) := by
    have c : ev (callF tab (k + 6)) (.call 0 10 (.cons (.var 1) .nil)) (rSg2 n W none none none none) (St a b (tcell es) (tcell gs)) = .ok (tB true) (St a b (tcell es) c3) := by
      rw [ev, evs, w0, R.bnd_okE, evs]
      exact h10
    rw [evT, ev, c]
    rfl
  have c11 : ev (callF tab (k + 6)) (.call 0 11 (.cons (.var 1) .nil)) (rSg2 n W none none none none) (St a b (tcell es) c3) = .ok (.d (webD n es)) (St a b (tcell es) c3) := by
    rw [ev, evs, w1, R.bnd_okE, evs]
    exact told_call X h k a b
  have a2 : evT (callF tab (k + 6)) (.val (.b false .ne (.call 0 11 (.cons (.var 1) .nil)) (.tup (.cons (.var 6) (.cons (.var 7) .nil))))) (rSg2 n W none none none none) (St a b (tcell es) c3) = .ok false (St a b (tcell es) c3) := by
    rw [evT, ev, c11, R.bnd_okE, ev_pair (TC.lst (es := es)), R.bnd_okE, ne_pair (TC.lst (es := es))]
    rfl
  have a3 : evT (callF tab (k + 6)) (.not_ (.val (.u false (.isi [.list]) (.b false .idx (.call 0 11 (.cons (.var 1) .nil)) (.lit (.int 1)))))) (rSg2 n W none none none none) (St a b (tcell es) c3) = .ok false (St a b (tcell es) c3) := by
    rw [evT, evT, ev, ev, c11]
    rfl
  unfold q5
  rw [evT, a1, R.bnd_okE, cond_false, evT, a2, R.bnd_okE, cond_false, a3]
end
end L81
end

section
set_option linter.all false
set_option maxRecDepth 100000
set_option maxHeartbeats 4000000
set_option autoImplicit false
namespace L81
open PySem Mc G81
section
variable {n : Nat} {es gs : List (Nat × Nat)} {tp : Bool} {W : T} {c1 c3 : Cell} {t7 : T}
def pLc : Ex := (.lc false [2] (.nm 2) (.rng1 (.var 6)) .tt (.b false .idx (.call 0 20 (.cons (.var 7) (.cons (.var 2) .nil))) (.lit (.int 0))))
theorem rng_var (cf : Nat → List T → Store → R T) (h6 : n ≤ 6) (x2 x3 x4 x5 : Option T) (S : Store) : evI cf (.rng1 (.var 6)) (rSg2 n W x2 x3 x4 x5) S = .ok (.its (natsT (List.range n))) S := by
  show rng1K (T.d (nI n)) S = _
  show (if ((n : Int) ≤ 1000000 && -1000000 ≤ (n : Int)) = true then R.ok (Wk.its (rng 0 (n : Int).toNat)) S else .no) = _
  rw [if_pos (by simp; omega)]
  show R.ok (Wk.its (rng 0 n)) _ = _
  rw [rng0]
theorem e_pieces (X : PX n es gs) (k : Nat) (a b : Int) (x2 : Option T) (ht : TC es c1 t7) : ∃ c1' t7', TC es c1' t7' ∧ ev (callF tab (k + 2)) (.u false .lenset pLc) (rSg2 n W x2 none none none) (St a b c1 c3) = .ok (tN' (pcs n es)) (St a b c1' c3) := by
  obtain ⟨c1', t7', ht', hl⟩ := p_firsts (W := W) (c3 := c3) X k a b none none none x2 (List.range n) c1 t7 ht fun c hc => List.mem_range.mp hc
  refine ⟨c1', t7', ht', ?_⟩
  have e1 : ev (callF tab (k + 2)) pLc (rSg2 n W x2 none none none) (St a b c1 c3) = .ok (.d (natsD ((List.range n).map (first es)))) (St a b c1' c3) := by
    unfold pLc
    rw [ev, rng_var _ X.G.n6, R.bnd_okE]
    show (lcL _ (natsT (List.range n)) (St a b c1 c3)).bnd _ = _
    rw [hl, R.bnd_okE, ← natsT_eq]
    exact fin_tree false _ _
  rw [ev, e1, R.bnd_okE, lensetN (by have := X.G.n6; simp; omega)]
  rfl
end
end L81
end

section
set_option linter.all false
set_option maxRecDepth 100000
set_option maxHeartbeats 4000000
set_option autoImplicit false
namespace L81
open PySem Mc G81
def bb (x y : Bool) : PyData := .list [.bool x, .bool y]
theorem repr_bb (S : Store) (x y : Bool) : ∃ s : Str, u1 .repr S (.d (bb x y)) = some (.v (tS s)) := by
  refine ⟨(bb x y).shown, ?_⟩
  unfold u1
  simp only [snap_d]
  rw [if_pos (by cases x <;> cases y <;> decide +kernel)]
theorem ne_str (S : Store) (s : Str) : b2 .ne S (tS s) (tS s) = some (.v (tB false)) := by
  have e : cmp2 S (tS s) (tS s) = some (.str s, .str s) := by
    unfold cmp2
    simp only [tS, snap_d]
    rw [if_pos (by simp [PyData.depth])]
  unfold b2
  rw [e]
  simp [PyData.eqv]
section
variable {n : Nat} {es gs : List (Nat × Nat)} {tp : Bool} {W : T} {c1 c3 : Cell} {t7 : T}
def dueL : Ex := (.lst false (.cons (.b false .eq (.var 3) (.lit (.int 1))) (.cons (.b false .gt (.u false .len (.var 7)) (.b false .sub (.var 6) (.var 3))) .nil)))
theorem len7 (h : TC es c1 t7) (a b : Int) : u1 .len (St a b c1 c3) t7 = some (.v (tI (es.length : Nat))) := by
  cases h with
  | lst =>
    show some (O.v (tI ((es.map fun e => T.d (tieD e)).length : Nat))) = _
    rw [List.length_map]
  | fz =>
    show some (O.v (tI (((es.map tieD).map T.d).length : Nat))) = _
    rw [List.length_map, List.length_map]
theorem e_due (h : TC es c1 t7) (cf : Nat → List T → Store → R T) (a b : Int) (p : Nat) (x2 x4 x5 : Option T) : ev cf dueL (rSg2 n W x2 (some (tN' p)) x4 x5) (St a b c1 c3) = .ok (.d (bb (p == 1) (decide ((n : Int) - p < es.length)))) (St a b c1 c3) := by
  have e1 : ev cf (.b false .eq (.var 3) (.lit (.int 1))) (rSg2 n W x2 (some (tN' p)) x4 x5) (St a b c1 c3) = .ok (tB (p == 1)) (St a b c1 c3) := by
    show fin false (St a b c1 c3) (b2 .eq (St a b c1 c3) (.d (nI p)) (.d (nI 1))) = _
    rw [b2_eqN]; rfl
  have l7 : ev cf (.u false .len (.var 7)) (rSg2 n W x2 (some (tN' p)) x4 x5) (St a b c1 c3) = .ok (tI (es.length : Nat)) (St a b c1 c3) := by
    rw [ev, v7 h, R.bnd_okE, len7 h, fin_vE]
  have s6 : ev cf (.b false .sub (.var 6) (.var 3)) (rSg2 n W x2 (some (tN' p)) x4 x5) (St a b c1 c3) = .ok (tI ((n : Int) - p)) (St a b c1 c3) := rfl
  have e2 : ev cf (.b false .gt (.u false .len (.var 7)) (.b false .sub (.var 6) (.var 3))) (rSg2 n W x2 (some (tN' p)) x4 x5) (St a b c1 c3) = .ok (tB (decide ((n : Int) - p < es.length))) (St a b c1 c3) := by
    rw [ev, l7, R.bnd_okE, s6, R.bnd_okE, b2_gtI, fin_vE]
  unfold dueL
  rw [ev, evs, e1, R.bnd_okE, evs, e2, R.bnd_okE, evs]
  rfl
def q8 : Tx := .val (.b false .ne (.u false .repr (.lst false (.cons (.call 0 13 (.cons (.var 1) .nil)) (.cons (.call 0 14 (.cons (.var 1) .nil)) .nil)))) (.u false .repr (.var 4)))
theorem t8 (X : PX n es gs) (h : WC n gs tp W c3) (k : Nat) (a b : Int) {K r : List Nat} (hK : keptL (near1 es) 6 (List.range n) [] = some K) (hr : reachL (near1 es) 20 [0] [0] = some r) (x2 x3 x5 : Option T) :
    evT (callF tab (k + 6)) q8 (rSg2 n W x2 x3 (some (.d (bb (decide (r.length = n)) (!decide (K = []))))) x5) (St a b c1 c3) = .ok false (St a b c1 c3) := by
  have w1 : ev (callF tab (k + 6)) (.var 1) (rSg2 n W x2 x3 (some (.d (bb (decide (r.length = n)) (!decide (K = []))))) x5) (St a b c1 c3) = .ok W (St a b c1 c3) := v1 h _ a b _ _ _ _
  have c13 : ev (callF tab (k + 6)) (.call 0 13 (.cons (.var 1) .nil)) (rSg2 n W x2 x3 (some (.d (bb (decide (r.length = n)) (!decide (K = []))))) x5) (St a b c1 c3) = .ok (tB (decide (r.length = n))) (St a b c1 c3) := by
    rw [ev, evs, w1, R.bnd_okE, evs]
    exact w_call h a b (f13 X k tp [] hr) rfl
  have c14 : ev (callF tab (k + 6)) (.call 0 14 (.cons (.var 1) .nil)) (rSg2 n W x2 x3 (some (.d (bb (decide (r.length = n)) (!decide (K = []))))) x5) (St a b c1 c3) = .ok (tB (!decide (K = []))) (St a b c1 c3) := by
    rw [ev, evs, w1, R.bnd_okE, evs]
    exact w_call h a b (f14 X k tp [] hK) rfl
  obtain ⟨s, hs⟩ := repr_bb (St a b c1 c3) (decide (r.length = n)) (!decide (K = []))
  have r1 : ev (callF tab (k + 6)) (.u false .repr (.lst false (.cons (.call 0 13 (.cons (.var 1) .nil)) (.cons (.call 0 14 (.cons (.var 1) .nil)) .nil)))) (rSg2 n W x2 x3 (some (.d (bb (decide (r.length = n)) (!decide (K = []))))) x5) (St a b c1 c3) = .ok (tS s) (St a b c1 c3) := by
    have : ev (callF tab (k + 6)) (.lst false (.cons (.call 0 13 (.cons (.var 1) .nil)) (.cons (.call 0 14 (.cons (.var 1) .nil)) .nil))) (rSg2 n W x2 x3 (some (.d (bb (decide (r.length = n)) (!decide (K = []))))) x5) (St a b c1 c3) = .ok (.d (bb (decide (r.length = n)) (!decide (K = [])))) (St a b c1 c3) := by
      rw [ev, evs, c13, R.bnd_okE, evs, c14, R.bnd_okE, evs]
      rfl
    rw [ev, this, R.bnd_okE, hs, fin_vE]
  have r2 : ev (callF tab (k + 6)) (.u false .repr (.var 4)) (rSg2 n W x2 x3 (some (.d (bb (decide (r.length = n)) (!decide (K = []))))) x5) (St a b c1 c3) = .ok (tS s) (St a b c1 c3) := by
    have : ev (callF tab (k + 6)) (.var 4) (rSg2 n W x2 x3 (some (.d (bb (decide (r.length = n)) (!decide (K = []))))) x5) (St a b c1 c3) = .ok (.d (bb (decide (r.length = n)) (!decide (K = [])))) (St a b c1 c3) := rfl
    rw [ev, this, R.bnd_okE, hs, fin_vE]
  unfold q8
  rw [evT, ev, r1, R.bnd_okE, r2, R.bnd_okE, ne_str, fin_vE]
  rfl
end
end L81
end

section
set_option linter.all false
set_option maxRecDepth 100000
set_option maxHeartbeats 4000000
set_option autoImplicit false
namespace L81
open PySem Mc G81
/-! ### the tail: the told web spoiled, then told anew -/
def StX (a b : Int) (c1 c3 x : Cell) : Store := [pot a b, c1, tcell [], c3, x]
def xc (es : List (Nat × Nat)) : Cell := .lst ((es.map tieD).map T.d ++ [tN])
section
variable {n : Nat} {es gs : List (Nat × Nat)} {tp : Bool} {W : T} {c1 c3 x : Cell} {t7 : T}
theorem v7X (h : TC es c1 t7) (cf : Nat → List T → Store → R T) (a b : Int) (x2 x3 x4 x5 : Option T) : ev cf (.var 7) (rSg2 n W x2 x3 x4 x5) (StX a b c1 c3 x) = .ok t7 (StX a b c1 c3 x) := by
  cases h <;> rfl
theorem v1X (h : WC n gs tp W c3) (cf : Nat → List T → Store → R T) (a b : Int) (x2 x3 x4 x5 : Option T) : ev cf (.var 1) (rSg2 n W x2 x3 x4 x5) (StX a b c1 c3 x) = .ok W (StX a b c1 c3 x) := by
  cases h <;> rfl
theorem wX (h : WC n gs tp W c3) (a b : Int) (c1 x : Cell) : WX W (StX a b c1 c3 x) tp n gs := by
  cases h with
  | lst => exact ⟨rfl, rfl, rfl, rfl⟩
  | tup => exact ⟨rfl, rfl, rfl, rfl⟩
theorem tc_frzX (h : TC es c1 t7) (a b : Int) : frz deep t7 (StX a b c1 c3 x) = some (tiesD es, StX a b (.fz (tiesD es)) c3 x) := by
  cases h with
  | fz => rfl
  | lst =>
    show frz (11 + 1) (.obj 1) _ = _
    rw [frz]
    have : (StX a b (tcell es) c3 x)[1]? = some (.lst ((es.map tieD).map T.d)) := by rw [its_ties]; rfl
    simp only [this]
    rw [frzs_d 10]
    rfl
theorem told_callX (X : PX n es gs) (h : WC n gs tp W c3) (k : Nat) (a b : Int) : callM (callF tab (k + 6)) 0 11 [W] (StX a b c1 c3 x) = .ok (.d (webD n es)) (StX a b c1 c3 x) :=
  callM0 (wX h a b c1 x).frz (f11 X k tp []) (frz_web n es)
theorem snap_pairX (h : TC es c1 t7) (a b : Int) : snap (StX a b c1 c3 x) deep (mkTup [tN' n, t7]) = some (webD n es) := by
  cases h with
  | fz => rfl
  | lst =>
    show snap (StX a b (tcell es) c3 x) (11 + 1) (.tup [tN' n, .obj 1]) = _
    rw [snap]
    have e1 : snap (StX a b (tcell es) c3 x) 11 (tN' n) = some (nI n) := rfl
    have e2 : snap (StX a b (tcell es) c3 x) 11 (.obj 1) = some (tiesD es) := by
      show snap _ (10 + 1) _ = _
      rw [snap]
      have : (StX a b (tcell es) c3 x)[1]? = some (.lst (es.map fun e => T.d (tieD e))) := rfl
      simp only [this]
      show (mapO (snap _ (9 + 1)) _).map PyData.list = _
      rw [mapO_ties]; rfl
    simp only [mapO, e1, e2]
    rfl
theorem ev_pairX (h : TC es c1 t7) (cf : Nat → List T → Store → R T) (a b : Int) (x2 x3 x4 x5 : Option T) : ev cf (.tup (.cons (.var 6) (.cons (.var 7) .nil))) (rSg2 n W x2 x3 x4 x5) (StX a b c1 c3 x) = .ok (mkTup [tN' n, t7]) (StX a b c1 c3 x) := by
  have v6 : ev cf (.var 6) (rSg2 n W x2 x3 x4 x5) (StX a b c1 c3 x) = .ok (tN' n) (StX a b c1 c3 x) := rfl
  rw [ev, evs, v6, R.bnd_okE, evs, v7X h, R.bnd_okE, evs]
  rfl
theorem eq_pairX (h : TC es c1 t7) (a b : Int) : b2 .eq (StX a b c1 c3 x) (.d (webD n es)) (mkTup [tN' n, t7]) = some (.v (tB true)) := by
  show (cmp2 _ _ _).map _ = _
  unfold cmp2
  rw [snap_pairX h a b, snap_d]
  simp only
  rw [if_pos (by have := depth_web n es; omega)]
  show some (O.v (tB (PyData.eqv (webD n es) (webD n es)))) = _
  rw [eqv_web]
def q12 : Ex := (.app (.b false .idx (.call 1 11 (.cons (.var 1) .nil)) (.lit (.int 1))) (.lit .none))
theorem e12 (X : PX n es gs) (h : WC n gs tp W c3) (k : Nat) (a b : Int) (x2 x3 x4 x5 : Option T) : ev (callF tab (k + 6)) q12 (rSg2 n W x2 x3 x4 x5) (St a b c1 c3) = .ok tN (StX a b c1 c3 (xc es)) := by
  have c : ev (callF tab (k + 6)) (.call 1 11 (.cons (.var 1) .nil)) (rSg2 n W x2 x3 x4 x5) (St a b c1 c3) = .ok (.tup [tN' n, .obj 4]) (StX a b c1 c3 (.lst ((es.map tieD).map T.d))) := by
    rw [ev, evs, v1 h, R.bnd_okE, evs]
    exact f11W X (wx h a b c1) k
  have l1 : ∀ S : Store, ev (callF tab (k + 6)) (.lit (.int 1)) (rSg2 n W x2 x3 x4 x5) S = .ok (tI 1) S := fun _ => rfl
  have i1 : ev (callF tab (k + 6)) (.b false .idx (.call 1 11 (.cons (.var 1) .nil)) (.lit (.int 1))) (rSg2 n W x2 x3 x4 x5) (St a b c1 c3) = .ok (.obj 4) (StX a b c1 c3 (.lst ((es.map tieD).map T.d))) := by
    rw [ev, c, R.bnd_okE, l1, R.bnd_okE]
    rfl
  have ck : chkL (.obj 4) (StX a b c1 c3 (.lst ((es.map tieD).map T.d))) = .ok (.obj 4) (StX a b c1 c3 (.lst ((es.map tieD).map T.d))) := rfl
  have ln : ev (callF tab (k + 6)) (.lit .none) (rSg2 n W x2 x3 x4 x5) (StX a b c1 c3 (.lst ((es.map tieD).map T.d))) = .ok tN (StX a b c1 c3 (.lst ((es.map tieD).map T.d))) := rfl
  unfold q12
  rw [ev, i1, R.bnd_okE, ck, R.bnd_okE, ln, R.bnd_okE]
  have e5 : (StX a b c1 c3 (.lst ((es.map tieD).map T.d)))[4]? = some (.lst ((es.map tieD).map T.d)) := rfl
  have hl := X.G.len
  unfold appK
  simp only [e5, List.length_map]
  rw [if_pos (by unfold line; omega)]
  rfl
def q13 : Ex := (.and_ (.call 0 21 (.cons (.var 7) (.cons (.var 5) .nil))) (.b false .eq (.callK 0 11 [0] (.cons (.var 1) .nil)) (.tup (.cons (.var 6) (.cons (.var 7) .nil)))))
theorem e13 (X : PX n es gs) (h : WC n gs tp W c3) (ht : TC es c1 t7) (k : Nat) (a b : Int) {q : List Nat} (hq : IsRing n es q) (x2 x3 x4 : Option T) : ∃ S, ev (callF tab (k + 6)) q13 (rSg2 n W x2 x3 x4 (some (.d (natsD q)))) (StX a b c1 c3 x) = .ok (tB true) S := by
  have v5 : ev (callF tab (k + 6)) (.var 5) (rSg2 n W x2 x3 x4 (some (.d (natsD q)))) (StX a b c1 c3 x) = .ok (.d (natsD q)) (StX a b c1 c3 x) := rfl
  have fr : frzs (frz deep) [t7, .d (natsD q)] (StX a b c1 c3 x) = some ([tiesD es, natsD q], StX a b (.fz (tiesD es)) c3 x) := by
    rw [frzs]
    simp only [tc_frzX ht]
    rfl
  have c21 : ev (callF tab (k + 6)) (.call 0 21 (.cons (.var 7) (.cons (.var 5) .nil))) (rSg2 n W x2 x3 x4 (some (.d (natsD q)))) (StX a b c1 c3 x) = .ok (tB true) (StX a b (.fz (tiesD es)) c3 x) := by
    rw [ev, evs, v7X ht, R.bnd_okE, evs, v5, R.bnd_okE, evs]
    exact callM0 fr (f21 X.G (k + 4) q hq []) rfl
  have c11 : ∀ {c1 : Cell}, ev (callF tab (k + 6)) (.callK 0 11 [0] (.cons (.var 1) .nil)) (rSg2 n W x2 x3 x4 (some (.d (natsD q)))) (StX a b c1 c3 x) = .ok (.d (webD n es)) (StX a b c1 c3 x) := fun {c1} => by
    rw [ev, evs, v1X h, R.bnd_okE, evs]
    exact told_callX X h k a b
  cases ht with
  | lst =>
    refine ⟨StX a b (.fz (tiesD es)) c3 x, ?_⟩
    have v7b : ev (callF tab (k + 6)) (.tup (.cons (.var 6) (.cons (.var 7) .nil))) (rSg2 n W x2 x3 x4 (some (.d (natsD q)))) (StX a b (.fz (tiesD es)) c3 x) = .ok (mkTup [tN' n, .d (tiesD es)]) (StX a b (.fz (tiesD es)) c3 x) := ev_pairX .fz _ a b _ _ _ _
    unfold q13
    rw [ev, c21, R.bnd_okE]
    show ev (callF tab (k + 6)) (.b false .eq (.callK 0 11 [0] (.cons (.var 1) .nil)) (.tup (.cons (.var 6) (.cons (.var 7) .nil)))) (rSg2 n W x2 x3 x4 (some (.d (natsD q)))) (StX a b (.fz (tiesD es)) c3 x) = _
    rw [ev, c11, R.bnd_okE, v7b, R.bnd_okE, eq_pairX .fz]
    rfl
  | fz =>
    refine ⟨StX a b (.fz (tiesD es)) c3 x, ?_⟩
    have v7b : ev (callF tab (k + 6)) (.tup (.cons (.var 6) (.cons (.var 7) .nil))) (rSg2 n W x2 x3 x4 (some (.d (natsD q)))) (StX a b (.fz (tiesD es)) c3 x) = .ok (mkTup [tN' n, .d (tiesD es)]) (StX a b (.fz (tiesD es)) c3 x) := ev_pairX .fz _ a b _ _ _ _
    unfold q13
    rw [ev, c21, R.bnd_okE]
    show ev (callF tab (k + 6)) (.b false .eq (.callK 0 11 [0] (.cons (.var 1) .nil)) (.tup (.cons (.var 6) (.cons (.var 7) .nil)))) (rSg2 n W x2 x3 x4 (some (.d (natsD q)))) (StX a b (.fz (tiesD es)) c3 x) = _
    rw [ev, c11, R.bnd_okE, v7b, R.bnd_okE, eq_pairX .fz]
    rfl
end
end L81
end

section
set_option linter.all false
set_option maxRecDepth 100000
set_option maxHeartbeats 4000000
set_option autoImplicit false
namespace L81
open PySem Mc G81
def sg0 : Sg := [some (.obj 0), none, none, none, none, none, none, none, none, none]
def sg1 (n : Nat) : Sg := [some (.obj 0), none, none, none, none, none, some (tN' n), some (.obj 1), none, none]
theorem s1r (k : Nat) (a b : Int) (ha : 0 ≤ a) (hb : 0 ≤ b) : ∃ (n : Nat) (es : List (Nat × Nat)) (a' b' : Int), evS (callF tab (k + 6)) (.asg (.tup (.cons (.nm 6) (.cons (.nm 7) .nil))) (.call 1 18 (.cons (.var 0) (.cons (.lit (.int 1)) (.cons (.lit (.int 6)) .nil))))) sg0 [pot a b] = .nx (sg1 n) (wS a' b' es) ∧ 0 ≤ a' ∧ 0 ≤ b' ∧ 0 < n ∧ n ≤ 6 ∧ es.Sublist (pairs n) := by
  obtain ⟨n, es, a1, b1, h, r⟩ := f18 (k + 4) a b ha hb
  refine ⟨n, es, a1, b1, ?_, r⟩
  have c : ev (callF tab (k + 6)) (.call 1 18 (.cons (.var 0) (.cons (.lit (.int 1)) (.cons (.lit (.int 6)) .nil)))) sg0 [pot a b] = .ok (.tup [tN' n, .obj 1]) (wS a1 b1 es) := h
  rw [evS, c, R.s_okE]
  rfl
theorem s2r (k n : Nat) (es : List (Nat × Nat)) (a b : Int) : evS (callF tab (k + 6)) (.par 8 9 (.u true .list (.var 7)) (.lst true .nil)) (sg1 n) (wS a b es) = .nx (hSg n) (gSt a b es es []) := by
  have e1 : ev (callF tab (k + 6)) (.u true .list (.var 7)) (sg1 n) (wS a b es) = .ok (.obj 2) [pot a b, tcell es, tcell es] := rfl
  rw [evS, e1, R.s_okE]
  rfl
end L81
end

section
set_option linter.all false
set_option maxRecDepth 100000
set_option maxHeartbeats 4000000
set_option autoImplicit false
namespace L81
open PySem Mc G81
section
variable {n : Nat} {es gs : List (Nat × Nat)} {tp : Bool} {W : T} {c1 c3 : Cell} {t7 : T}
theorem s3r (k n : Nat) (es : List (Nat × Nat)) (a b : Int) (ha : 0 ≤ a) (hb : 0 ≤ b) (hl : es.length ≤ 15) : ∃ (a' b' : Int) (gs : List (Nat × Nat)), 0 ≤ a' ∧ 0 ≤ b' ∧ gs.Perm es ∧ evS (callF tab (k + 6)) (.wh hTest hBody) (hSg n) (gSt a b es es []) = .nx (hSg n) (gSt a' b' es [] gs) := by
  obtain ⟨a1, b1, gs, h1, h2, h3, h4⟩ := h_loop (k + 5) n es es.length es [] a b ha hb rfl (by simp; omega) (FU - (es.length + 1))
  refine ⟨a1, b1, gs, h1, h2, by rw [List.nil_append] at h3; exact h3, ?_⟩
  have e : es.length + 1 + (FU - (es.length + 1)) = FU := by unfold FU; omega
  rw [e] at h4
  rw [evS]
  exact h4
theorem s6r (X : PX n es gs) (h : WC n gs tp W c3) (k : Nat) (a b : Int) (x3 x4 x5 : Option T) (ht : TC es c1 t7) (x2 : Option T) : ∃ c1' t7' x2', TC es c1' t7' ∧ evS (callF tab (k + 6)) (.for_ (.nm 2) (.rng1 (.var 6)) cBody) (rSg2 n W x2 x3 x4 x5) (St a b c1 c3) = .nx (rSg2 n W x2' x3 x4 x5) (St a b c1' c3) := by
  obtain ⟨c1', t7', x2', ht', hl⟩ := c_loop X h k a b x3 x4 x5 (List.range n) c1 t7 x2 ht fun c hc => List.mem_range.mp hc
  refine ⟨c1', t7', x2', ht', ?_⟩
  rw [evS, rng_var _ X.G.n6, R.s_okE]
  exact hl
theorem s10 (X : PX n es gs) (h : WC n gs tp W c3) (k : Nat) (a b : Int) {t : T} (x2 x3 x4 x5 : Option T) (d : PyData) (hd : t = .d d) (hf : callF tab (k + 6) 15 [.d (wv tp n gs)] [] = .ok t []) : evS (callF tab (k + 6)) (.asg (.nm 5) (.call 0 15 (.cons (.var 1) .nil))) (rSg2 n W x2 x3 x4 x5) (St a b c1 c3) = .nx (rSg2 n W x2 x3 x4 (some t)) (St a b c1 c3) := by
  subst hd
  have c : ev (callF tab (k + 6)) (.call 0 15 (.cons (.var 1) .nil)) (rSg2 n W x2 x3 x4 x5) (St a b c1 c3) = .ok (.d d) (St a b c1 c3) := by
    rw [ev, evs, v1 h, R.bnd_okE, evs]
    exact w_call h a b hf rfl
  rw [evS, c, R.s_okE]
  rfl
end
end L81
end

section
set_option linter.all false
set_option maxRecDepth 100000
set_option maxHeartbeats 4000000
set_option autoImplicit false
namespace L81
open PySem Mc G81
theorem f22 (k : Nat) (a b : Int) (ha : 0 ≤ a) (hb : 0 ≤ b) : ∃ S, callF tab (k + 7) 22 [.obj 0] [pot a b] = .ok (tB true) S := by
  obtain ⟨n, es, a1, b1, hs1, ha1, hb1, n0, n6, hsub⟩ := s1r k a b ha hb
  obtain ⟨G, hp⟩ := gx_of n0 n6 hsub
  obtain ⟨K, r, hK, hr, gj, gk, gr⟩ := graph n0 n6 hsub
  have hs2 := s2r k n es a1 b1
  obtain ⟨a2, b2', gs, ha2, hb2, hperm, hs3⟩ := s3r k n es a1 b1 ha1 hb1 G.len
  have X : PX n es gs := ⟨G, hperm, hp⟩
  obtain ⟨a3, b3, tp, W, c3, hW, ha3, hb3, hm, h10, hn⟩ := made X k a2 b2' ha2 hb2
  have hs4 : evS (callF tab (k + 6)) (.asg (.nm 1) (.tup (.cons (.var 6) (.cons (.ite (.val (.b false .eq (.call 1 17 (.cons (.var 0) (.cons (.lit (.int 2)) .nil))) (.lit (.int 0)))) (.var 9) (.u false .tuple (.var 9))) .nil)))) (hSg n) (gSt a2 b2' es [] gs) = .nx (rSg2 n W none none none none) (St a3 b3 (tcell es) (tcell gs)) := by
    rw [evS, hm, R.s_okE]
    rfl
  have hs5 : evS (callF tab (k + 6)) (.ite q5 (.cons (.ret (.lit (.bool false))) .nil) .nil) (rSg2 n W none none none none) (St a3 b3 (tcell es) (tcell gs)) = .nx (rSg2 n W none none none none) (St a3 b3 (tcell es) c3) := by
    rw [evS, t5 X hW k a3 b3 h10 hn, R.s_okE, cond_false, evB]
  obtain ⟨c6, t6, x2, ht6, hs6⟩ := s6r X hW k a3 b3 none none none (TC.lst (es := es)) none
  obtain ⟨c7, t7, ht7, he7⟩ := e_pieces (W := W) (c3 := c3) X (k + 4) a3 b3 x2 ht6
  have hs7 : evS (callF tab (k + 6)) (.asg (.nm 3) (.u false .lenset pLc)) (rSg2 n W x2 none none none) (St a3 b3 c6 c3) = .nx (rSg2 n W x2 (some (tN' (pcs n es))) none none) (St a3 b3 c7 c3) := by
    rw [evS, he7, R.s_okE]
    rfl
  have j1 : (pcs n es == 1) = decide (r.length = n) := by
    by_cases q : r.length = n
    · rw [decide_eq_true q, gj.mp q]; rfl
    · rw [decide_eq_false q]
      simpa using fun e => q (gj.mpr e)
  have j2 : decide ((n : Int) - pcs n es < es.length) = !decide (K = []) := by
    by_cases q : K = []
    · have := gk.mp q
      rw [decide_eq_true q, decide_eq_false (by omega)]; rfl
    · have : n < pcs n es + es.length := Classical.byContradiction fun z => q (gk.mpr z)
      rw [decide_eq_false q, decide_eq_true (by omega)]; rfl
  have hs8 : evS (callF tab (k + 6)) (.asg (.nm 4) dueL) (rSg2 n W x2 (some (tN' (pcs n es))) none none) (St a3 b3 c7 c3) = .nx (rSg2 n W x2 (some (tN' (pcs n es))) (some (.d (bb (decide (r.length = n)) (!decide (K = []))))) none) (St a3 b3 c7 c3) := by
    rw [evS, e_due ht7, R.s_okE, j1, j2]
    rfl
  have hs9 : evS (callF tab (k + 6)) (.ite q8 (.cons (.ret (.lit (.bool false))) .nil) .nil) (rSg2 n W x2 (some (tN' (pcs n es))) (some (.d (bb (decide (r.length = n)) (!decide (K = []))))) none) (St a3 b3 c7 c3) = .nx (rSg2 n W x2 (some (tN' (pcs n es))) (some (.d (bb (decide (r.length = n)) (!decide (K = []))))) none) (St a3 b3 c7 c3) := by
    rw [evS, t8 X hW k a3 b3 hK hr, R.s_okE, cond_false, evB]
  have main : ∀ (t : T) (d : PyData), t = .d d → callF tab (k + 6) 15 [.d (wv tp n gs)] [] = .ok t [] → (∃ S, evB (callF tab (k + 6)) (.cons (.ite (.not_ (.val (.b false .idx (.var 4) (.lit (.int 1))))) (.cons (.ret (.u false (.isN false) (.var 5))) .nil) .nil) (.cons (.exp q12) (.cons (.ret q13) .nil))) (rSg2 n W x2 (some (tN' (pcs n es))) (some (.d (bb (decide (r.length = n)) (!decide (K = []))))) (some t)) (St a3 b3 c7 c3) = .rt (tB true) S) → ∃ S, callF tab (k + 7) 22 [.obj 0] [pot a b] = .ok (tB true) S := by
    rintro t d hd hf ⟨S, hS⟩
    have hs10 := s10 (c1 := c7) X hW k a3 b3 x2 (some (tN' (pcs n es))) (some (.d (bb (decide (r.length = n)) (!decide (K = []))))) none d hd hf
    refine ⟨S, run_one (f := ⟨10, 1, b_22⟩) rfl rfl ?_⟩
    show evB (callF tab (k + 6)) b_22 sg0 [pot a b] = _
    unfold b_22
    rw [evB, hs1, seqS_nx, evB, hs2, seqS_nx, evB]
    refine (congrArg (fun z => seqS z _) hs3).trans ?_
    rw [seqS_nx, evB, hs4, seqS_nx, evB]
    refine (congrArg (fun z => seqS z _) hs5).trans ?_
    rw [seqS_nx, evB]
    refine (congrArg (fun z => seqS z _) hs6).trans ?_
    rw [seqS_nx, evB]
    refine (congrArg (fun z => seqS z _) hs7).trans ?_
    rw [seqS_nx, evB]
    refine (congrArg (fun z => seqS z _) hs8).trans ?_
    rw [seqS_nx, evB]
    refine (congrArg (fun z => seqS z _) hs9).trans ?_
    rw [seqS_nx, evB]
    refine (congrArg (fun z => seqS z _) hs10).trans ?_
    rw [seqS_nx]
    exact hS
  cases K with
  | nil =>
    refine main tN .none rfl (f15_none X k tp hK []) ⟨St a3 b3 c7 c3, ?_⟩
    rfl
  | cons x K' =>
    obtain ⟨q, hq, hR⟩ := gr x K' rfl
    refine main (.d (natsD q)) (natsD q) rfl (f15_some X k tp hK hq []) ?_
    obtain ⟨S, hS⟩ := e13 (x := xc es) X hW ht7 k a3 b3 hR x2 (some (tN' (pcs n es))) (some (.d (bb (decide (r.length = n)) (!decide (x :: K' = [])))))
    refine ⟨S, ?_⟩
    have hi : evS (callF tab (k + 6)) (.ite (.not_ (.val (.b false .idx (.var 4) (.lit (.int 1))))) (.cons (.ret (.u false (.isN false) (.var 5))) .nil) .nil) (rSg2 n W x2 (some (tN' (pcs n es))) (some (.d (bb (decide (r.length = n)) (!decide (x :: K' = []))))) (some (.d (natsD q)))) (St a3 b3 c7 c3) = .nx (rSg2 n W x2 (some (tN' (pcs n es))) (some (.d (bb (decide (r.length = n)) (!decide (x :: K' = []))))) (some (.d (natsD q)))) (St a3 b3 c7 c3) := rfl
    rw [evB, hi, seqS_nx, evB, evS, e12 X hW, R.s_okE, seqS_nx, evB, evS, hS]
    rfl
theorem goal : Goal := by
  intro ns _
  obtain ⟨a, b, h, ha, hb⟩ := f16 10 [] ns
  obtain ⟨S, hS⟩ := f22 4 a b ha hb
  refine ⟨S, run_one (f := ⟨1, 1, b_23⟩) rfl rfl ?_⟩
  show evB (callF tab 11) b_23 [some (.d (scr ns))] [] = _
  have c : ev (callF tab 11) (.call 1 16 (.cons (.var 0) (.cons (.lit (.int 0)) .nil))) [some (.d (scr ns))] [] = .ok (.obj 0) [pot a b] := h
  have c2 : ev (callF tab 11) (.call 1 22 (.cons (.call 1 16 (.cons (.var 0) (.cons (.lit (.int 0)) .nil))) .nil)) [some (.d (scr ns))] [] = .ok (tB true) S := by
    rw [ev, evs, c, R.bnd_okE, evs]
    exact hS
  unfold b_23
  rw [evB, evS, c2]
  rfl
end L81
end

section
set_option Elab.async false
set_option linter.all false
set_option maxRecDepth 100000
set_option maxHeartbeats 0
set_option autoImplicit false
namespace L81
open PySem PySem.Spec PyProof.Rows L2 Mc
def top (i : Nat) : Stmt := PySem.Challenge.pw_partsbrought_k81_whole_webs_and_rings.main.body.getD i (.Pass ⟨0, 0, 0, 0⟩)
abbrev s_0 : Stmt := top 5
abbrev N_0 : List Str := ["value"]
abbrev P_0 : List Str := ["value"]
abbrev s_1 : Stmt := top 6
abbrev N_1 : List Str := ["value"]
abbrev P_1 : List Str := ["value"]
abbrev s_2 : Stmt := top 7
abbrev N_2 : List Str := ["value"]
abbrev P_2 : List Str := ["value"]
abbrev s_3 : Stmt := top 10
abbrev N_3 : List Str := ["copies", "value", "copy"]
abbrev P_3 : List Str := ["copies", "value"]
abbrev s_4 : Stmt := top 11
abbrev N_4 : List Str := ["value", "copies", "ties", "at", "tie"]
abbrev P_4 : List Str := ["value"]
abbrev s_5 : Stmt := top 12
abbrev N_5 : List Str := ["value"]
abbrev P_5 : List Str := ["value"]
abbrev s_6 : Stmt := top 13
abbrev N_6 : List Str := ["web", "copy", "found", "low", "high"]
abbrev P_6 : List Str := ["web", "copy"]
abbrev s_7 : Stmt := top 14
abbrev N_7 : List Str := ["web", "found", "waiting", "here", "more", "copy"]
abbrev P_7 : List Str := ["web"]
abbrev s_8 : Stmt := top 15
abbrev N_8 : List Str := ["web", "kept", "late", "copy", "one"]
abbrev P_8 : List Str := ["web"]
abbrev s_9 : Stmt := top 16
abbrev N_9 : List Str := ["web", "kept", "path", "ahead", "here", "copy"]
abbrev P_9 : List Str := ["web"]
abbrev s_10 : Stmt := top 17
abbrev N_10 : List Str := ["value"]
abbrev P_10 : List Str := ["value"]
abbrev s_11 : Stmt := top 18
abbrev N_11 : List Str := ["web"]
abbrev P_11 : List Str := ["web"]
abbrev s_12 : Stmt := top 19
abbrev N_12 : List Str := ["web", "copy", "told"]
abbrev P_12 : List Str := ["web", "copy"]
abbrev s_13 : Stmt := top 20
abbrev N_13 : List Str := ["web", "told"]
abbrev P_13 : List Str := ["web"]
abbrev s_14 : Stmt := top 21
abbrev N_14 : List Str := ["web"]
abbrev P_14 : List Str := ["web"]
abbrev s_15 : Stmt := top 22
abbrev N_15 : List Str := ["web"]
abbrev P_15 : List Str := ["web"]
abbrev s_16 : Stmt := top 24
abbrev N_16 : List Str := ["script", "k", "cell"]
abbrev P_16 : List Str := ["script", "k"]
abbrev s_17 : Stmt := top 25
abbrev N_17 : List Str := ["pot", "many", "digit"]
abbrev P_17 : List Str := ["pot", "many"]
abbrev s_18 : Stmt := top 27
abbrev N_18 : List Str := ["pot", "least", "most", "low", "many", "ties", "high"]
abbrev P_18 : List Str := ["pot", "least", "most"]
abbrev s_19 : Stmt := top 28
abbrev N_19 : List Str := ["ties", "copy", "low", "high"]
abbrev P_19 : List Str := ["ties", "copy"]
abbrev s_20 : Stmt := top 29
abbrev N_20 : List Str := ["ties", "copy", "found", "turn", "here", "other"]
abbrev P_20 : List Str := ["ties", "copy"]
abbrev s_21 : Stmt := top 30
abbrev N_21 : List Str := ["ties", "value", "place", "copy"]
abbrev P_21 : List Str := ["ties", "value"]
abbrev s_22 : Stmt := top 31
abbrev N_22 : List Str := ["pot", "web", "copy", "pieces", "due", "told", "many", "ties", "left", "given"]
abbrev P_22 : List Str := ["pot"]
abbrev s_23 : Stmt := top 32
abbrev N_23 : List Str := ["script"]
abbrev P_23 : List Str := ["script"]
abbrev K_0 : List KShape := []
abbrev K_1 : List KShape := []
abbrev K_2 : List KShape := []
abbrev K_3 : List KShape := []
abbrev K_4 : List KShape := []
abbrev K_5 : List KShape := []
abbrev K_6 : List KShape := []
abbrev K_7 : List KShape := []
abbrev K_8 : List KShape := []
abbrev K_9 : List KShape := []
abbrev K_10 : List KShape := []
abbrev K_11 : List KShape := [⟨0, ["web"], [0]⟩]
abbrev K_12 : List KShape := [⟨0, ["copy", "web"], [1, 0]⟩]
abbrev K_13 : List KShape := []
abbrev K_14 : List KShape := []
abbrev K_15 : List KShape := []
abbrev K_16 : List KShape := []
abbrev K_17 : List KShape := []
abbrev K_18 : List KShape := []
abbrev K_19 : List KShape := []
abbrev K_20 : List KShape := []
abbrev K_21 : List KShape := []
abbrev K_22 : List KShape := []
abbrev K_23 : List KShape := []
structure FF (P : Program) (w : World) (K : PySem.W.Frag) (mg : Str → Option Value) (base : Heap) (k : Nat) : Prop where
  d_is_integer : DF P w K mg base k tab 0 "is_integer" P_0 K_0
  d_is_count : DF P w K mg base k tab 1 "is_count" P_1 K_1
  d_is_list : DF P w K mg base k tab 2 "is_list" P_2 K_2
  d_is_web_tie : DF P w K mg base k tab 3 "is_web_tie" P_3 K_3
  d_is_web_value : DF P w K mg base k tab 4 "is_web_value" P_4 K_4
  d_want_web : DF P w K mg base k tab 5 "want_web" P_5 K_5
  d_web_neighbours : DF P w K mg base k tab 6 "web_neighbours" P_6 K_6
  d_web_reached : DF P w K mg base k tab 7 "web_reached" P_7 K_7
  d_web_kept : DF P w K mg base k tab 8 "web_kept" P_8 K_8
  d_web_ring : DF P w K mg base k tab 9 "web_ring" P_9 K_9
  d_is_web : DF P w K mg base k tab 10 "is_web" P_10 K_10
  d_told_web : DF P w K mg base k tab 11 "told_web" P_11 K_11
  d_neighbours : DF P w K mg base k tab 12 "neighbours" P_12 K_12
  d_is_joined : DF P w K mg base k tab 13 "is_joined" P_13 K_13
  d_has_ring : DF P w K mg base k tab 14 "has_ring" P_14 K_14
  d_ring : DF P w K mg base k tab 15 "ring" P_15 K_15
  d__law_pot : DF P w K mg base k tab 16 "_law_pot" P_16 K_16
  d__law_draw : DF P w K mg base k tab 17 "_law_draw" P_17 K_17
  d__law_web : DF P w K mg base k tab 18 "_law_web" P_18 K_18
  d__law_near : DF P w K mg base k tab 19 "_law_near" P_19 K_19
  d__law_piece : DF P w K mg base k tab 20 "_law_piece" P_20 K_20
  d__law_is_ring : DF P w K mg base k tab 21 "_law_is_ring" P_21 K_21
  d__law_right : DF P w K mg base k tab 22 "_law_right" P_22 K_22
  d_law : DF P w K mg base k tab 23 "law" P_23 K_23
  n_abs : mg "abs" = none
  n_all : mg "all" = none
  n_bool : mg "bool" = none
  n_divmod : mg "divmod" = none
  n_enumerate : mg "enumerate" = none
  n_int : mg "int" = none
  n_isinstance : mg "isinstance" = none
  n_len : mg "len" = none
  n_list : mg "list" = none
  n_max : mg "max" = none
  n_range : mg "range" = none
  n_repr : mg "repr" = none
  n_set : mg "set" = none
  n_sorted : mg "sorted" = none
  n_sum : mg "sum" = none
  n_tuple : mg "tuple" = none
  g_MOST_COPIES : ∃ t, mg "MOST_COPIES" = some (.int 6 t)
section
variable {P : Program} {w : World} {K : PySem.W.Frag} {mg : Str → Option Value} {base : Heap} {k : Nat} {f : Addr}
theorem sc_0 : FnScope N_0 P_0 (defScope s_0) := ⟨by kernel_rfl, by kernel_rfl, by kernel_rfl, by decide +kernel, rfl, by decide +kernel, by decide +kernel⟩
set_option maxHeartbeats 800000 in
theorem wk_0 (F : FF P w K mg base k) : Walk P w K mg base k tab b_0 "is_integer" s_0 N_0 f := fun cdv A outer s H E hr hG c po =>
  (b_cons (s_ret (mv_and (m_isi rfl (F.n_isinstance) rfl (vr 0) rfl rfl (F.n_int) ty_int (by decide) (by decide)) (mv_one (m_not (m_isi rfl (F.n_isinstance) rfl (vr 0) rfl rfl (F.n_bool) ty_bool (by decide) (by decide))))))
  b_nil)
theorem sc_1 : FnScope N_1 P_1 (defScope s_1) := ⟨by kernel_rfl, by kernel_rfl, by kernel_rfl, by decide +kernel, rfl, by decide +kernel, by decide +kernel⟩
set_option maxHeartbeats 800000 in
theorem wk_1 (F : FF P w K mg base k) : Walk P w K mg base k tab b_1 "is_count" s_1 N_1 f := fun cdv A outer s H E hr hG c po =>
  (b_cons (s_ret (mv_and (cd F.d_is_integer hr hG (ac (vr 0) m_nil)) (mv_one (m_cmp o_ge (vr 0) m_int rfl))))
  b_nil)
theorem sc_2 : FnScope N_2 P_2 (defScope s_2) := ⟨by kernel_rfl, by kernel_rfl, by kernel_rfl, by decide +kernel, rfl, by decide +kernel, by decide +kernel⟩
set_option maxHeartbeats 800000 in
theorem wk_2 (F : FF P w K mg base k) : Walk P w K mg base k tab b_2 "is_list" s_2 N_2 f := fun cdv A outer s H E hr hG c po =>
  (b_cons (s_ret (m_isiT rfl (F.n_isinstance) rfl (vr 0) rfl (.cons ⟨pe_ty rfl (F.n_list) ty_list (by decide) (by decide), rfl⟩ (.cons ⟨pe_ty rfl (F.n_tuple) ty_tuple (by decide) (by decide), rfl⟩ .nil)) (by decide)))
  b_nil)
theorem sc_3 : FnScope N_3 P_3 (defScope s_3) := ⟨by kernel_rfl, by kernel_rfl, by kernel_rfl, by decide +kernel, rfl, by decide +kernel, by decide +kernel⟩
set_option maxHeartbeats 800000 in
theorem wk_3 (F : FF P w K mg base k) : Walk P w K mg base k tab b_3 "is_web_tie" s_3 N_3 f := fun cdv A outer s H E hr hG c po =>
  (b_cons (s_if (PW.pt (mw_or (m_tnot (tv (m_isi rfl (F.n_isinstance) rfl (vr 1) rfl rfl (F.n_tuple) ty_tuple (by decide) (by decide)))) (mw_or (m_tcmp rfl (o_ne c.u64) (B1 c_len (F.n_len) (vr 1) bb_len) m_int rfl) (mw_or1 (m_tnot (tv (B1 (c_all c.calm) (F.n_all) (m_lc (own := [("copy", 2)]) c.calm c.nd (m_iseq (vr 1)) (blkOk_by (N := N_3) (sc := (defScope s_3)) (own := [("copy", 2)]) (by decide +kernel)) (by decide) (fun _ _ _ _ _ => (nm (Cxt.blk c) 2)) (fun _ _ _ _ _ => m_pts0) (fun _ _ _ _ _ => (cd F.d_is_count hr hG (ac (vr 2) m_nil))) (fun _ => rfl)) bb_all))))))) (b_cons (s_ret m_bl)
  b_nil) b_nil)
  (b_cons (s_ret (m_chain rfl (o_lt c.u64) (o_lt c.u64) (m_idx o_idx (vr 1) m_int (fun _ _ => rfl)) (m_idx o_idx (vr 1) m_int (fun _ _ => rfl)) (vr 0) rfl))
  b_nil))
theorem sc_4 : FnScope N_4 P_4 (defScope s_4) := ⟨by kernel_rfl, by kernel_rfl, by kernel_rfl, by decide +kernel, rfl, by decide +kernel, by decide +kernel⟩
set_option maxHeartbeats 800000 in
theorem wk_4 (F : FF P w K mg base k) : Walk P w K mg base k tab b_4 "is_web_value" s_4 N_4 f := fun cdv A outer s H E hr hG c po =>
  (b_cons (s_if (PW.pt (mw_or (m_tnot (tv (m_isi rfl (F.n_isinstance) rfl (vr 0) rfl rfl (F.n_tuple) ty_tuple (by decide) (by decide)))) (mw_or1 (m_tcmp rfl (o_ne c.u64) (B1 c_len (F.n_len) (vr 0) bb_len) m_int rfl)))) (b_cons (s_ret m_bl)
  b_nil) b_nil)
  (b_cons (s_asg (vr 0) (m_gtup c.calm (m_gcons rfl (nm c 1) (m_gcons rfl (nm c 2) m_gnil)) rfl rfl) rfl rfl rfl)
  (b_cons (s_if (PW.pt (mw_or (m_tnot (tv (cd F.d_is_count hr hG (ac (vr 1) m_nil)))) (mw_or (m_tnot (m_tchain rfl rfl o_le o_le m_int (vr 1) (gi F.g_MOST_COPIES) rfl)) (mw_or1 (m_tnot (tv (cd F.d_is_list hr hG (ac (vr 2) m_nil)))))))) (b_cons (s_ret m_bl)
  b_nil) b_nil)
  (b_cons (s_if (m_tnot (tv (B1 (c_all c.calm) (F.n_all) (m_lc (own := [("tie", 4)]) c.calm c.nd (m_iseq (vr 2)) (blkOk_by (N := N_4) (sc := (defScope s_4)) (own := [("tie", 4)]) (by decide +kernel)) (by decide) (fun _ _ _ _ _ => (nm (Cxt.blk c) 4)) (fun _ _ _ _ _ => m_pts0) (fun _ _ _ _ _ => (cd F.d_is_web_tie hr hG (ac (vr 1) (ac (vr 4) m_nil)))) (fun _ => rfl)) bb_all))) (b_cons (s_ret m_bl)
  b_nil) b_nil)
  (b_cons (s_ret (B1 (c_all c.calm) (F.n_all) (m_lc (own := [("at", 3)]) c.calm c.nd (m_rng1 rfl (F.n_range) (B1 c_len (F.n_len) (vr 2) bb_len) rfl) (blkOk_by (N := N_4) (sc := (defScope s_4)) (own := [("at", 3)]) (by decide +kernel)) (by decide) (fun _ _ _ _ _ => (nm (Cxt.blk c) 3)) (fun _ _ _ _ _ => m_pts0) (fun _ _ _ _ _ => (m_cmp (o_nin (Cxt.blk c).u64) (m_idx o_idx (vr 2) (vr 3) (fun _ _ => rfl)) (m_slice (vr 2) m_ono (m_osome (vr 3))) rfl)) (fun _ => rfl)) bb_all))
  b_nil)))))
theorem sc_5 : FnScope N_5 P_5 (defScope s_5) := ⟨by kernel_rfl, by kernel_rfl, by kernel_rfl, by decide +kernel, rfl, by decide +kernel, by decide +kernel⟩
set_option maxHeartbeats 800000 in
theorem wk_5 (F : FF P w K mg base k) : Walk P w K mg base k tab b_5 "want_web" s_5 N_5 f := fun cdv A outer s H E hr hG c po =>
  (b_cons (s_if (m_tnot (tv (cd F.d_is_web_value hr hG (ac (vr 0) m_nil)))) (b_cons s_stuck
  b_nil) b_nil)
  (b_cons (s_ret (m_tup (ac (m_idx o_idx (vr 0) m_int (fun _ _ => rfl)) (ac (B1 (c_sorted c.u64) (F.n_sorted) (m_idx o_idx (vr 0) m_int (fun _ _ => rfl)) bb_sorted) m_nil)) (by decide)))
  b_nil))
theorem sc_6 : FnScope N_6 P_6 (defScope s_6) := ⟨by kernel_rfl, by kernel_rfl, by kernel_rfl, by decide +kernel, rfl, by decide +kernel, by decide +kernel⟩
set_option maxHeartbeats 800000 in
theorem wk_6 (F : FF P w K mg base k) : Walk P w K mg base k tab b_6 "web_neighbours" s_6 N_6 f := fun cdv A outer s H E hr hG c po =>
  (b_cons (s_set c.nd rfl (Or.inl rfl) (m_bin o_add (m_lc (own := [("low", 3), ("high", 4)]) c.calm c.nd (m_iseq (m_idx o_idx (vr 0) m_int (fun _ _ => rfl))) (blkOk_by (N := N_6) (sc := (defScope s_6)) (own := [("low", 3), ("high", 4)]) (by decide +kernel)) (by decide) (fun _ _ _ _ _ => (m_gtup (Cxt.blk c).calm (m_gcons rfl (nm (Cxt.blk c) 3) (m_gcons rfl (nm (Cxt.blk c) 4) m_gnil)) rfl rfl)) (fun _ _ _ _ _ => (pts_one (m_tcmp rfl (o_eq (Cxt.blk c).u64) (vr 4) (vr 1) rfl))) (fun _ _ _ _ _ => (vr 3)) (fun _ => rfl)) (m_lc (own := [("low", 3), ("high", 4)]) c.calm c.nd (m_iseq (m_idx o_idx (vr 0) m_int (fun _ _ => rfl))) (blkOk_by (N := N_6) (sc := (defScope s_6)) (own := [("low", 3), ("high", 4)]) (by decide +kernel)) (by decide) (fun _ _ _ _ _ => (m_gtup (Cxt.blk c).calm (m_gcons rfl (nm (Cxt.blk c) 3) (m_gcons rfl (nm (Cxt.blk c) 4) m_gnil)) rfl rfl)) (fun _ _ _ _ _ => (pts_one (m_tcmp rfl (o_eq (Cxt.blk c).u64) (vr 3) (vr 1) rfl))) (fun _ _ _ _ _ => (vr 4)) (fun _ => rfl))) rfl (Or.inl rfl))
  (b_cons (s_ret (B1 (c_sorted c.u64) (F.n_sorted) (vr 2) bb_sorted))
  b_nil))
theorem sc_7 : FnScope N_7 P_7 (defScope s_7) := ⟨by kernel_rfl, by kernel_rfl, by kernel_rfl, by decide +kernel, rfl, by decide +kernel, by decide +kernel⟩
set_option maxHeartbeats 800000 in
theorem wk_7 (F : FF P w K mg base k) : Walk P w K mg base k tab b_7 "web_reached" s_7 N_7 f := fun cdv A outer s H E hr hG c po =>
  (b_cons (s_asg (m_tup (ac (m_lst (ac m_int m_nil) (by decide)) (ac (m_lst (ac m_int m_nil) (by decide)) m_nil)) (by decide)) (m_gtup c.calm (m_gcons rfl (nm c 1) (m_gcons rfl (nm c 2) m_gnil)) rfl rfl) rfl rfl rfl)
  (b_cons (s_while po (m_tcmp rfl (o_ne c.u64) (vr 2) (m_lst m_nil (by decide)) rfl) (b_cons (s_set c.nd rfl (Or.inl rfl) (m_pop (vr 2)) rfl (Or.inl rfl))
  (b_cons (s_setLc (own := [("copy", 5)]) c.calm c.nd rfl rfl (sw_true rfl rfl rfl (by decide +kernel)) (m_iseq (cd F.d_web_neighbours hr hG (ac (vr 0) (ac (vr 3) m_nil)))) (blkOk_by (N := N_7) (sc := (defScope s_7)) (own := [("copy", 5)]) (by decide +kernel)) (by decide) (fun _ _ _ _ _ => (nm (Cxt.blk c) 5)) (fun _ _ _ _ _ => (pts_one (m_tcmp rfl (o_nin (Cxt.blk c).u64) (vr 5) (vr 1) rfl))) (fun _ _ _ _ _ => (vr 5)) (fun _ => rfl))
  (b_cons (s_exp (m_ext (vr 1) (vr 4)) rfl)
  (b_cons (s_exp (m_ext (vr 2) (vr 4)) rfl)
  b_nil)))))
  (b_cons (s_ret (vr 1))
  b_nil)))
theorem sc_8 : FnScope N_8 P_8 (defScope s_8) := ⟨by kernel_rfl, by kernel_rfl, by kernel_rfl, by decide +kernel, rfl, by decide +kernel, by decide +kernel⟩
set_option maxHeartbeats 800000 in
theorem wk_8 (F : FF P w K mg base k) : Walk P w K mg base k tab b_8 "web_kept" s_8 N_8 f := fun cdv A outer s H E hr hG c po =>
  (b_cons (s_asg (m_tup (ac (m_listRg1 c.calm rfl (F.n_list) rfl (F.n_range) (m_idx o_idx (vr 0) m_int (fun _ _ => rfl)) rfl) (ac (m_lst m_nil (by decide)) m_nil)) (by decide)) (m_gtup c.calm (m_gcons rfl (nm c 1) (m_gcons rfl (nm c 2) m_gnil)) rfl rfl) rfl rfl rfl)
  (b_cons (s_while po (m_tcmp rfl (o_ne c.u64) (vr 1) (vr 2) rfl) (b_cons (s_set c.nd rfl (Or.inr rfl) (vr 1) rfl (Or.inl rfl))
  (b_cons (s_setLc (own := [("copy", 3)]) c.calm c.nd rfl rfl (sw_true rfl rfl rfl (by decide +kernel)) (m_iseq (vr 2)) (blkOk_by (N := N_8) (sc := (defScope s_8)) (own := [("copy", 3)]) (by decide +kernel)) (by decide) (fun _ _ _ _ _ => (nm (Cxt.blk c) 3)) (fun _ _ _ _ _ => (pts_one (m_tcmp rfl (o_gt (Cxt.blk c).u64) (B1 c_len (F.n_len) (m_lc (own := [("one", 4)]) (Cxt.blk c).calm (Cxt.blk c).nd (m_iseq (cd F.d_web_neighbours hr hG (ac (vr 0) (ac (vr 3) m_nil)))) (blkOk_by (N := N_8) (sc := (relS _ (defScope s_8))) (own := [("one", 4)]) (by decide +kernel)) (by decide) (fun _ _ _ _ _ => (nm (Cxt.blk (Cxt.blk c)) 4)) (fun _ _ _ _ _ => (pts_one (m_tcmp rfl (o_in (Cxt.blk (Cxt.blk c)).u64) (vr 4) (vr 2) rfl))) (fun _ _ _ _ _ => (vr 4)) (fun _ => rfl)) bb_len) m_int rfl))) (fun _ _ _ _ _ => (vr 3)) (fun _ => rfl))
  b_nil)))
  (b_cons (s_ret (vr 1))
  b_nil)))
theorem sc_9 : FnScope N_9 P_9 (defScope s_9) := ⟨by kernel_rfl, by kernel_rfl, by kernel_rfl, by decide +kernel, rfl, by decide +kernel, by decide +kernel⟩
set_option maxHeartbeats 800000 in
theorem wk_9 (F : FF P w K mg base k) : Walk P w K mg base k tab b_9 "web_ring" s_9 N_9 f := fun cdv A outer s H E hr hG c po =>
  (b_cons (s_set c.nd rfl (Or.inr rfl) (cd F.d_web_kept hr hG (ac (vr 0) m_nil)) rfl (Or.inl rfl))
  (b_cons (s_if (m_tcmp rfl (o_eq c.u64) (vr 1) (m_lst m_nil (by decide)) rfl) (b_cons (s_ret m_non)
  b_nil) b_nil)
  (b_cons (s_set c.nd rfl (Or.inl rfl) (m_lst (ac (m_idx o_idx (vr 1) m_int (fun _ _ => rfl)) m_nil) (by decide)) rfl (Or.inl rfl))
  (b_cons (s_while po (tv m_bl) (b_cons (s_set c.nd rfl (Or.inr rfl) (m_slice (vr 2) (m_osome (m_un o_neg m_int)) (m_osome (m_un o_neg m_int))) rfl (Or.inl rfl))
  (b_cons (s_set c.nd rfl (Or.inl rfl) (m_idx o_idx (m_lc (own := [("copy", 5)]) c.calm c.nd (m_iseq (cd F.d_web_neighbours hr hG (ac (vr 0) (ac (m_idx o_idx (vr 2) (m_un o_neg m_int) (fun _ _ => rfl)) m_nil)))) (blkOk_by (N := N_9) (sc := (defScope s_9)) (own := [("copy", 5)]) (by decide +kernel)) (by decide) (fun _ _ _ _ _ => (nm (Cxt.blk c) 5)) (fun _ _ _ _ _ => (pts_one (PW.pt (mw_and (m_tcmp rfl (o_in (Cxt.blk c).u64) (vr 5) (vr 1) rfl) (mw_and1 (m_tcmp rfl (o_nin (Cxt.blk c).u64) (vr 5) (vr 3) rfl)))))) (fun _ _ _ _ _ => (vr 5)) (fun _ => rfl)) m_int (fun _ _ => rfl)) rfl (Or.inl rfl))
  (b_cons (s_if (m_tcmp rfl (o_in c.u64) (vr 4) (vr 2) rfl) (b_cons (s_ret (m_slice (vr 2) (m_osome (m_index c (vr 2) (vr 4))) m_ono))
  b_nil) b_nil)
  (b_cons (s_exp (m_app (vr 2) (vr 4)) rfl)
  b_nil)))))
  b_nil))))
theorem sc_10 : FnScope N_10 P_10 (defScope s_10) := ⟨by kernel_rfl, by kernel_rfl, by kernel_rfl, by decide +kernel, rfl, by decide +kernel, by decide +kernel⟩
set_option maxHeartbeats 800000 in
theorem wk_10 (F : FF P w K mg base k) : Walk P w K mg base k tab b_10 "is_web" s_10 N_10 f := fun cdv A outer s H E hr hG c po =>
  (b_cons (s_ret (cd F.d_is_web_value hr hG (ac (vr 0) m_nil)))
  b_nil)
theorem sc_11 : FnScope N_11 P_11 (defScope s_11) := ⟨by kernel_rfl, by kernel_rfl, by kernel_rfl, by decide +kernel, rfl, by decide +kernel, by decide +kernel⟩
set_option maxHeartbeats 800000 in
theorem wk_11 (F : FF P w K mg base k) : Walk P w K mg base k tab b_11 "told_web" s_11 N_11 f := fun cdv A outer s H E hr hG c po =>
  (b_cons (s_ret (cd F.d_want_web hr hG (ac (vr 0) m_nil)))
  b_nil)
theorem sc_12 : FnScope N_12 P_12 (defScope s_12) := ⟨by kernel_rfl, by kernel_rfl, by kernel_rfl, by decide +kernel, rfl, by decide +kernel, by decide +kernel⟩
set_option maxHeartbeats 800000 in
theorem wk_12 (F : FF P w K mg base k) : Walk P w K mg base k tab b_12 "neighbours" s_12 N_12 f := fun cdv A outer s H E hr hG c po =>
  (b_cons (s_set c.nd rfl (Or.inl rfl) (cd F.d_want_web hr hG (ac (vr 0) m_nil)) rfl (Or.inl rfl))
  (b_cons (s_if (PW.pt (mw_or (m_tnot (tv (cd F.d_is_count hr hG (ac (vr 1) m_nil)))) (mw_or1 (m_tcmp rfl o_ge (vr 1) (m_idx o_idx (vr 2) m_int (fun _ _ => rfl)) rfl)))) (b_cons s_stuck
  b_nil) b_nil)
  (b_cons (s_ret (cd F.d_web_neighbours hr hG (ac (vr 2) (ac (vr 1) m_nil))))
  b_nil)))
theorem sc_13 : FnScope N_13 P_13 (defScope s_13) := ⟨by kernel_rfl, by kernel_rfl, by kernel_rfl, by decide +kernel, rfl, by decide +kernel, by decide +kernel⟩
set_option maxHeartbeats 800000 in
theorem wk_13 (F : FF P w K mg base k) : Walk P w K mg base k tab b_13 "is_joined" s_13 N_13 f := fun cdv A outer s H E hr hG c po =>
  (b_cons (s_set c.nd rfl (Or.inl rfl) (cd F.d_want_web hr hG (ac (vr 0) m_nil)) rfl (Or.inl rfl))
  (b_cons (s_ret (m_cmp (o_eq c.u64) (B1 c_len (F.n_len) (cd F.d_web_reached hr hG (ac (vr 1) m_nil)) bb_len) (m_idx o_idx (vr 1) m_int (fun _ _ => rfl)) rfl))
  b_nil))
theorem sc_14 : FnScope N_14 P_14 (defScope s_14) := ⟨by kernel_rfl, by kernel_rfl, by kernel_rfl, by decide +kernel, rfl, by decide +kernel, by decide +kernel⟩
set_option maxHeartbeats 800000 in
theorem wk_14 (F : FF P w K mg base k) : Walk P w K mg base k tab b_14 "has_ring" s_14 N_14 f := fun cdv A outer s H E hr hG c po =>
  (b_cons (s_ret (m_cmp (o_ne c.u64) (cd F.d_web_kept hr hG (ac (cd F.d_want_web hr hG (ac (vr 0) m_nil)) m_nil)) (m_lst m_nil (by decide)) rfl))
  b_nil)
theorem sc_15 : FnScope N_15 P_15 (defScope s_15) := ⟨by kernel_rfl, by kernel_rfl, by kernel_rfl, by decide +kernel, rfl, by decide +kernel, by decide +kernel⟩
set_option maxHeartbeats 800000 in
theorem wk_15 (F : FF P w K mg base k) : Walk P w K mg base k tab b_15 "ring" s_15 N_15 f := fun cdv A outer s H E hr hG c po =>
  (b_cons (s_ret (cd F.d_web_ring hr hG (ac (cd F.d_want_web hr hG (ac (vr 0) m_nil)) m_nil)))
  b_nil)
theorem sc_16 : FnScope N_16 P_16 (defScope s_16) := ⟨by kernel_rfl, by kernel_rfl, by kernel_rfl, by decide +kernel, rfl, by decide +kernel, by decide +kernel⟩
set_option maxHeartbeats 800000 in
theorem wk_16 (F : FF P w K mg base k) : Walk P w K mg base k tab b_16 "_law_pot" s_16 N_16 f := fun cdv A outer s H E hr hG c po =>
  (b_cons (s_set c.nd rfl (Or.inl rfl) (m_bin o_add (m_bin o_add (m_bin o_mul m_int (vr 1)) m_int) (m_bin o_mod (B1 (c_sum c.calm) (F.n_sum) (m_slice (vr 0) m_ono (m_osome m_int)) bb_sum) m_int)) rfl (Or.inl rfl))
  (b_cons (s_if (m_tcmp rfl (o_lt c.u64) (vr 1) (B1 c_len (F.n_len) (vr 0) bb_len) rfl) (b_cons (s_set c.nd rfl (Or.inl rfl) (B1 c_abs (F.n_abs) (m_idx o_idx (vr 0) (vr 1) (fun _ _ => rfl)) bb_abs) rfl (Or.inl rfl))
  b_nil) b_nil)
  (b_cons (s_ret (m_lst (ac (B2' (c_max2 c.calm) (F.n_max) m_int (m_bin o_sub (vr 2) (m_bin o_pow m_int m_int)) bb_max) (ac (m_bin o_add (m_bin o_mod (m_bin o_mul (m_bin o_add (m_bin o_mod (vr 2) m_int) m_int) (m_bin o_pow (m_bin o_add (m_bin o_mul m_int (vr 1)) m_int) m_int)) m_int) m_int) m_nil)) (by decide)))
  b_nil)))
theorem sc_17 : FnScope N_17 P_17 (defScope s_17) := ⟨by kernel_rfl, by kernel_rfl, by kernel_rfl, by decide +kernel, rfl, by decide +kernel, by decide +kernel⟩
set_option maxHeartbeats 800000 in
theorem wk_17 (F : FF P w K mg base k) : Walk P w K mg base k tab b_17 "_law_draw" s_17 N_17 f := fun cdv A outer s H E hr hG c po =>
  (b_cons (s_if (m_tcmp rfl (o_gt c.u64) (m_idx o_idx (vr 0) m_int (fun _ _ => rfl)) m_int rfl) (b_cons (s_asg (B2' c_divmod (F.n_divmod) (m_idx o_idx (vr 0) m_int (fun _ _ => rfl)) (vr 1) bb_divmod) (m_gtup c.calm (m_gcons rfl (m_gsub rfl (vr 0) m_int) (m_gcons rfl (nm c 2) m_gnil)) rfl rfl) rfl rfl rfl)
  (b_cons (s_ret (vr 2))
  b_nil)) b_nil)
  (b_cons (s_asg (m_bin o_mod (m_bin o_add (m_bin o_mul (m_idx o_idx (vr 0) m_int (fun _ _ => rfl)) m_int) m_int) m_int) (m_gsub rfl (vr 0) m_int) rfl rfl rfl)
  (b_cons (s_ret (m_bin o_mod (m_bin o_fdiv (m_bin o_mod (m_bin o_mul (m_idx o_idx (vr 0) m_int (fun _ _ => rfl)) (m_idx o_idx (vr 0) m_int (fun _ _ => rfl))) m_int) m_int) (vr 1)))
  b_nil)))
theorem sc_18 : FnScope N_18 P_18 (defScope s_18) := ⟨by kernel_rfl, by kernel_rfl, by kernel_rfl, by decide +kernel, rfl, by decide +kernel, by decide +kernel⟩
set_option maxHeartbeats 800000 in
theorem wk_18 (F : FF P w K mg base k) : Walk P w K mg base k tab b_18 "_law_web" s_18 N_18 f := fun cdv A outer s H E hr hG c po =>
  (b_cons (s_par c.calm c.nd rfl rfl (by decide) rfl rfl (m_bin o_add (vr 1) (cd F.d__law_draw hr hG (ac (vr 0) (ac (m_bin o_add (m_bin o_sub (vr 2) (vr 1)) m_int) m_nil)))) (m_lst m_nil (by decide)) rfl rfl rfl rfl)
  (b_cons (s_for po c.calm (m_rng1 rfl (F.n_range) (vr 4) rfl) (nm c 3) (b_cons (s_for po c.calm (m_rng2 rfl (F.n_range) (m_bin o_add (vr 3) m_int) (vr 4) rfl rfl) (nm c 6) (b_cons (s_if (m_tcmp rfl (o_eq c.u64) (cd F.d__law_draw hr hG (ac (vr 0) (ac m_int m_nil))) m_int rfl) (b_cons (s_exp (m_app (vr 5) (m_tup (ac (vr 3) (ac (vr 6) m_nil)) (by decide))) rfl)
  b_nil) b_nil)
  b_nil) (fun _ => rfl))
  b_nil) (fun _ => rfl))
  (b_cons (s_ret (m_tup (ac (vr 4) (ac (vr 5) m_nil)) (by decide)))
  b_nil)))
theorem sc_19 : FnScope N_19 P_19 (defScope s_19) := ⟨by kernel_rfl, by kernel_rfl, by kernel_rfl, by decide +kernel, rfl, by decide +kernel, by decide +kernel⟩
set_option maxHeartbeats 800000 in
theorem wk_19 (F : FF P w K mg base k) : Walk P w K mg base k tab b_19 "_law_near" s_19 N_19 f := fun cdv A outer s H E hr hG c po =>
  (b_cons (s_ret (B1 (c_sorted c.u64) (F.n_sorted) (m_bin o_add (m_lc (own := [("low", 2), ("high", 3)]) c.calm c.nd (m_iseq (vr 0)) (blkOk_by (N := N_19) (sc := (defScope s_19)) (own := [("low", 2), ("high", 3)]) (by decide +kernel)) (by decide) (fun _ _ _ _ _ => (m_gtup (Cxt.blk c).calm (m_gcons rfl (nm (Cxt.blk c) 2) (m_gcons rfl (nm (Cxt.blk c) 3) m_gnil)) rfl rfl)) (fun _ _ _ _ _ => (pts_one (m_tcmp rfl (o_eq (Cxt.blk c).u64) (vr 2) (vr 1) rfl))) (fun _ _ _ _ _ => (vr 3)) (fun _ => rfl)) (m_lc (own := [("low", 2), ("high", 3)]) c.calm c.nd (m_iseq (vr 0)) (blkOk_by (N := N_19) (sc := (defScope s_19)) (own := [("low", 2), ("high", 3)]) (by decide +kernel)) (by decide) (fun _ _ _ _ _ => (m_gtup (Cxt.blk c).calm (m_gcons rfl (nm (Cxt.blk c) 2) (m_gcons rfl (nm (Cxt.blk c) 3) m_gnil)) rfl rfl)) (fun _ _ _ _ _ => (pts_one (m_tcmp rfl (o_eq (Cxt.blk c).u64) (vr 3) (vr 1) rfl))) (fun _ _ _ _ _ => (vr 2)) (fun _ => rfl))) bb_sorted))
  b_nil)
theorem sc_20 : FnScope N_20 P_20 (defScope s_20) := ⟨by kernel_rfl, by kernel_rfl, by kernel_rfl, by decide +kernel, rfl, by decide +kernel, by decide +kernel⟩
set_option maxHeartbeats 800000 in
theorem wk_20 (F : FF P w K mg base k) : Walk P w K mg base k tab b_20 "_law_piece" s_20 N_20 f := fun cdv A outer s H E hr hG c po =>
  (b_cons (s_set c.nd rfl (Or.inr rfl) (m_lst (ac (vr 1) m_nil) (by decide)) rfl (Or.inl rfl))
  (b_cons (s_for po c.calm (m_rng1 rfl (F.n_range) m_int rfl) (nm c 3) (b_cons (s_for po c.calm (m_iseq (T1 c_list (F.n_list) (vr 2) bb_list)) (nm c 4) (b_cons (s_set c.nd rfl (Or.inr rfl) (m_bin o_add (vr 2) (m_lc (own := [("other", 5)]) c.calm c.nd (m_iseq (cd F.d__law_near hr hG (ac (vr 0) (ac (vr 4) m_nil)))) (blkOk_by (N := N_20) (sc := (defScope s_20)) (own := [("other", 5)]) (by decide +kernel)) (by decide) (fun _ _ _ _ _ => (nm (Cxt.blk c) 5)) (fun _ _ _ _ _ => (pts_one (m_tcmp rfl (o_nin (Cxt.blk c).u64) (vr 5) (vr 2) rfl))) (fun _ _ _ _ _ => (vr 5)) (fun _ => rfl))) rfl (Or.inl rfl))
  b_nil) (fun _ => rfl))
  b_nil) (fun _ => rfl))
  (b_cons (s_ret (B1 (c_sorted c.u64) (F.n_sorted) (vr 2) bb_sorted))
  b_nil)))
theorem sc_21 : FnScope N_21 P_21 (defScope s_21) := ⟨by kernel_rfl, by kernel_rfl, by kernel_rfl, by decide +kernel, rfl, by decide +kernel, by decide +kernel⟩
set_option maxHeartbeats 800000 in
theorem wk_21 (F : FF P w K mg base k) : Walk P w K mg base k tab b_21 "_law_is_ring" s_21 N_21 f := fun cdv A outer s H E hr hG c po =>
  (b_cons (s_if (PW.pt (mw_or (m_tnot (tv (m_isi rfl (F.n_isinstance) rfl (vr 1) rfl rfl (F.n_list) ty_list (by decide) (by decide)))) (mw_or (m_tcmp rfl (o_lt c.u64) (B1 c_len (F.n_len) (vr 1) bb_len) m_int rfl) (mw_or1 (m_tcmp rfl (o_ne c.u64) (m_lenset rfl (F.n_len) rfl (F.n_set) (vr 1) c.calm rfl) (B1 c_len (F.n_len) (vr 1) bb_len) rfl))))) (b_cons (s_ret m_bl)
  b_nil) b_nil)
  (b_cons (s_for po c.calm (m_enum rfl (F.n_enumerate) (vr 1) rfl) (m_gtup c.calm (m_gcons rfl (nm c 2) (m_gcons rfl (nm c 3) m_gnil)) rfl rfl) (b_cons (s_if (m_tcmp rfl (o_nin c.u64) (m_idx o_idx (vr 1) (m_bin o_sub (vr 2) m_int) (fun _ _ => rfl)) (cd F.d__law_near hr hG (ac (vr 0) (ac (vr 3) m_nil))) rfl) (b_cons (s_ret m_bl)
  b_nil) b_nil)
  b_nil) (fun _ => rfl))
  (b_cons (s_ret m_bl)
  b_nil)))
theorem sc_22 : FnScope N_22 P_22 (defScope s_22) := ⟨by kernel_rfl, by kernel_rfl, by kernel_rfl, by decide +kernel, rfl, by decide +kernel, by decide +kernel⟩
set_option maxHeartbeats 800000 in
theorem wk_22 (F : FF P w K mg base k) : Walk P w K mg base k tab b_22 "_law_right" s_22 N_22 f := fun cdv A outer s H E hr hG c po =>
  (b_cons (s_asg (cd F.d__law_web hr hG (ac (vr 0) (ac m_int (ac m_int m_nil)))) (m_gtup c.calm (m_gcons rfl (nm c 6) (m_gcons rfl (nm c 7) m_gnil)) rfl rfl) rfl rfl rfl)
  (b_cons (s_par c.calm c.nd rfl rfl (by decide) rfl rfl (T1 c_list (F.n_list) (vr 7) bb_list) (m_lst m_nil (by decide)) rfl rfl rfl rfl)
  (b_cons (s_while po (m_tcmp rfl (o_ne c.u64) (vr 8) (m_lst m_nil (by decide)) rfl) (b_cons (s_exp (m_app (vr 9) (m_popAt (vr 8) (cd F.d__law_draw hr hG (ac (vr 0) (ac (B1 c_len (F.n_len) (vr 8) bb_len) m_nil))))) rfl)
  b_nil))
  (b_cons (s_set c.nd rfl (Or.inl rfl) (m_tup (ac (vr 6) (ac (m_ite (m_tcmp rfl (o_eq c.u64) (cd F.d__law_draw hr hG (ac (vr 0) (ac m_int m_nil))) m_int rfl) (vr 9) (T1 c_tuple (F.n_tuple) (vr 9) bb_tuple)) m_nil)) (by decide)) rfl (Or.inl rfl))
  (b_cons (s_if (PW.pt (mw_or (m_tcmp rfl o_isn (cd F.d_is_web hr hG (ac (vr 1) m_nil)) m_bl rfl) (mw_or (m_tcmp rfl (o_ne c.u64) (cd F.d_told_web hr hG (ac (vr 1) m_nil)) (m_tup (ac (vr 6) (ac (vr 7) m_nil)) (by decide)) rfl) (mw_or1 (m_tnot (tv (m_isi rfl (F.n_isinstance) rfl (m_idx o_idx (cd F.d_told_web hr hG (ac (vr 1) m_nil)) m_int (fun _ _ => rfl)) rfl rfl (F.n_list) ty_list (by decide) (by decide)))))))) (b_cons (s_ret m_bl)
  b_nil) b_nil)
  (b_cons (s_for po c.calm (m_rng1 rfl (F.n_range) (vr 6) rfl) (nm c 2) (b_cons (s_if (PW.pt (mw_or (m_tcmp rfl (o_ne c.u64) (cd F.d_neighbours hr hG (ac (vr 1) (ac (vr 2) m_nil))) (cd F.d__law_near hr hG (ac (vr 7) (ac (vr 2) m_nil))) rfl) (mw_or1 (m_tcmp rfl (o_ne c.u64) (ck0 F.d_neighbours hr hG 0 rfl (mk_cons (vr 2) (mk_cons (vr 1) mk_nil))) (cd F.d__law_near hr hG (ac (vr 7) (ac (vr 2) m_nil))) rfl)))) (b_cons (s_ret m_bl)
  b_nil) b_nil)
  b_nil) (fun _ => rfl))
  (b_cons (s_set c.nd rfl (Or.inl rfl) (m_lenset rfl (F.n_len) rfl (F.n_set) (m_lc (own := [("copy", 2)]) c.calm c.nd (m_rng1 rfl (F.n_range) (vr 6) rfl) (blkOk_by (N := N_22) (sc := (defScope s_22)) (own := [("copy", 2)]) (by decide +kernel)) (by decide) (fun _ _ _ _ _ => (nm (Cxt.blk c) 2)) (fun _ _ _ _ _ => m_pts0) (fun _ _ _ _ _ => (m_idx o_idx (cd F.d__law_piece hr hG (ac (vr 7) (ac (vr 2) m_nil))) m_int (fun _ _ => rfl))) (fun _ => rfl)) c.calm rfl) rfl (Or.inl rfl))
  (b_cons (s_set c.nd rfl (Or.inl rfl) (m_lst (ac (m_cmp (o_eq c.u64) (vr 3) m_int rfl) (ac (m_cmp (o_gt c.u64) (B1 c_len (F.n_len) (vr 7) bb_len) (m_bin o_sub (vr 6) (vr 3)) rfl) m_nil)) (by decide)) rfl (Or.inl rfl))
  (b_cons (s_if (m_tcmp rfl (o_ne c.u64) (B1 (c_repr c.hG c.u64) (F.n_repr) (m_lst (ac (cd F.d_is_joined hr hG (ac (vr 1) m_nil)) (ac (cd F.d_has_ring hr hG (ac (vr 1) m_nil)) m_nil)) (by decide)) bb_repr) (B1 (c_repr c.hG c.u64) (F.n_repr) (vr 4) bb_repr) rfl) (b_cons (s_ret m_bl)
  b_nil) b_nil)
  (b_cons (s_set c.nd rfl (Or.inl rfl) (cd F.d_ring hr hG (ac (vr 1) m_nil)) rfl (Or.inl rfl))
  (b_cons (s_if (m_tnot (tv (m_idx o_idx (vr 4) m_int (fun _ _ => rfl)))) (b_cons (s_ret (m_isN (vr 5)))
  b_nil) b_nil)
  (b_cons (s_exp (m_app (m_idx o_idx (cd F.d_told_web hr hG (ac (vr 1) m_nil)) m_int (fun _ _ => rfl)) m_non) rfl)
  (b_cons (s_ret (mv_and (cd F.d__law_is_ring hr hG (ac (vr 7) (ac (vr 5) m_nil))) (mv_one (m_cmp (o_eq c.u64) (ck0 F.d_told_web hr hG 0 rfl (mk_cons (vr 1) mk_nil)) (m_tup (ac (vr 6) (ac (vr 7) m_nil)) (by decide)) rfl))))
  b_nil)))))))))))))
theorem sc_23 : FnScope N_23 P_23 (defScope s_23) := ⟨by kernel_rfl, by kernel_rfl, by kernel_rfl, by decide +kernel, rfl, by decide +kernel, by decide +kernel⟩
set_option maxHeartbeats 800000 in
theorem wk_23 (F : FF P w K mg base k) : Walk P w K mg base k tab b_23 "law" s_23 N_23 f := fun cdv A outer s H E hr hG c po =>
  (b_cons (s_ret (cd F.d__law_right hr hG (ac (cd F.d__law_pot hr hG (ac (vr 0) (ac m_int m_nil))) m_nil)))
  b_nil)
end
structure F0 (K : PySem.W.Frag) (mg : Str → Option Value) : Prop where
  d_is_integer : ∃ (a : Addr) (fd : FuncData), FunD K "is_integer" "is_integer" (defArgs s_0) (defBody s_0) (defScope s_0) [] [] a fd ∧ mg "is_integer" = some (.ref a)
  d_is_count : ∃ (a : Addr) (fd : FuncData), FunD K "is_count" "is_count" (defArgs s_1) (defBody s_1) (defScope s_1) [] [] a fd ∧ mg "is_count" = some (.ref a)
  d_is_list : ∃ (a : Addr) (fd : FuncData), FunD K "is_list" "is_list" (defArgs s_2) (defBody s_2) (defScope s_2) [] [] a fd ∧ mg "is_list" = some (.ref a)
  d_is_web_tie : ∃ (a : Addr) (fd : FuncData), FunD K "is_web_tie" "is_web_tie" (defArgs s_3) (defBody s_3) (defScope s_3) [] [] a fd ∧ mg "is_web_tie" = some (.ref a)
  d_is_web_value : ∃ (a : Addr) (fd : FuncData), FunD K "is_web_value" "is_web_value" (defArgs s_4) (defBody s_4) (defScope s_4) [] [] a fd ∧ mg "is_web_value" = some (.ref a)
  d_want_web : ∃ (a : Addr) (fd : FuncData), FunD K "want_web" "want_web" (defArgs s_5) (defBody s_5) (defScope s_5) [] [] a fd ∧ mg "want_web" = some (.ref a)
  d_web_neighbours : ∃ (a : Addr) (fd : FuncData), FunD K "web_neighbours" "web_neighbours" (defArgs s_6) (defBody s_6) (defScope s_6) [] [] a fd ∧ mg "web_neighbours" = some (.ref a)
  d_web_reached : ∃ (a : Addr) (fd : FuncData), FunD K "web_reached" "web_reached" (defArgs s_7) (defBody s_7) (defScope s_7) [] [] a fd ∧ mg "web_reached" = some (.ref a)
  d_web_kept : ∃ (a : Addr) (fd : FuncData), FunD K "web_kept" "web_kept" (defArgs s_8) (defBody s_8) (defScope s_8) [] [] a fd ∧ mg "web_kept" = some (.ref a)
  d_web_ring : ∃ (a : Addr) (fd : FuncData), FunD K "web_ring" "web_ring" (defArgs s_9) (defBody s_9) (defScope s_9) [] [] a fd ∧ mg "web_ring" = some (.ref a)
  d_is_web : ∃ (a : Addr) (fd : FuncData), FunD K "is_web" "is_web" (defArgs s_10) (defBody s_10) (defScope s_10) [] [] a fd ∧ mg "is_web" = some (.ref a)
  d_told_web : ∃ (a : Addr) (fd : FuncData), FunD K "told_web" "told_web" (defArgs s_11) (defBody s_11) (defScope s_11) [] [] a fd ∧ mg "told_web" = some (.ref a)
  d_neighbours : ∃ (a : Addr) (fd : FuncData), FunD K "neighbours" "neighbours" (defArgs s_12) (defBody s_12) (defScope s_12) [] [] a fd ∧ mg "neighbours" = some (.ref a)
  d_is_joined : ∃ (a : Addr) (fd : FuncData), FunD K "is_joined" "is_joined" (defArgs s_13) (defBody s_13) (defScope s_13) [] [] a fd ∧ mg "is_joined" = some (.ref a)
  d_has_ring : ∃ (a : Addr) (fd : FuncData), FunD K "has_ring" "has_ring" (defArgs s_14) (defBody s_14) (defScope s_14) [] [] a fd ∧ mg "has_ring" = some (.ref a)
  d_ring : ∃ (a : Addr) (fd : FuncData), FunD K "ring" "ring" (defArgs s_15) (defBody s_15) (defScope s_15) [] [] a fd ∧ mg "ring" = some (.ref a)
  d__law_pot : ∃ (a : Addr) (fd : FuncData), FunD K "_law_pot" "_law_pot" (defArgs s_16) (defBody s_16) (defScope s_16) [] [] a fd ∧ mg "_law_pot" = some (.ref a)
  d__law_draw : ∃ (a : Addr) (fd : FuncData), FunD K "_law_draw" "_law_draw" (defArgs s_17) (defBody s_17) (defScope s_17) [] [] a fd ∧ mg "_law_draw" = some (.ref a)
  d__law_web : ∃ (a : Addr) (fd : FuncData), FunD K "_law_web" "_law_web" (defArgs s_18) (defBody s_18) (defScope s_18) [] [] a fd ∧ mg "_law_web" = some (.ref a)
  d__law_near : ∃ (a : Addr) (fd : FuncData), FunD K "_law_near" "_law_near" (defArgs s_19) (defBody s_19) (defScope s_19) [] [] a fd ∧ mg "_law_near" = some (.ref a)
  d__law_piece : ∃ (a : Addr) (fd : FuncData), FunD K "_law_piece" "_law_piece" (defArgs s_20) (defBody s_20) (defScope s_20) [] [] a fd ∧ mg "_law_piece" = some (.ref a)
  d__law_is_ring : ∃ (a : Addr) (fd : FuncData), FunD K "_law_is_ring" "_law_is_ring" (defArgs s_21) (defBody s_21) (defScope s_21) [] [] a fd ∧ mg "_law_is_ring" = some (.ref a)
  d__law_right : ∃ (a : Addr) (fd : FuncData), FunD K "_law_right" "_law_right" (defArgs s_22) (defBody s_22) (defScope s_22) [] [] a fd ∧ mg "_law_right" = some (.ref a)
  d_law : ∃ (a : Addr) (fd : FuncData), FunD K "law" "law" (defArgs s_23) (defBody s_23) (defScope s_23) [] [] a fd ∧ mg "law" = some (.ref a)
  n_abs : mg "abs" = none
  n_all : mg "all" = none
  n_bool : mg "bool" = none
  n_divmod : mg "divmod" = none
  n_enumerate : mg "enumerate" = none
  n_int : mg "int" = none
  n_isinstance : mg "isinstance" = none
  n_len : mg "len" = none
  n_list : mg "list" = none
  n_max : mg "max" = none
  n_range : mg "range" = none
  n_repr : mg "repr" = none
  n_set : mg "set" = none
  n_sorted : mg "sorted" = none
  n_sum : mg "sum" = none
  n_tuple : mg "tuple" = none
  g_MOST_COPIES : ∃ t, mg "MOST_COPIES" = some (.int 6 t)
section
variable {P : Program} {w : World} {K : PySem.W.Frag} {mg : Str → Option Value} {base : Heap} {k : Nat} {f : Addr} {fd : FuncData}
theorem bd_0 (D : FunD K "is_integer" "is_integer" (defArgs s_0) (defBody s_0) (defScope s_0) [] [] f fd) : Binds K fd P_0 [] ∧ ∀ s ∈ K_0, KwOk K fd P_0 s.n s.ks s.pm :=
  ⟨D.bindsN fun _ _ _ _ _ _ us hl => match us, hl with | [_], _ => rfl, fun s hs => by cases hs⟩
theorem bd_1 (D : FunD K "is_count" "is_count" (defArgs s_1) (defBody s_1) (defScope s_1) [] [] f fd) : Binds K fd P_1 [] ∧ ∀ s ∈ K_1, KwOk K fd P_1 s.n s.ks s.pm :=
  ⟨D.bindsN fun _ _ _ _ _ _ us hl => match us, hl with | [_], _ => rfl, fun s hs => by cases hs⟩
theorem bd_2 (D : FunD K "is_list" "is_list" (defArgs s_2) (defBody s_2) (defScope s_2) [] [] f fd) : Binds K fd P_2 [] ∧ ∀ s ∈ K_2, KwOk K fd P_2 s.n s.ks s.pm :=
  ⟨D.bindsN fun _ _ _ _ _ _ us hl => match us, hl with | [_], _ => rfl, fun s hs => by cases hs⟩
theorem bd_3 (D : FunD K "is_web_tie" "is_web_tie" (defArgs s_3) (defBody s_3) (defScope s_3) [] [] f fd) : Binds K fd P_3 [] ∧ ∀ s ∈ K_3, KwOk K fd P_3 s.n s.ks s.pm :=
  ⟨D.bindsN fun _ _ _ _ _ _ us hl => match us, hl with | [_, _], _ => rfl, fun s hs => by cases hs⟩
theorem bd_4 (D : FunD K "is_web_value" "is_web_value" (defArgs s_4) (defBody s_4) (defScope s_4) [] [] f fd) : Binds K fd P_4 [] ∧ ∀ s ∈ K_4, KwOk K fd P_4 s.n s.ks s.pm :=
  ⟨D.bindsN fun _ _ _ _ _ _ us hl => match us, hl with | [_], _ => rfl, fun s hs => by cases hs⟩
theorem bd_5 (D : FunD K "want_web" "want_web" (defArgs s_5) (defBody s_5) (defScope s_5) [] [] f fd) : Binds K fd P_5 [] ∧ ∀ s ∈ K_5, KwOk K fd P_5 s.n s.ks s.pm :=
  ⟨D.bindsN fun _ _ _ _ _ _ us hl => match us, hl with | [_], _ => rfl, fun s hs => by cases hs⟩
theorem bd_6 (D : FunD K "web_neighbours" "web_neighbours" (defArgs s_6) (defBody s_6) (defScope s_6) [] [] f fd) : Binds K fd P_6 [] ∧ ∀ s ∈ K_6, KwOk K fd P_6 s.n s.ks s.pm :=
  ⟨D.bindsN fun _ _ _ _ _ _ us hl => match us, hl with | [_, _], _ => rfl, fun s hs => by cases hs⟩
theorem bd_7 (D : FunD K "web_reached" "web_reached" (defArgs s_7) (defBody s_7) (defScope s_7) [] [] f fd) : Binds K fd P_7 [] ∧ ∀ s ∈ K_7, KwOk K fd P_7 s.n s.ks s.pm :=
  ⟨D.bindsN fun _ _ _ _ _ _ us hl => match us, hl with | [_], _ => rfl, fun s hs => by cases hs⟩
theorem bd_8 (D : FunD K "web_kept" "web_kept" (defArgs s_8) (defBody s_8) (defScope s_8) [] [] f fd) : Binds K fd P_8 [] ∧ ∀ s ∈ K_8, KwOk K fd P_8 s.n s.ks s.pm :=
  ⟨D.bindsN fun _ _ _ _ _ _ us hl => match us, hl with | [_], _ => rfl, fun s hs => by cases hs⟩
theorem bd_9 (D : FunD K "web_ring" "web_ring" (defArgs s_9) (defBody s_9) (defScope s_9) [] [] f fd) : Binds K fd P_9 [] ∧ ∀ s ∈ K_9, KwOk K fd P_9 s.n s.ks s.pm :=
  ⟨D.bindsN fun _ _ _ _ _ _ us hl => match us, hl with | [_], _ => rfl, fun s hs => by cases hs⟩
theorem bd_10 (D : FunD K "is_web" "is_web" (defArgs s_10) (defBody s_10) (defScope s_10) [] [] f fd) : Binds K fd P_10 [] ∧ ∀ s ∈ K_10, KwOk K fd P_10 s.n s.ks s.pm :=
  ⟨D.bindsN fun _ _ _ _ _ _ us hl => match us, hl with | [_], _ => rfl, fun s hs => by cases hs⟩
theorem bd_11 (D : FunD K "told_web" "told_web" (defArgs s_11) (defBody s_11) (defScope s_11) [] [] f fd) : Binds K fd P_11 [] ∧ ∀ s ∈ K_11, KwOk K fd P_11 s.n s.ks s.pm :=
  ⟨D.bindsN fun _ _ _ _ _ _ us hl => match us, hl with | [_], _ => rfl, fun s hs => by
    rcases List.mem_cons.mp hs with rfl | hs
    · exact kwOk_of D fun _ _ _ _ _ _ us ws h1 h2 => match us, ws, h1, h2 with | [], [_], _, _ => rfl
    cases hs⟩
theorem bd_12 (D : FunD K "neighbours" "neighbours" (defArgs s_12) (defBody s_12) (defScope s_12) [] [] f fd) : Binds K fd P_12 [] ∧ ∀ s ∈ K_12, KwOk K fd P_12 s.n s.ks s.pm :=
  ⟨D.bindsN fun _ _ _ _ _ _ us hl => match us, hl with | [_, _], _ => rfl, fun s hs => by
    rcases List.mem_cons.mp hs with rfl | hs
    · exact kwOk_of D fun _ _ _ _ _ _ us ws h1 h2 => match us, ws, h1, h2 with | [], [_, _], _, _ => rfl
    cases hs⟩
theorem bd_13 (D : FunD K "is_joined" "is_joined" (defArgs s_13) (defBody s_13) (defScope s_13) [] [] f fd) : Binds K fd P_13 [] ∧ ∀ s ∈ K_13, KwOk K fd P_13 s.n s.ks s.pm :=
  ⟨D.bindsN fun _ _ _ _ _ _ us hl => match us, hl with | [_], _ => rfl, fun s hs => by cases hs⟩
theorem bd_14 (D : FunD K "has_ring" "has_ring" (defArgs s_14) (defBody s_14) (defScope s_14) [] [] f fd) : Binds K fd P_14 [] ∧ ∀ s ∈ K_14, KwOk K fd P_14 s.n s.ks s.pm :=
  ⟨D.bindsN fun _ _ _ _ _ _ us hl => match us, hl with | [_], _ => rfl, fun s hs => by cases hs⟩
theorem bd_15 (D : FunD K "ring" "ring" (defArgs s_15) (defBody s_15) (defScope s_15) [] [] f fd) : Binds K fd P_15 [] ∧ ∀ s ∈ K_15, KwOk K fd P_15 s.n s.ks s.pm :=
  ⟨D.bindsN fun _ _ _ _ _ _ us hl => match us, hl with | [_], _ => rfl, fun s hs => by cases hs⟩
theorem bd_16 (D : FunD K "_law_pot" "_law_pot" (defArgs s_16) (defBody s_16) (defScope s_16) [] [] f fd) : Binds K fd P_16 [] ∧ ∀ s ∈ K_16, KwOk K fd P_16 s.n s.ks s.pm :=
  ⟨D.bindsN fun _ _ _ _ _ _ us hl => match us, hl with | [_, _], _ => rfl, fun s hs => by cases hs⟩
theorem bd_17 (D : FunD K "_law_draw" "_law_draw" (defArgs s_17) (defBody s_17) (defScope s_17) [] [] f fd) : Binds K fd P_17 [] ∧ ∀ s ∈ K_17, KwOk K fd P_17 s.n s.ks s.pm :=
  ⟨D.bindsN fun _ _ _ _ _ _ us hl => match us, hl with | [_, _], _ => rfl, fun s hs => by cases hs⟩
theorem bd_18 (D : FunD K "_law_web" "_law_web" (defArgs s_18) (defBody s_18) (defScope s_18) [] [] f fd) : Binds K fd P_18 [] ∧ ∀ s ∈ K_18, KwOk K fd P_18 s.n s.ks s.pm :=
  ⟨D.bindsN fun _ _ _ _ _ _ us hl => match us, hl with | [_, _, _], _ => rfl, fun s hs => by cases hs⟩
theorem bd_19 (D : FunD K "_law_near" "_law_near" (defArgs s_19) (defBody s_19) (defScope s_19) [] [] f fd) : Binds K fd P_19 [] ∧ ∀ s ∈ K_19, KwOk K fd P_19 s.n s.ks s.pm :=
  ⟨D.bindsN fun _ _ _ _ _ _ us hl => match us, hl with | [_, _], _ => rfl, fun s hs => by cases hs⟩
theorem bd_20 (D : FunD K "_law_piece" "_law_piece" (defArgs s_20) (defBody s_20) (defScope s_20) [] [] f fd) : Binds K fd P_20 [] ∧ ∀ s ∈ K_20, KwOk K fd P_20 s.n s.ks s.pm :=
  ⟨D.bindsN fun _ _ _ _ _ _ us hl => match us, hl with | [_, _], _ => rfl, fun s hs => by cases hs⟩
theorem bd_21 (D : FunD K "_law_is_ring" "_law_is_ring" (defArgs s_21) (defBody s_21) (defScope s_21) [] [] f fd) : Binds K fd P_21 [] ∧ ∀ s ∈ K_21, KwOk K fd P_21 s.n s.ks s.pm :=
  ⟨D.bindsN fun _ _ _ _ _ _ us hl => match us, hl with | [_, _], _ => rfl, fun s hs => by cases hs⟩
theorem bd_22 (D : FunD K "_law_right" "_law_right" (defArgs s_22) (defBody s_22) (defScope s_22) [] [] f fd) : Binds K fd P_22 [] ∧ ∀ s ∈ K_22, KwOk K fd P_22 s.n s.ks s.pm :=
  ⟨D.bindsN fun _ _ _ _ _ _ us hl => match us, hl with | [_], _ => rfl, fun s hs => by cases hs⟩
theorem bd_23 (D : FunD K "law" "law" (defArgs s_23) (defBody s_23) (defScope s_23) [] [] f fd) : Binds K fd P_23 [] ∧ ∀ s ∈ K_23, KwOk K fd P_23 s.n s.ks s.pm :=
  ⟨D.bindsN fun _ _ _ _ _ _ us hl => match us, hl with | [_], _ => rfl, fun s hs => by cases hs⟩
theorem ff (h : F0 K mg) : ∀ k : Nat, FF P w K mg base k := by
  intro k
  induction k with
  | zero =>
    constructor
    · obtain ⟨a, fd, D, hm⟩ := h.d_is_integer
      exact ⟨⟨a, fd, step0 rfl, hm, D.kp, (bd_0 D).1, (bd_0 D).2⟩⟩
    · obtain ⟨a, fd, D, hm⟩ := h.d_is_count
      exact ⟨⟨a, fd, step0 rfl, hm, D.kp, (bd_1 D).1, (bd_1 D).2⟩⟩
    · obtain ⟨a, fd, D, hm⟩ := h.d_is_list
      exact ⟨⟨a, fd, step0 rfl, hm, D.kp, (bd_2 D).1, (bd_2 D).2⟩⟩
    · obtain ⟨a, fd, D, hm⟩ := h.d_is_web_tie
      exact ⟨⟨a, fd, step0 rfl, hm, D.kp, (bd_3 D).1, (bd_3 D).2⟩⟩
    · obtain ⟨a, fd, D, hm⟩ := h.d_is_web_value
      exact ⟨⟨a, fd, step0 rfl, hm, D.kp, (bd_4 D).1, (bd_4 D).2⟩⟩
    · obtain ⟨a, fd, D, hm⟩ := h.d_want_web
      exact ⟨⟨a, fd, step0 rfl, hm, D.kp, (bd_5 D).1, (bd_5 D).2⟩⟩
    · obtain ⟨a, fd, D, hm⟩ := h.d_web_neighbours
      exact ⟨⟨a, fd, step0 rfl, hm, D.kp, (bd_6 D).1, (bd_6 D).2⟩⟩
    · obtain ⟨a, fd, D, hm⟩ := h.d_web_reached
      exact ⟨⟨a, fd, step0 rfl, hm, D.kp, (bd_7 D).1, (bd_7 D).2⟩⟩
    · obtain ⟨a, fd, D, hm⟩ := h.d_web_kept
      exact ⟨⟨a, fd, step0 rfl, hm, D.kp, (bd_8 D).1, (bd_8 D).2⟩⟩
    · obtain ⟨a, fd, D, hm⟩ := h.d_web_ring
      exact ⟨⟨a, fd, step0 rfl, hm, D.kp, (bd_9 D).1, (bd_9 D).2⟩⟩
    · obtain ⟨a, fd, D, hm⟩ := h.d_is_web
      exact ⟨⟨a, fd, step0 rfl, hm, D.kp, (bd_10 D).1, (bd_10 D).2⟩⟩
    · obtain ⟨a, fd, D, hm⟩ := h.d_told_web
      exact ⟨⟨a, fd, step0 rfl, hm, D.kp, (bd_11 D).1, (bd_11 D).2⟩⟩
    · obtain ⟨a, fd, D, hm⟩ := h.d_neighbours
      exact ⟨⟨a, fd, step0 rfl, hm, D.kp, (bd_12 D).1, (bd_12 D).2⟩⟩
    · obtain ⟨a, fd, D, hm⟩ := h.d_is_joined
      exact ⟨⟨a, fd, step0 rfl, hm, D.kp, (bd_13 D).1, (bd_13 D).2⟩⟩
    · obtain ⟨a, fd, D, hm⟩ := h.d_has_ring
      exact ⟨⟨a, fd, step0 rfl, hm, D.kp, (bd_14 D).1, (bd_14 D).2⟩⟩
    · obtain ⟨a, fd, D, hm⟩ := h.d_ring
      exact ⟨⟨a, fd, step0 rfl, hm, D.kp, (bd_15 D).1, (bd_15 D).2⟩⟩
    · obtain ⟨a, fd, D, hm⟩ := h.d__law_pot
      exact ⟨⟨a, fd, step0 rfl, hm, D.kp, (bd_16 D).1, (bd_16 D).2⟩⟩
    · obtain ⟨a, fd, D, hm⟩ := h.d__law_draw
      exact ⟨⟨a, fd, step0 rfl, hm, D.kp, (bd_17 D).1, (bd_17 D).2⟩⟩
    · obtain ⟨a, fd, D, hm⟩ := h.d__law_web
      exact ⟨⟨a, fd, step0 rfl, hm, D.kp, (bd_18 D).1, (bd_18 D).2⟩⟩
    · obtain ⟨a, fd, D, hm⟩ := h.d__law_near
      exact ⟨⟨a, fd, step0 rfl, hm, D.kp, (bd_19 D).1, (bd_19 D).2⟩⟩
    · obtain ⟨a, fd, D, hm⟩ := h.d__law_piece
      exact ⟨⟨a, fd, step0 rfl, hm, D.kp, (bd_20 D).1, (bd_20 D).2⟩⟩
    · obtain ⟨a, fd, D, hm⟩ := h.d__law_is_ring
      exact ⟨⟨a, fd, step0 rfl, hm, D.kp, (bd_21 D).1, (bd_21 D).2⟩⟩
    · obtain ⟨a, fd, D, hm⟩ := h.d__law_right
      exact ⟨⟨a, fd, step0 rfl, hm, D.kp, (bd_22 D).1, (bd_22 D).2⟩⟩
    · obtain ⟨a, fd, D, hm⟩ := h.d_law
      exact ⟨⟨a, fd, step0 rfl, hm, D.kp, (bd_23 D).1, (bd_23 D).2⟩⟩
    · exact h.n_abs
    · exact h.n_all
    · exact h.n_bool
    · exact h.n_divmod
    · exact h.n_enumerate
    · exact h.n_int
    · exact h.n_isinstance
    · exact h.n_len
    · exact h.n_list
    · exact h.n_max
    · exact h.n_range
    · exact h.n_repr
    · exact h.n_set
    · exact h.n_sorted
    · exact h.n_sum
    · exact h.n_tuple
    · exact h.g_MOST_COPIES
  | succ k ih =>
    constructor
    · obtain ⟨a, fd, D, hm⟩ := h.d_is_integer
      exact ⟨⟨a, fd, step (fn := ⟨1, 1, b_0⟩) D sc_0 rfl rfl rfl (wk_0 ih), hm, D.kp, (bd_0 D).1, (bd_0 D).2⟩⟩
    · obtain ⟨a, fd, D, hm⟩ := h.d_is_count
      exact ⟨⟨a, fd, step (fn := ⟨1, 1, b_1⟩) D sc_1 rfl rfl rfl (wk_1 ih), hm, D.kp, (bd_1 D).1, (bd_1 D).2⟩⟩
    · obtain ⟨a, fd, D, hm⟩ := h.d_is_list
      exact ⟨⟨a, fd, step (fn := ⟨1, 1, b_2⟩) D sc_2 rfl rfl rfl (wk_2 ih), hm, D.kp, (bd_2 D).1, (bd_2 D).2⟩⟩
    · obtain ⟨a, fd, D, hm⟩ := h.d_is_web_tie
      exact ⟨⟨a, fd, step (fn := ⟨3, 2, b_3⟩) D sc_3 rfl rfl rfl (wk_3 ih), hm, D.kp, (bd_3 D).1, (bd_3 D).2⟩⟩
    · obtain ⟨a, fd, D, hm⟩ := h.d_is_web_value
      exact ⟨⟨a, fd, step (fn := ⟨5, 1, b_4⟩) D sc_4 rfl rfl rfl (wk_4 ih), hm, D.kp, (bd_4 D).1, (bd_4 D).2⟩⟩
    · obtain ⟨a, fd, D, hm⟩ := h.d_want_web
      exact ⟨⟨a, fd, step (fn := ⟨1, 1, b_5⟩) D sc_5 rfl rfl rfl (wk_5 ih), hm, D.kp, (bd_5 D).1, (bd_5 D).2⟩⟩
    · obtain ⟨a, fd, D, hm⟩ := h.d_web_neighbours
      exact ⟨⟨a, fd, step (fn := ⟨5, 2, b_6⟩) D sc_6 rfl rfl rfl (wk_6 ih), hm, D.kp, (bd_6 D).1, (bd_6 D).2⟩⟩
    · obtain ⟨a, fd, D, hm⟩ := h.d_web_reached
      exact ⟨⟨a, fd, step (fn := ⟨6, 1, b_7⟩) D sc_7 rfl rfl rfl (wk_7 ih), hm, D.kp, (bd_7 D).1, (bd_7 D).2⟩⟩
    · obtain ⟨a, fd, D, hm⟩ := h.d_web_kept
      exact ⟨⟨a, fd, step (fn := ⟨5, 1, b_8⟩) D sc_8 rfl rfl rfl (wk_8 ih), hm, D.kp, (bd_8 D).1, (bd_8 D).2⟩⟩
    · obtain ⟨a, fd, D, hm⟩ := h.d_web_ring
      exact ⟨⟨a, fd, step (fn := ⟨6, 1, b_9⟩) D sc_9 rfl rfl rfl (wk_9 ih), hm, D.kp, (bd_9 D).1, (bd_9 D).2⟩⟩
    · obtain ⟨a, fd, D, hm⟩ := h.d_is_web
      exact ⟨⟨a, fd, step (fn := ⟨1, 1, b_10⟩) D sc_10 rfl rfl rfl (wk_10 ih), hm, D.kp, (bd_10 D).1, (bd_10 D).2⟩⟩
    · obtain ⟨a, fd, D, hm⟩ := h.d_told_web
      exact ⟨⟨a, fd, step (fn := ⟨1, 1, b_11⟩) D sc_11 rfl rfl rfl (wk_11 ih), hm, D.kp, (bd_11 D).1, (bd_11 D).2⟩⟩
    · obtain ⟨a, fd, D, hm⟩ := h.d_neighbours
      exact ⟨⟨a, fd, step (fn := ⟨3, 2, b_12⟩) D sc_12 rfl rfl rfl (wk_12 ih), hm, D.kp, (bd_12 D).1, (bd_12 D).2⟩⟩
    · obtain ⟨a, fd, D, hm⟩ := h.d_is_joined
      exact ⟨⟨a, fd, step (fn := ⟨2, 1, b_13⟩) D sc_13 rfl rfl rfl (wk_13 ih), hm, D.kp, (bd_13 D).1, (bd_13 D).2⟩⟩
    · obtain ⟨a, fd, D, hm⟩ := h.d_has_ring
      exact ⟨⟨a, fd, step (fn := ⟨1, 1, b_14⟩) D sc_14 rfl rfl rfl (wk_14 ih), hm, D.kp, (bd_14 D).1, (bd_14 D).2⟩⟩
    · obtain ⟨a, fd, D, hm⟩ := h.d_ring
      exact ⟨⟨a, fd, step (fn := ⟨1, 1, b_15⟩) D sc_15 rfl rfl rfl (wk_15 ih), hm, D.kp, (bd_15 D).1, (bd_15 D).2⟩⟩
    · obtain ⟨a, fd, D, hm⟩ := h.d__law_pot
      exact ⟨⟨a, fd, step (fn := ⟨3, 2, b_16⟩) D sc_16 rfl rfl rfl (wk_16 ih), hm, D.kp, (bd_16 D).1, (bd_16 D).2⟩⟩
    · obtain ⟨a, fd, D, hm⟩ := h.d__law_draw
      exact ⟨⟨a, fd, step (fn := ⟨3, 2, b_17⟩) D sc_17 rfl rfl rfl (wk_17 ih), hm, D.kp, (bd_17 D).1, (bd_17 D).2⟩⟩
    · obtain ⟨a, fd, D, hm⟩ := h.d__law_web
      exact ⟨⟨a, fd, step (fn := ⟨7, 3, b_18⟩) D sc_18 rfl rfl rfl (wk_18 ih), hm, D.kp, (bd_18 D).1, (bd_18 D).2⟩⟩
    · obtain ⟨a, fd, D, hm⟩ := h.d__law_near
      exact ⟨⟨a, fd, step (fn := ⟨4, 2, b_19⟩) D sc_19 rfl rfl rfl (wk_19 ih), hm, D.kp, (bd_19 D).1, (bd_19 D).2⟩⟩
    · obtain ⟨a, fd, D, hm⟩ := h.d__law_piece
      exact ⟨⟨a, fd, step (fn := ⟨6, 2, b_20⟩) D sc_20 rfl rfl rfl (wk_20 ih), hm, D.kp, (bd_20 D).1, (bd_20 D).2⟩⟩
    · obtain ⟨a, fd, D, hm⟩ := h.d__law_is_ring
      exact ⟨⟨a, fd, step (fn := ⟨4, 2, b_21⟩) D sc_21 rfl rfl rfl (wk_21 ih), hm, D.kp, (bd_21 D).1, (bd_21 D).2⟩⟩
    · obtain ⟨a, fd, D, hm⟩ := h.d__law_right
      exact ⟨⟨a, fd, step (fn := ⟨10, 1, b_22⟩) D sc_22 rfl rfl rfl (wk_22 ih), hm, D.kp, (bd_22 D).1, (bd_22 D).2⟩⟩
    · obtain ⟨a, fd, D, hm⟩ := h.d_law
      exact ⟨⟨a, fd, step (fn := ⟨1, 1, b_23⟩) D sc_23 rfl rfl rfl (wk_23 ih), hm, D.kp, (bd_23 D).1, (bd_23 D).2⟩⟩
    · exact h.n_abs
    · exact h.n_all
    · exact h.n_bool
    · exact h.n_divmod
    · exact h.n_enumerate
    · exact h.n_int
    · exact h.n_isinstance
    · exact h.n_len
    · exact h.n_list
    · exact h.n_max
    · exact h.n_range
    · exact h.n_repr
    · exact h.n_set
    · exact h.n_sorted
    · exact h.n_sum
    · exact h.n_tuple
    · exact h.g_MOST_COPIES
end
def dd_0 : He.DefD := ⟨("is_integer", none), "is_integer", "is_integer", defArgs s_0, defBody s_0, defScope s_0, [], []⟩
def dd_1 : He.DefD := ⟨("is_count", none), "is_count", "is_count", defArgs s_1, defBody s_1, defScope s_1, [], []⟩
def dd_2 : He.DefD := ⟨("is_list", none), "is_list", "is_list", defArgs s_2, defBody s_2, defScope s_2, [], []⟩
def dd_3 : He.DefD := ⟨("is_web_tie", none), "is_web_tie", "is_web_tie", defArgs s_3, defBody s_3, defScope s_3, [], []⟩
def dd_4 : He.DefD := ⟨("is_web_value", none), "is_web_value", "is_web_value", defArgs s_4, defBody s_4, defScope s_4, [], []⟩
def dd_5 : He.DefD := ⟨("want_web", none), "want_web", "want_web", defArgs s_5, defBody s_5, defScope s_5, [], []⟩
def dd_6 : He.DefD := ⟨("web_neighbours", none), "web_neighbours", "web_neighbours", defArgs s_6, defBody s_6, defScope s_6, [], []⟩
def dd_7 : He.DefD := ⟨("web_reached", none), "web_reached", "web_reached", defArgs s_7, defBody s_7, defScope s_7, [], []⟩
def dd_8 : He.DefD := ⟨("web_kept", none), "web_kept", "web_kept", defArgs s_8, defBody s_8, defScope s_8, [], []⟩
def dd_9 : He.DefD := ⟨("web_ring", none), "web_ring", "web_ring", defArgs s_9, defBody s_9, defScope s_9, [], []⟩
def dd_10 : He.DefD := ⟨("is_web", none), "is_web", "is_web", defArgs s_10, defBody s_10, defScope s_10, [], []⟩
def dd_11 : He.DefD := ⟨("told_web", none), "told_web", "told_web", defArgs s_11, defBody s_11, defScope s_11, [], []⟩
def dd_12 : He.DefD := ⟨("neighbours", none), "neighbours", "neighbours", defArgs s_12, defBody s_12, defScope s_12, [], []⟩
def dd_13 : He.DefD := ⟨("is_joined", none), "is_joined", "is_joined", defArgs s_13, defBody s_13, defScope s_13, [], []⟩
def dd_14 : He.DefD := ⟨("has_ring", none), "has_ring", "has_ring", defArgs s_14, defBody s_14, defScope s_14, [], []⟩
def dd_15 : He.DefD := ⟨("ring", none), "ring", "ring", defArgs s_15, defBody s_15, defScope s_15, [], []⟩
def dd_16 : He.DefD := ⟨("_law_pot", none), "_law_pot", "_law_pot", defArgs s_16, defBody s_16, defScope s_16, [], []⟩
def dd_17 : He.DefD := ⟨("_law_draw", none), "_law_draw", "_law_draw", defArgs s_17, defBody s_17, defScope s_17, [], []⟩
def dd_18 : He.DefD := ⟨("_law_web", none), "_law_web", "_law_web", defArgs s_18, defBody s_18, defScope s_18, [], []⟩
def dd_19 : He.DefD := ⟨("_law_near", none), "_law_near", "_law_near", defArgs s_19, defBody s_19, defScope s_19, [], []⟩
def dd_20 : He.DefD := ⟨("_law_piece", none), "_law_piece", "_law_piece", defArgs s_20, defBody s_20, defScope s_20, [], []⟩
def dd_21 : He.DefD := ⟨("_law_is_ring", none), "_law_is_ring", "_law_is_ring", defArgs s_21, defBody s_21, defScope s_21, [], []⟩
def dd_22 : He.DefD := ⟨("_law_right", none), "_law_right", "_law_right", defArgs s_22, defBody s_22, defScope s_22, [], []⟩
def dd_23 : He.DefD := ⟨("law", none), "law", "law", defArgs s_23, defBody s_23, defScope s_23, [], []⟩
def fn : List He.DefD := [dd_0, dd_1, dd_2, dd_3, dd_4, dd_5, dd_6, dd_7, dd_8, dd_9, dd_10, dd_11, dd_12, dd_13, dd_14, dd_15, dd_16, dd_17, dd_18, dd_19, dd_20, dd_21, dd_22, dd_23]
def fa : List He.Fa := [.glo "is_integer", .glo "is_count", .glo "is_list", .glo "is_web_tie", .glo "is_web_value", .glo "want_web", .glo "web_neighbours", .glo "web_reached", .glo "web_kept", .glo "web_ring", .glo "is_web", .glo "told_web", .glo "neighbours", .glo "is_joined", .glo "has_ring", .glo "ring", .glo "_law_pot", .glo "_law_draw", .glo "_law_web", .glo "_law_near", .glo "_law_piece", .glo "_law_is_ring", .glo "_law_right", .glo "law", .free "abs", .free "all", .free "bool", .free "divmod", .free "enumerate", .free "int", .free "isinstance", .free "len", .free "list", .free "max", .free "range", .free "repr", .free "set", .free "sorted", .free "sum", .free "tuple", .int "MOST_COPIES" 6]
def loo_0 : List Str := ["PartError", "InvalidWeb", "InvalidCopy", "is_integer", "is_count", "is_list", "MOST_COPIES", "is_web_tie", "is_web_value", "want_web", "web_neighbours", "web_reached", "web_kept", "web_ring", "is_web", "told_web", "neighbours", "is_joined", "has_ring", "ring", "_law_pot", "_law_draw", "_law_pick", "_law_web", "_law_near", "_law_piece", "_law_is_ring", "_law_right"]
abbrev loo : List Str := loo_0
abbrev R : PySem.W.OpenRow := PySem.W.OpenLaw.row PySem.Challenge.rw_partsbrought_k81_whole_webs_and_rings
abbrev hk : PySem.W.Hook := He.hookD 4 fa fn
def ob (s : PySem.W.SharedT) : He.AlD := He.obsDG 4 fa fn (HandSHeadRun.getT s)
theorem ob_eq (s : PySem.W.SharedT) : ob s = hk.obs s.abs := He.obsDG_eq (HandSHeadRun.getT_eq s)
theorem run (w : World) : HandSHeadRun.RunEq R (PySem.W.view R.prog [32]) hk ob 4000 loo w := by
  intro os
  kernel_rfl
theorem facts {K : PySem.W.Frag} {h : Heap} {mg : Str → Option Value} (X : K.In h) (G : h.Ns mainGlobals mg) (c : He.SaysD fa fn K) : F0 K mg := by
  constructor
  · obtain ⟨fd, D⟩ := c.def_ 0 (d := dd_0) rfl
    exact ⟨_, fd, D, He.glo_ok X G (c.fact 0 (f := .glo "is_integer") rfl)⟩
  · obtain ⟨fd, D⟩ := c.def_ 1 (d := dd_1) rfl
    exact ⟨_, fd, D, He.glo_ok X G (c.fact 1 (f := .glo "is_count") rfl)⟩
  · obtain ⟨fd, D⟩ := c.def_ 2 (d := dd_2) rfl
    exact ⟨_, fd, D, He.glo_ok X G (c.fact 2 (f := .glo "is_list") rfl)⟩
  · obtain ⟨fd, D⟩ := c.def_ 3 (d := dd_3) rfl
    exact ⟨_, fd, D, He.glo_ok X G (c.fact 3 (f := .glo "is_web_tie") rfl)⟩
  · obtain ⟨fd, D⟩ := c.def_ 4 (d := dd_4) rfl
    exact ⟨_, fd, D, He.glo_ok X G (c.fact 4 (f := .glo "is_web_value") rfl)⟩
  · obtain ⟨fd, D⟩ := c.def_ 5 (d := dd_5) rfl
    exact ⟨_, fd, D, He.glo_ok X G (c.fact 5 (f := .glo "want_web") rfl)⟩
  · obtain ⟨fd, D⟩ := c.def_ 6 (d := dd_6) rfl
    exact ⟨_, fd, D, He.glo_ok X G (c.fact 6 (f := .glo "web_neighbours") rfl)⟩
  · obtain ⟨fd, D⟩ := c.def_ 7 (d := dd_7) rfl
    exact ⟨_, fd, D, He.glo_ok X G (c.fact 7 (f := .glo "web_reached") rfl)⟩
  · obtain ⟨fd, D⟩ := c.def_ 8 (d := dd_8) rfl
    exact ⟨_, fd, D, He.glo_ok X G (c.fact 8 (f := .glo "web_kept") rfl)⟩
  · obtain ⟨fd, D⟩ := c.def_ 9 (d := dd_9) rfl
    exact ⟨_, fd, D, He.glo_ok X G (c.fact 9 (f := .glo "web_ring") rfl)⟩
  · obtain ⟨fd, D⟩ := c.def_ 10 (d := dd_10) rfl
    exact ⟨_, fd, D, He.glo_ok X G (c.fact 10 (f := .glo "is_web") rfl)⟩
  · obtain ⟨fd, D⟩ := c.def_ 11 (d := dd_11) rfl
    exact ⟨_, fd, D, He.glo_ok X G (c.fact 11 (f := .glo "told_web") rfl)⟩
  · obtain ⟨fd, D⟩ := c.def_ 12 (d := dd_12) rfl
    exact ⟨_, fd, D, He.glo_ok X G (c.fact 12 (f := .glo "neighbours") rfl)⟩
  · obtain ⟨fd, D⟩ := c.def_ 13 (d := dd_13) rfl
    exact ⟨_, fd, D, He.glo_ok X G (c.fact 13 (f := .glo "is_joined") rfl)⟩
  · obtain ⟨fd, D⟩ := c.def_ 14 (d := dd_14) rfl
    exact ⟨_, fd, D, He.glo_ok X G (c.fact 14 (f := .glo "has_ring") rfl)⟩
  · obtain ⟨fd, D⟩ := c.def_ 15 (d := dd_15) rfl
    exact ⟨_, fd, D, He.glo_ok X G (c.fact 15 (f := .glo "ring") rfl)⟩
  · obtain ⟨fd, D⟩ := c.def_ 16 (d := dd_16) rfl
    exact ⟨_, fd, D, He.glo_ok X G (c.fact 16 (f := .glo "_law_pot") rfl)⟩
  · obtain ⟨fd, D⟩ := c.def_ 17 (d := dd_17) rfl
    exact ⟨_, fd, D, He.glo_ok X G (c.fact 17 (f := .glo "_law_draw") rfl)⟩
  · obtain ⟨fd, D⟩ := c.def_ 18 (d := dd_18) rfl
    exact ⟨_, fd, D, He.glo_ok X G (c.fact 18 (f := .glo "_law_web") rfl)⟩
  · obtain ⟨fd, D⟩ := c.def_ 19 (d := dd_19) rfl
    exact ⟨_, fd, D, He.glo_ok X G (c.fact 19 (f := .glo "_law_near") rfl)⟩
  · obtain ⟨fd, D⟩ := c.def_ 20 (d := dd_20) rfl
    exact ⟨_, fd, D, He.glo_ok X G (c.fact 20 (f := .glo "_law_piece") rfl)⟩
  · obtain ⟨fd, D⟩ := c.def_ 21 (d := dd_21) rfl
    exact ⟨_, fd, D, He.glo_ok X G (c.fact 21 (f := .glo "_law_is_ring") rfl)⟩
  · obtain ⟨fd, D⟩ := c.def_ 22 (d := dd_22) rfl
    exact ⟨_, fd, D, He.glo_ok X G (c.fact 22 (f := .glo "_law_right") rfl)⟩
  · obtain ⟨fd, D⟩ := c.def_ 23 (d := dd_23) rfl
    exact ⟨_, fd, D, He.glo_ok X G (c.fact 23 (f := .glo "law") rfl)⟩
  · exact He.free_ok X G (c.fact 24 (f := .free "abs") rfl)
  · exact He.free_ok X G (c.fact 25 (f := .free "all") rfl)
  · exact He.free_ok X G (c.fact 26 (f := .free "bool") rfl)
  · exact He.free_ok X G (c.fact 27 (f := .free "divmod") rfl)
  · exact He.free_ok X G (c.fact 28 (f := .free "enumerate") rfl)
  · exact He.free_ok X G (c.fact 29 (f := .free "int") rfl)
  · exact He.free_ok X G (c.fact 30 (f := .free "isinstance") rfl)
  · exact He.free_ok X G (c.fact 31 (f := .free "len") rfl)
  · exact He.free_ok X G (c.fact 32 (f := .free "list") rfl)
  · exact He.free_ok X G (c.fact 33 (f := .free "max") rfl)
  · exact He.free_ok X G (c.fact 34 (f := .free "range") rfl)
  · exact He.free_ok X G (c.fact 35 (f := .free "repr") rfl)
  · exact He.free_ok X G (c.fact 36 (f := .free "set") rfl)
  · exact He.free_ok X G (c.fact 37 (f := .free "sorted") rfl)
  · exact He.free_ok X G (c.fact 38 (f := .free "sum") rfl)
  · exact He.free_ok X G (c.fact 39 (f := .free "tuple") rfl)
  · exact He.int_ok X G (c.fact 40 (f := .int "MOST_COPIES" 6) rfl)
end L81
open PySem PySem.W PySem.Calls PyProof.Rows in
theorem L81.holds (goal : L81.Goal) : PySem.Challenge.rw_partsbrought_k81_whole_webs_and_rings.Holds := by
  w_on; o_law
  refine HandSHeadRun.head_any (r := OpenLaw.row PySem.Challenge.rw_partsbrought_k81_whole_webs_and_rings) (q := view (OpenLaw.row PySem.Challenge.rw_partsbrought_k81_whole_webs_and_rings).prog [32]) (H := L81.hk) (ob := L81.ob) (M := 4000) (loose := L81.loo) (d := HandSHeadRun.topDef (OpenLaw.row PySem.Challenge.rw_partsbrought_k81_whole_webs_and_rings).prog 32) (kwd := []) L81.ob_eq
    (by kernel_rfl) (fun s => by kernel_rfl) L81.run (by kernel_rfl) (by kernel_rfl) (by kernel_rfl) (by rfl) (by first | assumption | decide +kernel) (by decide +kernel) ⟨rfl, rfl, rfl, rfl, rfl, by decide +kernel⟩ ?hw ?hc
  case hw => w_witness2
  case hc =>
    refine Mc.walk_ofG (l := PySem.Challenge.rw_partsbrought_k81_whole_webs_and_rings) (n := 63) (k := 12) (x := "script") (CX := fun w => L2.CX (PySem.Challenge.rw_partsbrought_k81_whole_webs_and_rings).prog w) rfl (by decide) (by kernel_rfl) ⟨rfl, by decide, by decide⟩ ?F (fun _ _ _ _ _ z => Mc.cx_no z)
    intro w mg fa h Y G hmg0
    obtain ⟨K, KX, c⟩ := Y
    have hmg : mg ("law" : PySem.Str) = some (.ref fa) := by
      have e : (HandSHeadRun.topDef (OpenLaw.row PySem.Challenge.rw_partsbrought_k81_whole_webs_and_rings).prog 32).name = ("law" : PySem.Str) := by kernel_rfl
      rw [← e]
      exact hmg0
    have f0 := L81.facts KX G c
    obtain ⟨a, fd, D, hm⟩ := f0.d_law
    have e := hmg.symm.trans hm
    cases e
    exact ⟨K, fd, Mc.spF K 1 (Mc.callF L81.tab 12 23), KX, fun s u => (L2.FunD.bindsA (ps := ["script"]) D fun _ _ _ _ _ _ us hl => match us, hl with | [_], _ => rfl) s [u] rfl, fun H a ns hl _ hS => Mc.law_sp hl hS (goal ns hl),
      fun base _ _ => Mc.step (fn := ⟨1, 1, L81.b_23⟩) D L81.sc_23 rfl rfl rfl (L81.wk_23 (L81.ff f0 11))⟩
end

theorem PySem.Challenge.cw_partsbrought_k81_whole_webs_and_rings_holds : PySem.Challenge.rw_partsbrought_k81_whole_webs_and_rings.Holds := by
  exact L81.holds L81.goal
