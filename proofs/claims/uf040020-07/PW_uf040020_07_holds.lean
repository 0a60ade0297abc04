import PyProof.Rows.All
import PyProof.P3Statements
import PyProof.StrBlockL
import PyProof.Rows.StrNews2
import KE.KIntText
import PyProof.Cells
import PyProof.CompFree
import PyProof.RulesTry
import PyProof.RulesAs
import PyProof.StationsW
import PyProof.DictList
import PyProof.TupleOps
import PyProof.ListOps
import PyProof.DictKinds
import OpenK.KWalk
import PyProof.EqLayable
import PyProof.Rows.StrJoin2
import PyProof.Rows.StrJoinMade
import PyProof.CallStr
import PyProof.Rows.StrSplitAre
import PyProof.StrLoop
import PyProof.StrWalks
import PyProof.Rows.TupAssign
import Wide.All
import OpenK.KLine
import PyProof.StrLawsTight
import Open.Line
import Wide.FinOn
import Lean
import PySem.Challenge.RW_uf040020_07
set_option Elab.async false

/-! # Core -/
section
set_option autoImplicit false
namespace Mine
open PySem

/-! A small core language for the orderflow laws, and its evaluator over an abstract store. -/

inductive Cls where
  | FlowError | NoDeed | NoLines | NoItem | NoNumber | FullBook | NoOrder | SameOrder | NoLine | TooMuch | NothingDone | ValueError
  deriving DecidableEq

noncomputable def Cls.sub (c d : Cls) : Bool := c == d || d == .ValueError || (d == .FlowError && c != .ValueError)

inductive V where
  | undef
  | none
  | bool (b : Bool)
  | int (i : Int)
  | str (s : Str)
  | tup (xs : List V)
  | lst (xs : List V)
  | ref (n : Nat)
  | exc (c : Cls)
  | parts

inductive O where
  | list (xs : List V)
  | dict (es : List (Int × V))
  | inst (attrs : List (Nat × V))

noncomputable abbrev Sto := List O

inductive R (α : Type) where
  | ok (a : α) (σ : Sto)
  | exc (c : Cls) (σ : Sto)
  | stuck

noncomputable def R.bind {α β : Type} : R α → (α → Sto → R β) → R β
  | .ok a σ, f => f a σ
  | .exc c σ, _ => .exc c σ
  | .stuck, _ => .stuck

@[simp] theorem R.bind_ok {α β : Type} (a : α) (σ : Sto) (f : α → Sto → R β) : (R.ok a σ).bind f = f a σ := rfl
@[simp] theorem R.bind_exc {α β : Type} (c : Cls) (σ : Sto) (f : α → Sto → R β) : (R.exc c σ : R α).bind f = .exc c σ := rfl
@[simp] theorem R.bind_stuck {α β : Type} (f : α → Sto → R β) : (R.stuck : R α).bind f = .stuck := rfl

noncomputable def R.lift {α : Type} (σ : Sto) : Option α → R α
  | some a => .ok a σ
  | none => .stuck

@[simp] theorem R.lift_some {α : Type} (σ : Sto) (a : α) : R.lift σ (some a) = .ok a σ := rfl
@[simp] theorem R.lift_none {α : Type} (σ : Sto) : R.lift σ (none : Option α) = .stuck := rfl

/-! ## pure operations -/

/-- kinds for isinstance -/
inductive Kd where
  | int | bool | str | list | tuple | exc (c : Cls)
  deriving DecidableEq

inductive P1 where
  | not | neg | abs | len | toList | toTup | toInt | toStr | sum | min | max | all | isNone | isNotNone | isInst (k : Kd) | count

inductive P2 where
  | add | sub | mul | fdiv | mod | pow
  | eq | ne | lt | le | gt | ge | isIn | notIn
  | index | min | max | join | split | partition | startswith

noncomputable def itemsOf (σ : Sto) : V → Option (List V)
  | .tup xs => some xs
  | .lst xs => some xs
  | .ref n => match σ[n]? with
    | some (.list xs) => some xs
    | _ => none
  | _ => none

/-- list items alone (not a tuple's) -/
noncomputable def listOf? (σ : Sto) : V → Option (List V)
  | .lst xs => some xs
  | .ref n => match σ[n]? with
    | some (.list xs) => some xs
    | _ => none
  | _ => none

noncomputable def intOf? : V → Option Int
  | .int i => some i
  | _ => none
noncomputable def strOf? : V → Option Str
  | .str s => some s
  | _ => none
noncomputable def boolOf? : V → Option Bool
  | .bool b => some b
  | _ => none

noncomputable def ints? (xs : List V) : Option (List Int) := xs.mapM intOf?
noncomputable def strs? (xs : List V) : Option (List Str) := xs.mapM strOf?
noncomputable def bools? (xs : List V) : Option (List Bool) := xs.mapM boolOf?

noncomputable def truthy (σ : Sto) : V → Option Bool
  | .none => some false
  | .bool b => some b
  | .int i => some (i != 0)
  | .str s => some (s.length != 0)
  | .tup xs => some (!xs.isEmpty)
  | .lst xs => some (!xs.isEmpty)
  | .ref n => match σ[n]? with
    | some (.list xs) => some (!xs.isEmpty)
    | _ => none
  | _ => none

/-- how long a list, a tuple, a text may be -/
noncomputable def LIM : Nat := 1048576

/-- the plain data that a value is, to a depth -/
noncomputable def toPy (σ : Sto) : Nat → V → Option PyData
  | 0, _ => none
  | d + 1, v => match v with
    | .none => some .none
    | .bool b => some (.bool b)
    | .int i => some (.int i)
    | .str s => some (.str s)
    | .tup xs => (xs.mapM (toPy σ d)).map .tuple
    | .lst xs => (xs.mapM (toPy σ d)).map .list
    | .ref n => match σ[n]? with
      | some (.list xs) => (xs.mapM (toPy σ d)).map .list
      | _ => none
    | _ => none

noncomputable def eqDepth : Nat := 8

/-- lists of other lengths differ, whatever is in them; else as data -/
noncomputable def eqV (σ : Sto) (a b : V) : Option Bool :=
  match listOf? σ a, listOf? σ b with
  | some xs, some ys => if xs.length != ys.length then some false else eqD a b
  | _, _ => eqD a b
where
  eqD (a b : V) : Option Bool := (toPy σ eqDepth a).bind fun x => (toPy σ eqDepth b).map fun y => PyData.eqv x y

noncomputable def isPre : List Nat → List Nat → Bool
  | [], _ => true
  | _ :: _, [] => false
  | x :: xs, y :: ys => x == y && isPre xs ys

/-- is xs a part of ys -/
noncomputable def isSub (xs : List Nat) : List Nat → Bool
  | [] => xs.isEmpty
  | y :: ys => isPre xs (y :: ys) || isSub xs ys

/-- cut at the first place of sep: what stands ahead, what stands behind -/
noncomputable def cutFirst (sep : List Nat) : List Nat → Option (List Nat × List Nat)
  | [] => if sep.isEmpty then some ([], []) else none
  | y :: ys => if isPre sep (y :: ys) then some ([], (y :: ys).drop sep.length) else (cutFirst sep ys).map fun p => (y :: p.1, p.2)

noncomputable def splitBy (sep : List Nat) : Nat → List Nat → List (List Nat)
  | 0, xs => [xs]
  | k + 1, xs => match cutFirst sep xs with
    | none => [xs]
    | some (a, b) => a :: splitBy sep k b

noncomputable def mkS (l : List Nat) : Str := ⟨l.toArray⟩
noncomputable def codes (s : Str) : List Nat := s.cps.toList

noncomputable def partsTable : List (Str × Int) := [("order", 2), ("deliver", 4), ("back", 4), ("swap", 4), ("credit", 4), ("pay", 3), ("refund", 3), ("move", 4)]

/-- the value of a text of figures -/
noncomputable def figures (l : List Nat) : Nat := l.foldl (fun n c => n * 10 + (c - 48)) 0
noncomputable def isFigure (c : Nat) : Bool := 48 ≤ c && c ≤ 57

noncomputable def smallFactor (a : Int) : Bool := a.natAbs < 2 ^ 64

noncomputable def normIndex (n : Nat) (i : Int) : Option Nat :=
  if 0 ≤ i then (if i.toNat < n then some i.toNat else none)
  else if 0 ≤ i + n then some (i + n).toNat else none

noncomputable def sliceStart (n : Nat) : Option Int → Nat
  | none => 0
  | some i => if i < 0 then (i + n).toNat else min i.toNat n
noncomputable def sliceStop (n : Nat) : Option Int → Nat
  | none => n
  | some i => if i < 0 then (i + n).toNat else min i.toNat n

noncomputable def sliceL {α : Type} (xs : List α) (lo hi : Option Int) : List α :=
  (xs.take (sliceStop xs.length hi)).drop (sliceStart xs.length lo)

noncomputable def minL : List Int → Option Int
  | [] => none
  | x :: xs => some (xs.foldl (fun m y => if y < m then y else m) x)

noncomputable def maxL : List Int → Option Int
  | [] => none
  | x :: xs => some (xs.foldl (fun m y => if y > m then y else m) x)

noncomputable def refK : Option O → Kd → Option Bool
  | some (.list _), k => (match k with
    | .list => some true
    | .tuple => some false
    | .str => some false
    | .int => some false
    | _ => none)
  | _, _ => none

noncomputable def instK (σ : Sto) (k : Kd) : V → Option Bool
  | .undef => none
  | .parts => none
  | .none => (match k with | .exc _ => none | _ => some false)
  | .int _ => (match k with | .int => some true | .exc _ => none | _ => some false)
  | .bool _ => (match k with | .int => some true | .bool => some true | .exc _ => none | _ => some false)
  | .str _ => (match k with | .str => some true | .exc _ => none | _ => some false)
  | .tup _ => (match k with | .tuple => some true | .exc _ => none | _ => some false)
  | .lst _ => (match k with | .list => some true | .exc _ => none | _ => some false)
  | .exc c => (match k with | .exc d => some (c.sub d) | _ => none)
  | .ref n => refK σ[n]? k

noncomputable def ev1 (o : P1) (σ : Sto) (a : V) : Option V :=
  match o with
  | .not => (truthy σ a).map fun b => .bool !b
  | .neg => match a with | .int i => some (.int (-i)) | _ => none
  | .abs => match a with | .int i => some (.int i.natAbs) | _ => none
  | .len => match a with
    | .str s => some (.int s.length)
    | .ref n => match σ[n]? with
      | some (.list xs) => some (.int xs.length)
      | _ => none
    | a => (itemsOf σ a).map fun xs => .int xs.length
  | .toList => (itemsOf σ a).map .lst
  | .toTup => (listOf? σ a).map .tup
  | .toInt => match a with
    | .bool b => some (.int (if b then 1 else 0))
    | .int i => some (.int i)
    | .str x => if x.length ≤ 640 then (intText? x).map .int else none
    | _ => none
  | .toStr => match a with | .int i => if 0 ≤ i ∧ i < 10 ^ 100 then some (.str (Str.ofString (toString i))) else none | _ => none
  | .sum => (listOf? σ a).bind fun xs => (ints? xs).map fun l => .int l.sum
  | .min => (listOf? σ a).bind fun xs => (ints? xs).bind fun l => (minL l).map .int
  | .max => (listOf? σ a).bind fun xs => (ints? xs).bind fun l => (maxL l).map .int
  | .all => (listOf? σ a).bind fun xs => (bools? xs).map fun l => .bool (l.all id)
  | .isNone => match a with | .undef => none | .none => some (.bool true) | _ => some (.bool false)
  | .isNotNone => match a with | .undef => none | .none => some (.bool false) | _ => some (.bool true)
  | .isInst k => (instK σ k a).map .bool
  | .count => (listOf? σ a).bind fun xs => (bools? xs).map fun l => .int (l.count true)

noncomputable def inV (σ : Sto) (a b : V) : Option Bool :=
  match a, b with
  | .str x, .str y => match codes x with
    | [c] => some ((codes y).contains c)
    | _ => none
  | .str x, .parts => some (partsTable.any fun p => p.1 == x)
  | .str x, b => (itemsOf σ b).bind fun xs => (strs? xs).map fun l => l.contains x
  | _, _ => none

noncomputable def joinV (σ : Sto) (a b : V) : Option V := (strOf? a).bind fun sep => (listOf? σ b).bind fun xs => (strs? xs).bind fun l =>
  if (l.map (·.length)).sum + l.length * sep.length ≤ 100000 then some (.str (Txt.join sep l)) else none
noncomputable def splitV (a b : V) : Option V := (strOf? a).bind fun s => (strOf? b).bind fun sep =>
  if (sep.length == 0) || decide (10000 < s.length) then none else some (.lst ((Txt.split s sep).map .str))
noncomputable def partV (a b : V) : Option V := (strOf? a).bind fun s => (strOf? b).bind fun sep =>
  if (sep.length == 0) || decide (10000 < s.length) then none else some (.tup [.str (Txt.partition s sep).1, .str (Txt.partition s sep).2.1, .str (Txt.partition s sep).2.2])

noncomputable def ev2 (o : P2) (σ : Sto) (a b : V) : Option V :=
  match o with
  | .add => match a, b with
    | .int x, .int y => some (.int (x + y))
    | .str x, .str y => if x.length + y.length ≤ 10000 then some (.str (x ++ y)) else none
    | .tup xs, .tup ys => if xs.length + ys.length ≤ LIM then some (.tup (xs ++ ys)) else none
    | a, b => (listOf? σ a).bind fun xs => (listOf? σ b).bind fun ys => if xs.length + ys.length ≤ LIM then some (.lst (xs ++ ys)) else none
  | .sub => match a, b with | .int x, .int y => some (.int (x - y)) | _, _ => none
  | .mul => match a, b with
    | .int x, .int y => if smallFactor x || smallFactor y then some (.int (x * y)) else none
    | _, _ => none
  | .fdiv => match a, b with | .int x, .int y => if y == 0 || 1073741824 ≤ y.natAbs then none else some (.int (x.fdiv y)) | _, _ => none
  | .mod => match a, b with | .int x, .int y => if y == 0 then none else some (.int (x.fmod y)) | _, _ => none
  | .pow => match a, b with | .int x, .int y => if x == 10 && 0 ≤ y && y ≤ 40 then some (.int (x ^ y.toNat)) else none | _, _ => none
  | .eq => (eqV σ a b).map .bool
  | .ne => (eqV σ a b).map fun r => .bool !r
  | .lt => match a, b with | .int x, .int y => some (.bool (x < y)) | _, _ => none
  | .le => match a, b with | .int x, .int y => some (.bool (x ≤ y)) | _, _ => none
  | .gt => match a, b with | .int x, .int y => some (.bool (x > y)) | _, _ => none
  | .ge => match a, b with | .int x, .int y => some (.bool (x ≥ y)) | _, _ => none
  | .isIn => (inV σ a b).map .bool
  | .notIn => (inV σ a b).map fun r => .bool !r
  | .index => match a, b with
    | .str s, .int i => (normIndex s.length i).bind fun k => (codes s)[k]?.map fun c => .str (mkS [c])
    | .parts, .str x => (partsTable.find? fun p => p.1 == x).map fun p => .int p.2
    | .ref n, .int i => match σ[n]? with
      | some (.list xs) => (normIndex xs.length i).bind fun k => xs[k]?
      | some (.dict es) => (es.find? fun p => p.1 == i).map fun p => p.2
      | _ => none
    | a, .int i => (itemsOf σ a).bind fun xs => (normIndex xs.length i).bind fun k => xs[k]?
    | _, _ => none
  | .min => match a, b with | .int x, .int y => some (.int (if y < x then y else x)) | _, _ => none
  | .max => match a, b with | .int x, .int y => some (.int (if y > x then y else x)) | _, _ => none
  | .join => joinV σ a b
  | .split => splitV a b
  | .partition => partV a b
  | .startswith => none

noncomputable def evSlice (σ : Sto) (a : V) (lo hi : Option Int) : Option V :=
  match a with
  | .tup xs => some (.tup (sliceL xs lo hi))
  | a => (listOf? σ a).map fun xs => .lst (sliceL xs lo hi)

/-! ## the core language -/

inductive SK where
  | val | range1 | range2
  deriving DecidableEq

inductive CE where
  | lit (v : V)
  | var (i : Nat)
  | p1 (o : P1) (a : CE)
  | p2 (o : P2) (a b : CE)
  | chain (a : CE) (ops : List P2) (es : List CE)
  | slice (a : CE) (lo hi : Option CE)
  | and (a b : CE)
  | or (a b : CE)
  | tup (es : List CE)
  | list (es : List CE)
  | dict0
  | dict1 (k v : CE)
  | comp (elt : CE) (k : SK) (src : List CE) (cond : Option CE)
  | call (f : Nat) (args : List CE)
  | callm (f : Nat) (o : CE) (args : List CE)
  | new
  | attr (e : CE) (a : Nat)
  | append (l x : CE)
  | sm (o : P2) (a b : CE)
  | pop (l : CE)
  | clear (l : CE)
  | trk (e : CE)

inductive CS where
  | asg (i : Nat) (e : CE)
  | setItem (o i v : CE)
  | setAttr (o : CE) (a : Nat) (v : CE)
  | unpack3 (i j k : Nat) (e : CE)
  | ite (c : CE) (a b : List CS)
  | for (i : Nat) (k : SK) (src : List CE) (body : List CS)
  | while (c : CE) (body : List CS)
  | ret (e : CE)
  | exp (e : CE)
  | raise (c : Cls)
  | try (b : List CS)
  | pass

inductive Fl where
  | next (ρ : List V)
  | ret (v : V)

structure Fn where
  params : Nat
  slots : Nat
  body : List CS

noncomputable def readVar (ρ : List V) (i : Nat) : Option V :=
  match ρ[i]? with
  | none | some .undef => none
  | some v => some v

noncomputable def rangeL (lo hi : Int) : List V := (List.range (hi - lo).toNat).map fun (k : Nat) => V.int (lo + (k : Int))

/-- the items that a source gives: of a tracked list they are read turn by turn -/
inductive Items where
  | now (xs : List V)
  | live (n : Nat)
  | keys (n : Nat) (ks : List Int)

/-- the signs of a text -/
noncomputable def charsOf (x : Str) : List V := (codes x).map fun c => .str (mkS [c])

noncomputable def refItems (n : Nat) : Option O → Option Items
  | some (.list _) => some (.live n)
  | _ => none

noncomputable def valItems (σ : Sto) : V → Option Items
  | .tup xs => some (.now xs)
  | .lst xs => some (.now xs)
  | .ref n => refItems n σ[n]?
  | .str x => if x.cps.all (· < 128) then some (.now (charsOf x)) else none
  | _ => none

noncomputable def int1 (g : Int → Option Items) : V → Option Items
  | .int i => g i
  | _ => none

noncomputable def itemsBy (σ : Sto) (k : SK) : List V → Option Items
  | [] => none
  | [v] => (match k with
    | .range1 => int1 (fun n => if n.natAbs ≤ LIM then some (.now (rangeL 0 n)) else none) v
    | .val => valItems σ v
    | .range2 => none)
  | [v, w] => (match k with
    | .range2 => int1 (fun a => int1 (fun b => if 0 ≤ a && a ≤ LIM && b.natAbs ≤ LIM then some (.now (rangeL a b)) else none) w) v
    | _ => none)
  | _ => none

/-- the next item: none is stuck, some none is the end -/
noncomputable def nextIt (σ : Sto) (it : Items) (i : Nat) : Option (Option V) :=
  match it with
  | .now xs => some xs[i]?
  | .live n => match σ[n]? with
    | some (.list xs) => some xs[i]?
    | _ => none
  | .keys n ks => match σ[n]? with
    | some (.dict es) => if es.map (·.1) = ks then some (ks[i]?.map .int) else none
    | _ => none

noncomputable def itFuel (σ : Sto) (it : Items) : Nat :=
  match it with
  | .now xs => xs.length + 1
  | .live n => match σ[n]? with
    | some (.list xs) => xs.length + 1
    | _ => 0
  | .keys _ ks => ks.length + 1

noncomputable def foldIt {β : Type} (it : Items) (f : V → β → Sto → R β) : Nat → Nat → β → Sto → R β
  | 0, _, _, _ => .stuck
  | fuel + 1, i, b, σ => match nextIt σ it i with
    | none => .stuck
    | some none => .ok b σ
    | some (some x) => (f x b σ).bind fun b σ => foldIt it f fuel (i + 1) b σ

noncomputable def foldItems {β : Type} (it : Items) (f : V → β → Sto → R β) (b : β) (σ : Sto) : R β := foldIt it f (itFuel σ it) 0 b σ

noncomputable def foldNow {β : Type} (f : V → β → Sto → R β) : List V → β → Sto → R β
  | [], b, σ => .ok b σ
  | x :: xs, b, σ => (f x b σ).bind fun b σ => foldNow f xs b σ

/-- nothing may raise here -/
noncomputable def R.calm {α : Type} : R α → R α
  | .ok a σ => .ok a σ
  | _ => .stuck

noncomputable def isInst (σ : Sto) : V → Bool
  | .ref n => match σ[n]? with
    | some (.inst _) => true
    | _ => false
  | _ => false

noncomputable def isListV (σ : Sto) (v : V) : Bool := (listOf? σ v).isSome

noncomputable def setDict (es : List (Int × V)) (k : Int) (v : V) : List (Int × V) :=
  if es.any (fun p => p.1 == k) then es.map fun p => if p.1 == k then (k, v) else p else es ++ [(k, v)]

noncomputable def setAttrs (es : List (Nat × V)) (k : Nat) (v : V) : List (Nat × V) :=
  if es.any (fun p => p.1 == k) then es.map fun p => if p.1 == k then (k, v) else p else es ++ [(k, v)]

noncomputable def doSetItem (σ : Sto) (o i v : V) : R Unit :=
  match o, i with
  | .ref n, .int k => match σ[n]? with
    | some (.list xs) => if 0 ≤ k ∧ k.toNat < xs.length then .ok () (σ.set n (.list (xs.set k.toNat v))) else .stuck
    | _ => .stuck
  | _, _ => .stuck

noncomputable def doSetAttr (σ : Sto) (o : V) (a : Nat) (v : V) : R Unit :=
  match o with
  | .ref n => match σ[n]? with
    | some (.inst es) => .ok () (σ.set n (.inst (setAttrs es a v)))
    | _ => .stuck
  | _ => .stuck

noncomputable def doAttr (σ : Sto) (o : V) (a : Nat) : Option V :=
  match o with
  | .ref n => match σ[n]? with
    | some (.inst es) => (es.find? fun p => p.1 == a).map fun p => p.2
    | _ => none
  | _ => none

noncomputable def doAppend (σ : Sto) (o x : V) : R V :=
  match o with
  | .ref n => match σ[n]? with
    | some (.list xs) => if xs.length < LIM then .ok .none (σ.set n (.list (xs ++ [x]))) else .stuck
    | _ => .stuck
  | _ => .stuck

noncomputable def doPop (σ : Sto) (o : V) : R V :=
  match o with
  | .ref n => match σ[n]? with
    | some (.list xs) => match xs.getLast? with
      | some x => .ok x (σ.set n (.list xs.dropLast))
      | none => .stuck
    | _ => .stuck
  | _ => .stuck

noncomputable def doClear (σ : Sto) (o : V) : R V :=
  match o with
  | .ref n => match σ[n]? with
    | some (.list _) => .ok .none (σ.set n (.list []))
    | _ => .stuck
  | _ => .stuck

noncomputable def doTrk (σ : Sto) : V → R V
  | .lst xs => .ok (.ref σ.length) (σ ++ [.list xs])
  | _ => .stuck

noncomputable abbrev Calls := Nat → List V → Sto → R V

/-- operations that are not served while an exception is being handled -/
noncomputable def loud1 : P1 → Bool
  | .sum | .min | .max | .all => true
  | _ => false
noncomputable def loud2 : P2 → Bool
  | .min | .max | .join => true
  | _ => false

mutual
noncomputable def evE (F : Calls) (q : Bool) : CE → List V → Sto → R V
  | .lit v, _, σ => .ok v σ
  | .var i, ρ, σ => R.lift σ (readVar ρ i)
  | .p1 o a, ρ, σ => if q && loud1 o then .stuck else (evE F q a ρ σ).bind fun a σ => R.lift σ (ev1 o σ a)
  | .p2 o a b, ρ, σ => if q && loud2 o then .stuck else (evE F q a ρ σ).bind fun a σ => (evE F q b ρ σ).bind fun b σ => R.lift σ (ev2 o σ a b)
  | .chain a ops es, ρ, σ => (evE F q a ρ σ).bind fun a σ => evChain F q ops es a ρ σ
  | .slice a lo hi, ρ, σ => (evE F q a ρ σ).bind fun a σ => (evO F q lo ρ σ).bind fun lo σ => (evO F q hi ρ σ).bind fun hi σ => R.lift σ (evSlice σ a lo hi)
  | .and a b, ρ, σ => (evE F q a ρ σ).bind fun a σ => (R.lift σ (truthy σ a)).bind fun t σ => if t then evE F q b ρ σ else .ok a σ
  | .or a b, ρ, σ => (evE F q a ρ σ).bind fun a σ => (R.lift σ (truthy σ a)).bind fun t σ => if t then .ok a σ else evE F q b ρ σ
  | .tup es, ρ, σ => (evL F q es ρ σ).bind fun vs σ => .ok (.tup vs) σ
  | .list es, ρ, σ => (evL F q es ρ σ).bind fun vs σ => .ok (.lst vs) σ
  | .dict0, _, σ => .ok (.ref σ.length) (σ ++ [.dict []])
  | .dict1 k v, ρ, σ => (evE F q k ρ σ).bind fun k σ => (evE F q v ρ σ).bind fun v σ => match k with
    | .int k => .ok (.ref σ.length) (σ ++ [.dict [(k, v)]])
    | _ => .stuck
  | .comp elt k src cond, ρ, σ => if q then .stuck else (evL F q src ρ σ).bind fun vs σ => (R.lift σ (itemsBy σ k vs)).bind fun it σ =>
      (foldItems it (fun x acc σ => (evC F q cond (ρ ++ [x]) σ).calm.bind fun t σ => if t then (evE F q elt (ρ ++ [x]) σ).calm.bind fun y σ => (if acc.length < LIM then .ok (acc ++ [y]) σ else .stuck) else .ok acc σ) [] σ).bind fun acc σ => .ok (.lst acc) σ
  | .call f args, ρ, σ => (evL F q args ρ σ).bind fun vs σ => F f vs σ
  | .callm f o args, ρ, σ => (evE F q o ρ σ).bind fun o σ => if isInst σ o then (evL F q args ρ σ).bind fun vs σ => F f (o :: vs) σ else .stuck
  | .new, _, σ => (F 0 [.ref σ.length] (σ ++ [.inst []])).bind fun v σ' => match v with
    | .none => .ok (.ref σ.length) σ'
    | _ => .stuck
  | .attr e a, ρ, σ => (evE F q e ρ σ).bind fun o σ => R.lift σ (doAttr σ o a)
  | .sm o a b, ρ, σ => (evE F q a ρ σ).bind fun a σ => if (strOf? a).isSome then (evE F q b ρ σ).bind fun b σ => R.lift σ (ev2 o σ a b) else .stuck
  | .append l x, ρ, σ => (evE F q l ρ σ).bind fun o σ => if isListV σ o then (evE F q x ρ σ).bind fun x σ => doAppend σ o x else .stuck
  | .pop l, ρ, σ => (evE F q l ρ σ).bind fun o σ => doPop σ o
  | .clear l, ρ, σ => (evE F q l ρ σ).bind fun o σ => doClear σ o
  | .trk e, ρ, σ => (evE F q e ρ σ).bind fun v σ => doTrk σ v
noncomputable def evL (F : Calls) (q : Bool) : List CE → List V → Sto → R (List V)
  | [], _, σ => .ok [] σ
  | e :: es, ρ, σ => (evE F q e ρ σ).bind fun v σ => (evL F q es ρ σ).bind fun vs σ => .ok (v :: vs) σ
noncomputable def evO (F : Calls) (q : Bool) : Option CE → List V → Sto → R (Option Int)
  | none, _, σ => .ok none σ
  | some e, ρ, σ => (evE F q e ρ σ).bind fun v σ => match v with
    | .int i => .ok (some i) σ
    | _ => .stuck
noncomputable def evC (F : Calls) (q : Bool) : Option CE → List V → Sto → R Bool
  | none, _, σ => .ok true σ
  | some e, ρ, σ => (evE F q e ρ σ).bind fun v σ => R.lift σ (truthy σ v)
noncomputable def evChain (F : Calls) (q : Bool) : List P2 → List CE → V → List V → Sto → R V
  | [op], [e], a, ρ, σ => if q && loud2 op then .stuck else (evE F q e ρ σ).bind fun b σ => R.lift σ (ev2 op σ a b)
  | op :: ops, e :: es, a, ρ, σ => if q && loud2 op then .stuck else (evE F q e ρ σ).bind fun b σ => (R.lift σ (ev2 op σ a b)).bind fun c σ => (R.lift σ (truthy σ c)).bind fun t σ => if t then evChain F q ops es b ρ σ else .ok c σ
  | _, _, _, _, _ => .stuck
end

noncomputable def whileL (c : List V → Sto → R Bool) (b : List V → Sto → R Fl) : Nat → List V → Sto → R Fl
  | 0, _, _ => .stuck
  | n + 1, ρ, σ => (c ρ σ).bind fun t σ => if t then (b ρ σ).bind fun fl σ => match fl with
      | .next ρ => whileL c b n ρ σ
      | .ret v => .ok (.ret v) σ
    else .ok (.next ρ) σ

/-- like foldIt, but it leaves at a return -/
noncomputable def forIt (it : Items) (f : V → List V → Sto → R Fl) : Nat → Nat → List V → Sto → R Fl
  | 0, _, _, _ => .stuck
  | fuel + 1, i, ρ, σ => match nextIt σ it i with
    | none => .stuck
    | some none => .ok (.next ρ) σ
    | some (some x) => (f x ρ σ).bind fun fl σ => match fl with
      | .next ρ => forIt it f fuel (i + 1) ρ σ
      | .ret v => .ok (.ret v) σ

noncomputable def forItems (it : Items) (f : V → List V → Sto → R Fl) (ρ : List V) (σ : Sto) : R Fl := forIt it f (itFuel σ it) 0 ρ σ

noncomputable def forNow (f : V → List V → Sto → R Fl) : List V → List V → Sto → R Fl
  | [], ρ, σ => .ok (.next ρ) σ
  | x :: xs, ρ, σ => (f x ρ σ).bind fun fl σ => match fl with
    | .next ρ => forNow f xs ρ σ
    | .ret v => .ok (.ret v) σ

/-- the fuel of every while loop -/
noncomputable def wFuel : Nat := 100000

mutual
/-- `q`: an exception is being handled (then nothing may raise); `Fq`: the calls under a handler -/
noncomputable def exS (F Fq : Calls) (q : Bool) : CS → List V → Sto → R Fl
  | .asg i e, ρ, σ => (evE F q e ρ σ).bind fun v σ => .ok (.next (ρ.set i v)) σ
  | .setItem o i v, ρ, σ => (evE F q v ρ σ).bind fun v σ => (evE F q o ρ σ).bind fun o σ => (evE F q i ρ σ).bind fun i σ => (doSetItem σ o i v).bind fun _ σ => .ok (.next ρ) σ
  | .setAttr o a v, ρ, σ => (evE F q v ρ σ).bind fun v σ => (evE F q o ρ σ).bind fun o σ => (doSetAttr σ o a v).bind fun _ σ => .ok (.next ρ) σ
  | .unpack3 i j k e, ρ, σ => if q then .stuck else (evE F q e ρ σ).bind fun v σ => match v with
    | .tup [x, y, z] => .ok (.next (((ρ.set i x).set j y).set k z)) σ
    | _ => .stuck
  | .ite c a b, ρ, σ => (evE F q c ρ σ).bind fun v σ => (R.lift σ (truthy σ v)).bind fun t σ => if t then exL F Fq q a ρ σ else exL F Fq q b ρ σ
  | .for i k src body, ρ, σ => if q then .stuck else (evL F q src ρ σ).bind fun vs σ => (R.lift σ (itemsBy σ k vs)).bind fun it σ =>
      forItems it (fun x ρ σ => (exL F Fq q body (ρ.set i x) σ).calm) ρ σ
  | .while c body, ρ, σ => if q then .stuck else whileL (fun ρ σ => ((evE F q c ρ σ).bind fun v σ => R.lift σ (truthy σ v)).calm) (fun ρ σ => (exL F Fq q body ρ σ).calm) wFuel ρ σ
  | .ret e, ρ, σ => (evE F q e ρ σ).bind fun v σ => .ok (.ret v) σ
  | .exp e, ρ, σ => (evE F q e ρ σ).bind fun _ σ => .ok (.next ρ) σ
  | .raise _, _, _ => .stuck
  | .try b, ρ, σ => if q then .stuck else (exL F Fq q b ρ σ).calm
  | .pass, ρ, σ => .ok (.next ρ) σ
noncomputable def exL (F Fq : Calls) (q : Bool) : List CS → List V → Sto → R Fl
  | [], ρ, σ => .ok (.next ρ) σ
  | s :: ss, ρ, σ => (exS F Fq q s ρ σ).bind fun fl σ => match fl with
    | .next ρ => exL F Fq q ss ρ σ
    | .ret v => .ok (.ret v) σ
end

noncomputable def callFn (T : Nat → Option Fn) : Nat → Bool → Calls
  | 0, _, _, _, _ => .stuck
  | d + 1, q, f, args, σ => match T f with
    | none => .stuck
    | some fn => if args.length = fn.params then
        (exL (callFn T d q) (callFn T d true) q fn.body (args ++ List.replicate (fn.slots - fn.params) .undef) σ).calm.bind fun fl σ => match fl with
          | .ret v => .ok v σ
          | .next _ => .ok .none σ
      else .stuck

end Mine
end

/-! # Comp -/
section
set_option autoImplicit false
namespace Mine
open PySem

structure Ctx where
  fns : List (Str × Nat)
  meths : List (Str × Nat)
  consts : List (Str × V)
  excs : List (Str × Cls)
  attrs : List (Str × Nat)
  book : Bool
  trks : List (Nat × Nat × Nat)

noncomputable def excNames : List (Str × Cls) := [("FlowError", .FlowError), ("NoDeed", .NoDeed), ("NoLines", .NoLines), ("NoItem", .NoItem), ("NoNumber", .NoNumber), ("FullBook", .FullBook), ("NoOrder", .NoOrder), ("SameOrder", .SameOrder), ("NoLine", .NoLine), ("TooMuch", .TooMuch), ("NothingDone", .NothingDone), ("ValueError", .ValueError)]
noncomputable def kindNames : List (Str × Kd) := [("int", .int), ("bool", .bool), ("str", .str), ("list", .list), ("tuple", .tuple)]
noncomputable def kindOf? (C : Ctx) (x : Str) : Option Kd := if (C.fns.lookup x).isSome then none else kindNames.lookup x
noncomputable def attrNames : List (Str × Nat) := [("entries", 0), ("history", 1)]

noncomputable def lastIdx (x : Str) : List Str → Option Nat
  | [] => none
  | y :: ys => match lastIdx x ys with
    | some i => some (i + 1)
    | none => if y == x then some 0 else none

noncomputable def isVar (sc : Scope) (x : Str) : Bool := match sc.names.lookup x with
  | some .local | some .cell | some .free => true
  | _ => false
noncomputable def isGlob (sc : Scope) (x : Str) : Bool := sc.names.lookup x == some .globalImplicit

noncomputable def cmpOf : CmpOp → Option P2
  | .Eq => some .eq | .NotEq => some .ne | .Lt => some .lt | .LtE => some .le | .Gt => some .gt | .GtE => some .ge
  | .In => some .isIn | .NotIn => some .notIn | _ => none
noncomputable def binOf : Operator → Option P2
  | .Add => some .add | .Sub => some .sub | .Mult => some .mul | .FloorDiv => some .fdiv | .Mod => some .mod | .Pow => some .pow | _ => none

noncomputable def b1Names : List (Str × P1) := [("len", .len), ("abs", .abs), ("all", .all), ("int", .toInt), ("list", .toList), ("tuple", .toTup), ("sum", .sum), ("min", .min), ("max", .max), ("str", .toStr)]
noncomputable def b2Names : List (Str × P2) := [("min", .min), ("max", .max)]
noncomputable def m1Names : List (Str × P2) := [("join", .join), ("split", .split), ("partition", .partition)]

noncomputable def trkAt (C : Ctx) (p : Pos) (e : CE) : CE := if C.trks.contains (p.line, p.col, p.endCol) then .trk e else e

noncomputable def foldBool (isAnd : Bool) : List CE → Option CE
  | [] => none
  | [e] => some e
  | e :: es => (foldBool isAnd es).map fun r => if isAnd then .and e r else .or e r

noncomputable def isComp : Expr → Bool
  | .ListComp .. => true
  | _ => false

noncomputable def isStar : Expr → Bool
  | .Starred .. => true
  | _ => false

noncomputable def cName (C : Ctx) (Γ : List Str) (sc : Scope) (x : Str) : Option CE :=
  if x == ("__debug__" : Str) || x == ("__classdict__" : Str) then none else if isVar sc x then (lastIdx x Γ).map .var else if isGlob sc x then (C.consts.lookup x).map .lit else none

/-- no call without arguments of a name: nothing that could be super() -/
noncomputable def noSuper : Expr → Bool
  | .Call (.Name _ _) [] [] _ => false
  | _ => true

noncomputable def dot0 : Str := ".0"
/-- the scope of a comprehension: its variable, and what it reads from around -/
noncomputable def compOk (Γ : List Str) (sc scope : Scope) (x : Str) : Bool :=
  scope.kind == .function && scope.names.lookup x == some .local && !Γ.contains dot0 && x != dot0 &&
    scope.names.all fun p => match p.2 with
      | .cell => false
      | .local => (p.1 == x || p.1 == dot0) && scope.names.lookup p.1 == some .local
      | .free => sc.names.lookup p.1 == some .cell || sc.names.lookup p.1 == some .free
      | _ => true

noncomputable def isNoneC : Expr → Bool
  | .Constant .none _ _ => true
  | _ => false
noncomputable def nameOf? : Expr → Option Str
  | .Name x _ => some x
  | _ => none
theorem isNoneC_eq {e : Expr} (h : isNoneC e = true) : ∃ k p, e = .Constant .none k p := by
  unfold isNoneC at h
  split at h
  · exact ⟨_, _, rfl⟩
  · cases h
theorem nameOf?_eq {e : Expr} {x : Str} (h : nameOf? e = some x) : ∃ p, e = .Name x p := by
  unfold nameOf? at h
  split at h
  · cases h; exact ⟨_, rfl⟩
  · cases h

/-! The compiler goes by steps: `rec` compiles what lies inside. -/
section
variable (C : Ctx) (rec : List Str → Scope → Expr → Option CE)

noncomputable def cL (Γ : List Str) (sc : Scope) : List Expr → Option (List CE)
  | [] => some []
  | e :: es => if isStar e then none else (rec Γ sc e).bind fun a => (cL Γ sc es).map fun as => a :: as

noncomputable def cOpt (Γ : List Str) (sc : Scope) : Option Expr → Option (Option CE)
  | none => some none
  | some e => (rec Γ sc e).map some

noncomputable def cIf (Γ : List Str) (sc : Scope) : List Expr → Option (Option CE)
  | [] => some none
  | [e] => (rec Γ sc e).map some
  | _ => none

noncomputable def cConst : Const → Option CE
  | .none => some (.lit .none)
  | .bool b => some (.lit (.bool b))
  | .int i => some (.lit (.int i))
  | .str s => if s.length ≤ 1000 && PyData.strOk s then some (.lit (.str s)) else none
  | _ => none

noncomputable def cCmp (Γ : List Str) (sc : Scope) (a : Expr) (ops : List CmpOp) (cs : List Expr) : Option CE :=
  if ops.length != cs.length then none else match cs, ops with
    | [b], [op] =>
      if op == .Is && isNoneC b then (rec Γ sc a).map (.p1 .isNone)
      else if op == .IsNot && isNoneC b then (rec Γ sc a).map (.p1 .isNotNone)
      else (cmpOf op).bind fun o => (rec Γ sc a).bind fun x => (rec Γ sc b).map fun y => .p2 o x y
    | cs, ops => (ops.mapM cmpOf).bind fun os => (rec Γ sc a).bind fun x => (cL rec Γ sc cs).map fun ys => .chain x os ys

noncomputable def callParts? : Expr → Option (Expr × List Expr × List Keyword)
  | .Call fn args kws _ => some (fn, args, kws)
  | _ => none

noncomputable def cSrc (Γ : List Str) (sc : Scope) (e : Expr) : Option (SK × List CE) :=
  match callParts? e with
  | some (fn, args, kws) => (match nameOf? fn with
    | some f => if f == ("range" : Str) then (if isGlob sc f && kws.isEmpty then (cL rec Γ sc args).bind fun es => (match es with
        | [a] => some (.range1, [a])
        | [a, b] => some (.range2, [a, b])
        | _ => none) else none)
      else (rec Γ sc e).map fun a => (.val, [a])
    | none => (rec Γ sc e).map fun a => (.val, [a]))
  | none => (rec Γ sc e).map fun a => (.val, [a])

noncomputable def cComp (Γ : List Str) (sc : Scope) (elt : Expr) (gens : List Comprehension) (scope : Scope) : Option CE :=
  match gens with
  | [g] => (nameOf? g.target).bind fun x =>
      if g.is_async != 0 || !compOk Γ sc scope x then none else (cSrc rec Γ sc g.iter).bind fun s => (cIf rec (Γ ++ [x]) scope g.ifs).bind fun c => (rec (Γ ++ [x]) scope elt).map fun e => .comp e s.1 s.2 c
  | _ => none

noncomputable def sliceParts? : Expr → Option (Option Expr × Option Expr)
  | .Slice lo hi none _ => some (lo, hi)
  | _ => none

noncomputable def cSub (Γ : List Str) (sc : Scope) (o i : Expr) (pos : Pos) : Option CE :=
  match sliceParts? i with
  | some (lo, hi) => (rec Γ sc o).bind fun a => (cOpt rec Γ sc lo).bind fun l => (cOpt rec Γ sc hi).map fun h => trkAt C pos (.slice a l h)
  | none => (rec Γ sc o).bind fun a => (rec Γ sc i).map fun b => .p2 .index a b

noncomputable def attrParts? : Expr → Option (Expr × Str × Pos)
  | .Attribute o m p => some (o, m, p)
  | _ => none

noncomputable def cMeth (Γ : List Str) (sc : Scope) (o : Expr) (m : Str) (apos : Pos) (args : List Expr) (pos : Pos) : Option CE :=
  if !noSuper o || apos.endLine != pos.line then none else match args with
    | [x] => if isStar x then none else if m == ("append" : Str) then (rec Γ sc o).bind fun a => (rec Γ sc x).map fun b => .append a b
      else (m1Names.lookup m).bind fun p => (rec Γ sc o).bind fun a => (rec Γ sc x).map fun b => .sm p a b
    | _ => none

noncomputable def cIsinst (Γ : List Str) (sc : Scope) (args : List Expr) : Option CE :=
  match args with
  | [x, k] => if isStar x then none else (nameOf? k).bind fun kn => if isGlob sc kn then (kindOf? C kn).bind fun kd => (rec Γ sc x).map fun a => .p1 (.isInst kd) a else none
  | _ => none

noncomputable def cFun (Γ : List Str) (sc : Scope) (f : Str) (args : List Expr) (pos : Pos) : Option CE :=
  if !isGlob sc f then none
  else if f == ("isinstance" : Str) then cIsinst C rec Γ sc args
  else (cL rec Γ sc args).bind fun es => match C.fns.lookup f with
    | some n => some (.call n es)
    | none => (match es with
      | [a] => (b1Names.lookup f).map fun o => if f == ("list" : Str) then trkAt C pos (.p1 o a) else .p1 o a
      | [a, b] => (b2Names.lookup f).map fun o => .p2 o a b
      | _ => none)

noncomputable def cCall (Γ : List Str) (sc : Scope) (fn : Expr) (args : List Expr) (kws : List Keyword) (pos : Pos) : Option CE :=
  if !kws.isEmpty || 20 < args.length then none else match attrParts? fn with
    | some (o, m, apos) => cMeth rec Γ sc o m apos args pos
    | none => (nameOf? fn).bind fun f => cFun C rec Γ sc f args pos

noncomputable def stepE (Γ : List Str) (sc : Scope) : Expr → Option CE
  | .Constant k _ _ => cConst k
  | .Name x _ => cName C Γ sc x
  | .BoolOp op vs _ => (cL rec Γ sc vs).bind fun es => foldBool (op == .And) es
  | .BinOp l op r pos => (binOf op).bind fun o => (rec Γ sc l).bind fun a => (rec Γ sc r).map fun b => trkAt C pos (.p2 o a b)
  | .UnaryOp .Not x _ => (rec Γ sc x).map (.p1 .not)
  | .UnaryOp .USub x _ => (rec Γ sc x).map (.p1 .neg)
  | .Compare a ops cs _ => cCmp rec Γ sc a ops cs
  | .List es pos => if es.length ≤ 1000 then (cL rec Γ sc es).map fun es => trkAt C pos (.list es) else none
  | .Tuple es _ _ => if es.length ≤ 1000 then (cL rec Γ sc es).map .tup else none
  | .ListComp elt gens scope pos => (cComp rec Γ sc elt gens scope).map fun e => trkAt C pos e
  | .Subscript o i pos => cSub C rec Γ sc o i pos
  | .Call fn args kws pos => cCall C rec Γ sc fn args kws pos
  | _ => none
end

noncomputable def cE (C : Ctx) : Nat → List Str → Scope → Expr → Option CE
  | 0 => fun _ _ _ => none
  | n + 1 => stepE C (cE C n)

/-- how deep an expression, a statement may be -/
noncomputable def deep : Nat := 30

theorem callParts?_eq {e fn : Expr} {args : List Expr} {kws : List Keyword} (h : callParts? e = some (fn, args, kws)) : ∃ p, e = .Call fn args kws p := by
  unfold callParts? at h
  split at h
  · cases h; exact ⟨_, rfl⟩
  · cases h
theorem sliceParts?_eq {e : Expr} {lo hi : Option Expr} (h : sliceParts? e = some (lo, hi)) : ∃ p, e = .Slice lo hi none p := by
  unfold sliceParts? at h
  split at h
  · cases h; exact ⟨_, rfl⟩
  · cases h
theorem attrParts?_eq {e o : Expr} {m : Str} {p : Pos} (h : attrParts? e = some (o, m, p)) : e = .Attribute o m p := by
  unfold attrParts? at h
  split at h
  · cases h; rfl
  · cases h
noncomputable def slotOf (Γ : List Str) (sc : Scope) (x : Str) : Option Nat := if sc.names.lookup x == some .local || sc.names.lookup x == some .cell then lastIdx x Γ else none

section
variable (C : Ctx) (Γ : List Str) (sc : Scope) (rec : Stmt → Option CS)

noncomputable def cSLs : List Stmt → Option (List CS)
  | [] => some []
  | s :: ss => (rec s).bind fun a => (cSLs ss).map fun as => a :: as

noncomputable def subParts? : Expr → Option (Expr × Expr)
  | .Subscript o i _ => some (o, i)
  | _ => none

theorem subParts?_eq {e : Expr} {p : Expr × Expr} (h : subParts? e = some p) : ∃ q, e = .Subscript p.1 p.2 q := by
  unfold subParts? at h
  split at h
  · cases h; exact ⟨_, rfl⟩
  · cases h

noncomputable def tup3? : Expr → Option (Str × Str × Str)
  | .Tuple [a, b, c] _ _ => (nameOf? a).bind fun x => (nameOf? b).bind fun y => (nameOf? c).map fun z => (x, y, z)
  | _ => none

noncomputable def cAsg3 (t e : Expr) : Option CS := (tup3? t).bind fun p => if (callParts? e).isNone then none else (slotOf Γ sc p.1).bind fun i => (slotOf Γ sc p.2.1).bind fun j => (slotOf Γ sc p.2.2).bind fun k => (cE C deep Γ sc e).map fun c => .unpack3 i j k c

noncomputable def cAsg (t e : Expr) : Option CS :=
  match nameOf? t with
  | some x => (slotOf Γ sc x).bind fun i => (cE C deep Γ sc e).map (.asg i)
  | none => (match subParts? t with
    | some p => if isComp e then none else (cE C deep Γ sc e).bind fun v => (cE C deep Γ sc p.1).bind fun a => (cE C deep Γ sc p.2).map fun b => .setItem a b v
    | none => cAsg3 C Γ sc t e)

noncomputable def stepS : Stmt → Option CS
  | .Return (some e) _ => (cE C deep Γ sc e).map .ret
  | .Assign [t] e _ => cAsg C Γ sc t e
  | .If t a b _ => (cE C deep Γ sc t).bind fun t => (cSLs rec a).bind fun a => (cSLs rec b).map fun b => .ite t a b
  | .For x iter body [] _ => (nameOf? x).bind fun x => (slotOf Γ sc x).bind fun i => (cSrc (cE C deep) Γ sc iter).bind fun s => (cSLs rec body).map fun b => .for i s.1 s.2 b
  | .While t body [] _ => (cE C deep Γ sc t).bind fun t => (cSLs rec body).map fun b => .while t b
  | .Expr e _ => if isComp e then none else (cE C deep Γ sc e).map .exp
  | .Pass _ => some .pass
  | .Raise _ _ _ => some (.raise .ValueError)
  | .Try body (_ :: _) [] [] _ => (cSLs rec body).map .try
  | _ => none
end

noncomputable def cS (C : Ctx) (Γ : List Str) (sc : Scope) : Nat → Stmt → Option CS
  | 0 => fun _ => none
  | n + 1 => stepS C Γ sc (cS C Γ sc n)

noncomputable def cSL (C : Ctx) (Γ : List Str) (sc : Scope) : List Stmt → Option (List CS) := cSLs (cS C Γ sc deep)

/-- the slots of a def: its parameters, then its other names -/
noncomputable def slotsOf (params : List Str) (sc : Scope) : List Str :=
  params ++ (sc.names.filter fun p => (p.2 == .local || p.2 == .cell) && !params.contains p.1).map (·.1)

end Mine
end

/-! # Plain -/
section
set_option autoImplicit false
namespace Mine
open PySem

/-! ## loops of the core, in plain Lean -/

/-- what a source gives, turn by turn -/
noncomputable def Gives (σ : Sto) (it : Items) (xs : List V) : Prop := it = .now xs ∨ ∃ n, it = .live n ∧ σ[n]? = some (.list xs)

theorem Gives.next {σ : Sto} {it : Items} {xs : List V} (h : Gives σ it xs) (i : Nat) : nextIt σ it i = some xs[i]? := by
  rcases h with rfl | ⟨n, rfl, h⟩
  · rfl
  · simp [nextIt, h]
theorem Gives.fuel {σ : Sto} {it : Items} {xs : List V} (h : Gives σ it xs) : itFuel σ it = xs.length + 1 := by
  rcases h with rfl | ⟨n, rfl, h⟩
  · rfl
  · simp [itFuel, h]

theorem fold_same {β : Type} {it : Items} {f : V → β → Sto → R β} {xs : List V} {σ : Sto} (g : Nat → β) (hit : Gives σ it xs)
    (h : ∀ i x, xs[i]? = some x → f x (g i) σ = .ok (g (i + 1)) σ) : foldItems it f (g 0) σ = .ok (g xs.length) σ := by
  have key : ∀ k i, k + i = xs.length → foldIt it f (k + 1) i (g i) σ = .ok (g xs.length) σ := by
    intro k
    induction k with
    | zero =>
      intro i hi
      obtain rfl : i = xs.length := by omega
      simp [foldIt, hit.next]
    | succ k ih =>
      intro i hi
      have hlt : i < xs.length := by omega
      rw [foldIt, hit.next, List.getElem?_eq_getElem hlt]
      simp only
      rw [h i _ (List.getElem?_eq_getElem hlt)]
      exact ih (i + 1) (by omega)
  have := key xs.length 0 rfl
  rw [foldItems, hit.fuel]
  exact this

theorem R.calm_ok {α : Type} {a : α} {σ : Sto} : (R.ok a σ).calm = .ok a σ := rfl

theorem evE_comp {F : Calls} {elt : CE} {k : SK} {src : List CE} {cond : Option CE} {ρ vs : List V} {σ σ₁ : Sto} {it : Items} {α : Type} {l : List α} {φ : α → V}
    (p : α → Bool) (g : α → V) (hsrc : evL F false src ρ σ = .ok vs σ₁) (hit : itemsBy σ₁ k vs = some it) (hg : Gives σ₁ it (l.map φ)) (hl : l.length < LIM)
    (hc : ∀ x ∈ l, evC F false cond (ρ ++ [φ x]) σ₁ = .ok (p x) σ₁) (he : ∀ x ∈ l, p x = true → evE F false elt (ρ ++ [φ x]) σ₁ = .ok (g x) σ₁) :
    evE F false (.comp elt k src cond) ρ σ = .ok (.lst ((l.filter p).map g)) σ₁ := by
  show ((evL F false src ρ σ).bind fun vs σ => (R.lift σ (itemsBy σ k vs)).bind fun it σ =>
      (foldItems it (fun x acc σ => (evC F false cond (ρ ++ [x]) σ).calm.bind fun t σ => if t then (evE F false elt (ρ ++ [x]) σ).calm.bind fun y σ => (if acc.length < LIM then .ok (acc ++ [y]) σ else .stuck) else .ok acc σ) [] σ).bind fun acc σ => R.ok (V.lst acc) σ) = _
  simp only [hsrc, R.bind_ok, hit, R.lift_some]
  have := fold_same (f := fun x acc σ => (evC F false cond (ρ ++ [x]) σ).calm.bind fun t σ => if t then (evE F false elt (ρ ++ [x]) σ).calm.bind fun y σ => (if acc.length < LIM then .ok (acc ++ [y]) σ else .stuck) else .ok acc σ)
    (fun i => ((l.take i).filter p).map g) hg (fun i x hx => by
      rw [List.getElem?_map] at hx
      cases hi : l[i]? with
      | none => rw [hi] at hx; cases hx
      | some a =>
        rw [hi] at hx
        obtain rfl : φ a = x := by simpa using hx
        have ha : a ∈ l := List.mem_of_getElem? hi
        have hlt : i < l.length := (List.getElem?_eq_some_iff.mp hi).1
        have ht : l.take (i + 1) = l.take i ++ [a] := by rw [List.take_add_one, hi]; rfl
        simp only [hc a ha, R.calm_ok, R.bind_ok, ht, List.filter_append, List.map_append]
        cases hp : p a with
        | false => simp [hp]
        | true =>
          have hle : (((l.take i).filter p).map g).length < LIM := by
            have := List.length_filter_le p (l.take i)
            rw [List.length_map]
            have := List.length_take_le i l
            omega
          simp [he a ha hp, R.calm_ok, hp, List.length_map] at hle ⊢
          exact hle)
  simp only [List.take_zero, List.filter_nil, List.map_nil, List.length_map, List.take_length] at this
  rw [this]
  rfl

theorem for_inv {it : Items} {f : V → List V → Sto → R Fl} {xs : List V} {ρ : List V} {σ : Sto} (I : Nat → List V → Sto → Prop) (hit : ∀ i ρ σ, I i ρ σ → Gives σ it xs) (h0 : I 0 ρ σ)
    (hs : ∀ i x ρ σ, xs[i]? = some x → I i ρ σ → ∃ ρ' σ', f x ρ σ = .ok (.next ρ') σ' ∧ I (i + 1) ρ' σ') :
    ∃ ρ' σ', forItems it f ρ σ = .ok (.next ρ') σ' ∧ I xs.length ρ' σ' := by
  have key : ∀ k i ρ σ, k + i = xs.length → I i ρ σ → ∃ ρ' σ', forIt it f (k + 1) i ρ σ = .ok (.next ρ') σ' ∧ I xs.length ρ' σ' := by
    intro k
    induction k with
    | zero =>
      intro i ρ σ hi h
      obtain rfl : i = xs.length := by omega
      exact ⟨ρ, σ, by simp [forIt, (hit _ _ _ h).next], h⟩
    | succ k ih =>
      intro i ρ σ hi h
      have hlt : i < xs.length := by omega
      obtain ⟨ρ', σ', e, h'⟩ := hs i _ ρ σ (List.getElem?_eq_getElem hlt) h
      obtain ⟨ρ'', σ'', e', h''⟩ := ih (i + 1) ρ' σ' (by omega) h'
      refine ⟨ρ'', σ'', ?_, h''⟩
      rw [forIt, (hit _ _ _ h).next, List.getElem?_eq_getElem hlt]
      simp only [e, R.bind_ok]
      exact e'
  rw [forItems, (hit _ _ _ h0).fuel]
  exact key xs.length 0 ρ σ rfl h0

theorem while_inv {c : List V → Sto → R Bool} {b : List V → Sto → R Fl} {P : List V → Sto → Prop} (I : Nat → List V → Sto → Prop)
    (hs : ∀ m ρ σ, I m ρ σ → (c ρ σ = .ok false σ ∧ P ρ σ) ∨ (c ρ σ = .ok true σ ∧ ∃ m' ρ' σ', m' < m ∧ b ρ σ = .ok (.next ρ') σ' ∧ I m' ρ' σ')) :
    ∀ fuel m ρ σ, I m ρ σ → m < fuel → ∃ ρ' σ', whileL c b fuel ρ σ = .ok (.next ρ') σ' ∧ P ρ' σ' := by
  intro fuel
  induction fuel with
  | zero => intro m ρ σ _ h; omega
  | succ k ih =>
    intro m ρ σ h hm
    rcases hs m ρ σ h with ⟨e, p⟩ | ⟨e, m', ρ', σ', hlt, e', h'⟩
    · exact ⟨ρ, σ, by simp [whileL, e], p⟩
    · obtain ⟨ρ'', σ'', e'', p⟩ := ih m' ρ' σ' h' (by omega)
      exact ⟨ρ'', σ'', by rw [whileL, e]; simp [e', e''], p⟩


/-! ## operations, by their operands -/
section
variable (σ : Sto)
@[simp] theorem ev2_add (x y : Int) : ev2 .add σ (.int x) (.int y) = some (.int (x + y)) := rfl
@[simp] theorem ev2_sub (x y : Int) : ev2 .sub σ (.int x) (.int y) = some (.int (x - y)) := rfl
@[simp] theorem ev2_lt (x y : Int) : ev2 .lt σ (.int x) (.int y) = some (.bool (x < y)) := rfl
@[simp] theorem ev2_le (x y : Int) : ev2 .le σ (.int x) (.int y) = some (.bool (x ≤ y)) := rfl
@[simp] theorem ev2_gt (x y : Int) : ev2 .gt σ (.int x) (.int y) = some (.bool (x > y)) := rfl
@[simp] theorem ev2_ge (x y : Int) : ev2 .ge σ (.int x) (.int y) = some (.bool (x ≥ y)) := rfl
@[simp] theorem ev2_min (x y : Int) : ev2 .min σ (.int x) (.int y) = some (.int (if y < x then y else x)) := rfl
@[simp] theorem ev2_max (x y : Int) : ev2 .max σ (.int x) (.int y) = some (.int (if y > x then y else x)) := rfl
theorem ev2_pow (y : Nat) (h : y ≤ 40) : ev2 .pow σ (.int 10) (.int y) = some (.int (10 ^ y)) := by
  show (if ((10 : Int) == 10 && decide (0 ≤ (y : Int)) && decide ((y : Int) ≤ 40)) = true then some (V.int (10 ^ (y : Int).toNat)) else none) = _
  rw [if_pos (by simp; omega), Int.toNat_natCast]
theorem ev2_mul (x y : Int) (h : smallFactor x = true ∨ smallFactor y = true) : ev2 .mul σ (.int x) (.int y) = some (.int (x * y)) := by
  show (if (smallFactor x || smallFactor y) = true then some (V.int (x * y)) else none) = _
  rw [← Bool.or_eq_true] at h; rw [if_pos h]
theorem ev2_fdiv (x y : Int) (h : (y == 0 || decide (1073741824 ≤ y.natAbs)) = false) : ev2 .fdiv σ (.int x) (.int y) = some (.int (x.fdiv y)) := by
  show (if (y == 0 || decide (1073741824 ≤ y.natAbs)) = true then none else some (V.int (x.fdiv y))) = _
  rw [h]; rfl
theorem ev2_mod (x y : Int) (h : (y == 0) = false) : ev2 .mod σ (.int x) (.int y) = some (.int (x.fmod y)) := by
  show (if (y == 0) = true then none else some (V.int (x.fmod y))) = _
  rw [h]; rfl
@[simp] theorem eqV_int (a b : Int) : eqV σ (.int a) (.int b) = some (a == b) := rfl
@[simp] theorem ev2_eq (x y : Int) : ev2 .eq σ (.int x) (.int y) = some (.bool (x == y)) := rfl
@[simp] theorem ev2_ne (x y : Int) : ev2 .ne σ (.int x) (.int y) = some (.bool (x != y)) := rfl
@[simp] theorem ev1_neg (x : Int) : ev1 .neg σ (.int x) = some (.int (-x)) := rfl
@[simp] theorem ev1_abs (x : Int) : ev1 .abs σ (.int x) = some (.int x.natAbs) := rfl
@[simp] theorem ev1_len_lst (xs : List V) : ev1 .len σ (.lst xs) = some (.int xs.length) := rfl
@[simp] theorem ev1_len_tup (xs : List V) : ev1 .len σ (.tup xs) = some (.int xs.length) := rfl
theorem ev1_len_ref {n : Nat} {xs : List V} (h : σ[n]? = some (.list xs)) : ev1 .len σ (.ref n) = some (.int xs.length) := by
  show (match σ[n]? with | some (.list xs) => some (V.int xs.length) | _ => none) = _
  rw [h]
@[simp] theorem ev1_not_bool (b : Bool) : ev1 .not σ (.bool b) = some (.bool !b) := rfl
@[simp] theorem ev1_toList_lst (xs : List V) : ev1 .toList σ (.lst xs) = some (.lst xs) := rfl
@[simp] theorem ev1_toList_tup (xs : List V) : ev1 .toList σ (.tup xs) = some (.lst xs) := rfl
@[simp] theorem ev1_len_str (x : Str) : ev1 .len σ (.str x) = some (.int x.length) := rfl
@[simp] theorem instK_ss (x : Str) : instK σ .str (.str x) = some true := rfl
@[simp] theorem instK_si (i : Int) : instK σ .str (.int i) = some false := rfl
@[simp] theorem strOf_str (x : Str) : strOf? (.str x) = some x := rfl
@[simp] theorem truthy_bool (b : Bool) : truthy σ (.bool b) = some b := rfl
@[simp] theorem truthy_int (b : Int) : truthy σ (.int b) = some (b != 0) := rfl

noncomputable def iv (l : List Int) : List V := l.map V.int
@[simp] theorem iv_len (l : List Int) : (iv l).length = l.length := by simp [iv]
/-- an item of a list of ints -/
noncomputable def gI (l : List Int) (k : Nat) : Int := l.getD k 0

theorem ints_iv (l : List Int) : ints? (iv l) = some l := by
  induction l with
  | nil => rfl
  | cons x l ih =>
    simp only [ints?, iv, List.map_cons, List.mapM_cons] at ih ⊢
    simp [ih, intOf?]
@[simp] theorem ev1_sum_lst (l : List Int) : ev1 .sum σ (.lst (iv l)) = some (.int l.sum) := by
  show (ints? (iv l)).map (fun l => V.int l.sum) = _
  rw [ints_iv]; rfl

theorem normIndex_at {n i : Nat} (h : i < n) : normIndex n (i : Int) = some i := by
  unfold normIndex
  rw [if_pos (Int.natCast_nonneg i), Int.toNat_natCast, if_pos h]
theorem index_lst' {l : List V} {i : Nat} {v : V} (h : l[i]? = some v) : ev2 .index σ (.lst l) (.int i) = some v := by
  show ((normIndex l.length i).bind fun k => l[k]?) = some v
  rw [normIndex_at (List.getElem?_eq_some_iff.mp h).1]; exact h
theorem index_tup {l : List V} {i : Nat} {v : V} (h : l[i]? = some v) : ev2 .index σ (.tup l) (.int i) = some v := by
  show ((normIndex l.length i).bind fun k => l[k]?) = some v
  rw [normIndex_at (List.getElem?_eq_some_iff.mp h).1]; exact h
theorem index_ref' {l : List V} {i n : Nat} {v : V} (hn : σ[n]? = some (.list l)) (h : l[i]? = some v) : ev2 .index σ (.ref n) (.int i) = some v := by
  show (match σ[n]? with | some (.list xs) => (normIndex xs.length i).bind fun k => xs[k]? | some (.dict es) => (es.find? fun p => p.1 == (i : Int)).map fun p => p.2 | _ => none) = some v
  rw [hn]
  show ((normIndex l.length i).bind fun k => l[k]?) = some v
  rw [normIndex_at (List.getElem?_eq_some_iff.mp h).1]; exact h
theorem iv_get {l : List Int} {i : Nat} (h : i < l.length) : (iv l)[i]? = some (.int (gI l i)) := by simp [iv, gI, h]
theorem index_lst {l : List Int} {i : Nat} (h : i < l.length) : ev2 .index σ (.lst (iv l)) (.int i) = some (.int (gI l i)) := index_lst' σ (iv_get h)
theorem index_ref {l : List Int} {i n : Nat} (hn : σ[n]? = some (.list (iv l))) (h : i < l.length) : ev2 .index σ (.ref n) (.int i) = some (.int (gI l i)) := index_ref' σ hn (iv_get h)
theorem itemsBy_range1 {n : Int} (h : n.natAbs ≤ LIM) : itemsBy σ .range1 [.int n] = some (.now (rangeL 0 n)) := by
  show (if n.natAbs ≤ LIM then some (Items.now (rangeL 0 n)) else none) = _
  rw [if_pos h]
theorem itemsBy_lst {xs : List V} : itemsBy σ .val [.lst xs] = some (.now xs) := rfl
theorem itemsBy_tup {xs : List V} : itemsBy σ .val [.tup xs] = some (.now xs) := rfl
theorem itemsBy_ref {n : Nat} {xs : List V} (h : σ[n]? = some (.list xs)) : itemsBy σ .val [.ref n] = some (.live n) := by
  show refItems n σ[n]? = _
  rw [h]; rfl
@[simp] theorem ev1_isInst (k : Kd) (v : V) : ev1 (.isInst k) σ v = (instK σ k v).map .bool := rfl
@[simp] theorem instK_ii (i : Int) : instK σ .int (.int i) = some true := rfl
@[simp] theorem instK_bi (i : Int) : instK σ .bool (.int i) = some false := rfl
@[simp] theorem instK_tt (xs : List V) : instK σ .tuple (.tup xs) = some true := rfl
@[simp] theorem instK_ll (xs : List V) : instK σ .list (.lst xs) = some true := rfl
theorem instK_lr {n : Nat} {xs : List V} (h : σ[n]? = some (.list xs)) : instK σ .list (.ref n) = some true := by
  show refK σ[n]? .list = _
  rw [h]; rfl
theorem setItem_at {n i : Nat} {xs : List V} {v : V} (hn : σ[n]? = some (.list xs)) (h : i < xs.length) : doSetItem σ (.ref n) (.int i) v = .ok () (σ.set n (.list (xs.set i v))) := by
  show (match σ[n]? with | some (.list xs) => if 0 ≤ (i : Int) ∧ (i : Int).toNat < xs.length then R.ok () (σ.set n (.list (xs.set (i : Int).toNat v))) else .stuck | _ => .stuck) = _
  rw [hn]
  show (if 0 ≤ (i : Int) ∧ (i : Int).toNat < xs.length then R.ok () (σ.set n (.list (xs.set (i : Int).toNat v))) else .stuck) = _
  rw [if_pos ⟨Int.natCast_nonneg i, by rwa [Int.toNat_natCast]⟩, Int.toNat_natCast]
theorem append_at {n : Nat} {xs : List V} {x : V} (hn : σ[n]? = some (.list xs)) (h : xs.length < LIM) : doAppend σ (.ref n) x = .ok .none (σ.set n (.list (xs ++ [x]))) := by
  show (match σ[n]? with | some (.list xs) => if xs.length < LIM then R.ok V.none (σ.set n (.list (xs ++ [x]))) else .stuck | _ => .stuck) = _
  rw [hn]
  show (if xs.length < LIM then R.ok V.none (σ.set n (.list (xs ++ [x]))) else .stuck) = _
  rw [if_pos h]
@[simp] theorem index_t0 (a : V) (l : List V) : ev2 .index σ (.tup (a :: l)) (.int 0) = some a := index_tup σ (i := 0) rfl
@[simp] theorem index_t1 (a b : V) (l : List V) : ev2 .index σ (.tup (a :: b :: l)) (.int 1) = some b := index_tup σ (i := 1) rfl
@[simp] theorem index_t2 (a b c : V) (l : List V) : ev2 .index σ (.tup (a :: b :: c :: l)) (.int 2) = some c := index_tup σ (i := 2) rfl
end

theorem call_ok {T : Nat → Option Fn} {d : Nat} {q : Bool} {f : Nat} {fn : Fn} {args : List V} {σ σ' : Sto} {v : V} (hT : T f = some fn) (hl : args.length = fn.params)
    (h : exL (callFn T d q) (callFn T d true) q fn.body (args ++ List.replicate (fn.slots - fn.params) .undef) σ = .ok (.ret v) σ') : callFn T (d + 1) q f args σ = .ok v σ' := by
  rw [callFn, hT]; simp only [hl, if_true, h]; rfl


/-! ## one step of the evaluator, by form (comprehensions and loops are left alone) -/
section
variable (F Fq : Calls) (q : Bool) (ρ : List V) (σ : Sto)
@[simp] theorem x_lit (v : V) : evE F q (.lit v) ρ σ = .ok v σ := id rfl
@[simp] theorem x_var (i : Nat) : evE F q (.var i) ρ σ = R.lift σ (readVar ρ i) := id rfl
@[simp] theorem x_p1 (o : P1) (a : CE) : evE F q (.p1 o a) ρ σ = if q && loud1 o then .stuck else (evE F q a ρ σ).bind fun a σ => R.lift σ (ev1 o σ a) := id rfl
@[simp] theorem x_p2 (o : P2) (a b : CE) : evE F q (.p2 o a b) ρ σ = if q && loud2 o then .stuck else (evE F q a ρ σ).bind fun a σ => (evE F q b ρ σ).bind fun b σ => R.lift σ (ev2 o σ a b) := id rfl
@[simp] theorem x_chain (a : CE) (ops : List P2) (es : List CE) : evE F q (.chain a ops es) ρ σ = (evE F q a ρ σ).bind fun a σ => evChain F q ops es a ρ σ := id rfl
@[simp] theorem x_slice (a : CE) (lo hi : Option CE) : evE F q (.slice a lo hi) ρ σ = (evE F q a ρ σ).bind fun a σ => (evO F q lo ρ σ).bind fun lo σ => (evO F q hi ρ σ).bind fun hi σ => R.lift σ (evSlice σ a lo hi) := id rfl
@[simp] theorem x_and (a b : CE) : evE F q (.and a b) ρ σ = (evE F q a ρ σ).bind fun a σ => (R.lift σ (truthy σ a)).bind fun t σ => if t then evE F q b ρ σ else .ok a σ := id rfl
@[simp] theorem x_or (a b : CE) : evE F q (.or a b) ρ σ = (evE F q a ρ σ).bind fun a σ => (R.lift σ (truthy σ a)).bind fun t σ => if t then .ok a σ else evE F q b ρ σ := id rfl
@[simp] theorem x_tup (es : List CE) : evE F q (.tup es) ρ σ = (evL F q es ρ σ).bind fun vs σ => .ok (.tup vs) σ := id rfl
@[simp] theorem x_list (es : List CE) : evE F q (.list es) ρ σ = (evL F q es ρ σ).bind fun vs σ => .ok (.lst vs) σ := id rfl
@[simp] theorem x_call (f : Nat) (args : List CE) : evE F q (.call f args) ρ σ = (evL F q args ρ σ).bind fun vs σ => F f vs σ := id rfl
@[simp] theorem x_sm (o : P2) (a b : CE) : evE F q (.sm o a b) ρ σ = (evE F q a ρ σ).bind fun a σ => if (strOf? a).isSome then (evE F q b ρ σ).bind fun b σ => R.lift σ (ev2 o σ a b) else .stuck := id rfl
@[simp] theorem x_append (l x : CE) : evE F q (.append l x) ρ σ = (evE F q l ρ σ).bind fun o σ => if isListV σ o then (evE F q x ρ σ).bind fun x σ => doAppend σ o x else .stuck := id rfl
@[simp] theorem x_trk (e : CE) : evE F q (.trk e) ρ σ = (evE F q e ρ σ).bind fun v σ => doTrk σ v := id rfl
@[simp] theorem x_nil : evL F q [] ρ σ = .ok [] σ := id rfl
@[simp] theorem x_cons (e : CE) (es : List CE) : evL F q (e :: es) ρ σ = (evE F q e ρ σ).bind fun v σ => (evL F q es ρ σ).bind fun vs σ => .ok (v :: vs) σ := id rfl
@[simp] theorem x_onone : evO F q none ρ σ = .ok none σ := id rfl
@[simp] theorem x_osome (e : CE) : evO F q (some e) ρ σ = (evE F q e ρ σ).bind fun v σ => match v with | .int i => .ok (some i) σ | _ => .stuck := id rfl
@[simp] theorem x_cnone : evC F q none ρ σ = .ok true σ := id rfl
@[simp] theorem x_csome (e : CE) : evC F q (some e) ρ σ = (evE F q e ρ σ).bind fun v σ => R.lift σ (truthy σ v) := id rfl
@[simp] theorem x_asg (i : Nat) (e : CE) : exS F Fq q (.asg i e) ρ σ = (evE F q e ρ σ).bind fun v σ => .ok (.next (ρ.set i v)) σ := id rfl
@[simp] theorem x_setItem (o i v : CE) : exS F Fq q (.setItem o i v) ρ σ = (evE F q v ρ σ).bind fun v σ => (evE F q o ρ σ).bind fun o σ => (evE F q i ρ σ).bind fun i σ => (doSetItem σ o i v).bind fun _ σ => .ok (.next ρ) σ := id rfl
@[simp] theorem x_ite (c : CE) (a b : List CS) : exS F Fq q (.ite c a b) ρ σ = (evE F q c ρ σ).bind fun v σ => (R.lift σ (truthy σ v)).bind fun t σ => if t then exL F Fq q a ρ σ else exL F Fq q b ρ σ := id rfl
@[simp] theorem x_ret (e : CE) : exS F Fq q (.ret e) ρ σ = (evE F q e ρ σ).bind fun v σ => .ok (.ret v) σ := id rfl
@[simp] theorem x_exp (e : CE) : exS F Fq q (.exp e) ρ σ = (evE F q e ρ σ).bind fun _ σ => .ok (.next ρ) σ := id rfl
@[simp] theorem x_unpack3 (i j k : Nat) (e : CE) : exS F Fq q (.unpack3 i j k e) ρ σ = if q then .stuck else (evE F q e ρ σ).bind fun v σ => match v with
    | .tup [x, y, z] => .ok (.next (((ρ.set i x).set j y).set k z)) σ
    | _ => .stuck := id rfl
@[simp] theorem x_try (b : List CS) : exS F Fq q (.try b) ρ σ = if q then .stuck else (exL F Fq q b ρ σ).calm := id rfl
@[simp] theorem x_pass : exS F Fq q .pass ρ σ = .ok (.next ρ) σ := id rfl
@[simp] theorem x_lnil : exL F Fq q [] ρ σ = .ok (.next ρ) σ := id rfl
@[simp] theorem x_lcons (s : CS) (ss : List CS) : exL F Fq q (s :: ss) ρ σ = (exS F Fq q s ρ σ).bind fun fl σ => match fl with | .next ρ => exL F Fq q ss ρ σ | .ret v => .ok (.ret v) σ := id rfl
end


/-! ## a loop, then the rest -/
theorem for_then {F Fq : Calls} {i : Nat} {k : SK} {src : List CE} {body : List CS} {ρ vs : List V} {σ σ₁ : Sto} {it : Items} {xs : List V} {γ : Type} {K : Fl → Sto → R γ} {t : R γ} (I : Nat → List V → Sto → Prop)
    (hsrc : evL F false src ρ σ = .ok vs σ₁) (hit : itemsBy σ₁ k vs = some it) (hI : ∀ j ρ σ, I j ρ σ → Gives σ it xs) (h0 : I 0 ρ σ₁)
    (hs : ∀ j x ρ σ, xs[j]? = some x → I j ρ σ → ∃ ρ' σ', exL F Fq false body (ρ.set i x) σ = .ok (.next ρ') σ' ∧ I (j + 1) ρ' σ')
    (hK : ∀ ρ' σ', I xs.length ρ' σ' → K (.next ρ') σ' = t) : (exS F Fq false (.for i k src body) ρ σ).bind K = t := by
  show ((evL F false src ρ σ).bind fun vs σ => (R.lift σ (itemsBy σ k vs)).bind fun it σ => forItems it (fun x ρ σ => (exL F Fq false body (ρ.set i x) σ).calm) ρ σ).bind K = t
  simp only [hsrc, R.bind_ok, hit, R.lift_some]
  obtain ⟨ρ', σ', e, h⟩ := for_inv (it := it) (f := fun x ρ σ => (exL F Fq false body (ρ.set i x) σ).calm) I hI h0 (fun j x ρ σ hx h => by
    obtain ⟨ρ', σ', e, h'⟩ := hs j x ρ σ hx h
    exact ⟨ρ', σ', by rw [e]; rfl, h'⟩)
  rw [e]
  exact hK ρ' σ' h

theorem while_then {F Fq : Calls} {c : CE} {body : List CS} {ρ : List V} {σ : Sto} {γ : Type} {K : Fl → Sto → R γ} {t : R γ} {P : List V → Sto → Prop} (I : Nat → List V → Sto → Prop) (m : Nat) (hm : m < wFuel) (h0 : I m ρ σ)
    (hs : ∀ m ρ σ, I m ρ σ → ((evE F false c ρ σ).bind fun v σ => R.lift σ (truthy σ v)) = .ok false σ ∧ P ρ σ ∨
      ((evE F false c ρ σ).bind fun v σ => R.lift σ (truthy σ v)) = .ok true σ ∧ ∃ m' ρ' σ', m' < m ∧ exL F Fq false body ρ σ = .ok (.next ρ') σ' ∧ I m' ρ' σ')
    (hK : ∀ ρ' σ', P ρ' σ' → K (.next ρ') σ' = t) : (exS F Fq false (.while c body) ρ σ).bind K = t := by
  rw [exS]
  simp only [Bool.false_eq_true, if_false]
  obtain ⟨ρ', σ', e, h⟩ := while_inv (c := fun ρ σ => ((evE F false c ρ σ).bind fun v σ => R.lift σ (truthy σ v)).calm) (b := fun ρ σ => (exL F Fq false body ρ σ).calm) (P := P) I (fun m ρ σ h => by
    rcases hs m ρ σ h with ⟨e, p⟩ | ⟨e, m', ρ', σ', hl, e', h'⟩
    · exact .inl ⟨by simp only [e]; rfl, p⟩
    · exact .inr ⟨by simp only [e]; rfl, m', ρ', σ', hl, by simp only [e']; rfl, h'⟩) wFuel m ρ σ h0 hm
  rw [e]
  exact hK ρ' σ' h

theorem while_ex {F Fq : Calls} {c : CE} {body : List CS} {ρ : List V} {σ : Sto} {P : List V → Sto → Prop} (I : Nat → List V → Sto → Prop) (m : Nat) (hm : m < wFuel) (h0 : I m ρ σ)
    (hs : ∀ m ρ σ, I m ρ σ → ((evE F false c ρ σ).bind fun v σ => R.lift σ (truthy σ v)) = .ok false σ ∧ P ρ σ ∨
      ((evE F false c ρ σ).bind fun v σ => R.lift σ (truthy σ v)) = .ok true σ ∧ ∃ m' ρ' σ', m' < m ∧ exL F Fq false body ρ σ = .ok (.next ρ') σ' ∧ I m' ρ' σ') :
    ∃ ρ' σ', exS F Fq false (.while c body) ρ σ = .ok (.next ρ') σ' ∧ P ρ' σ' := by
  rw [exS]
  simp only [Bool.false_eq_true, if_false]
  exact while_inv (c := fun ρ σ => ((evE F false c ρ σ).bind fun v σ => R.lift σ (truthy σ v)).calm) (b := fun ρ σ => (exL F Fq false body ρ σ).calm) (P := P) I (fun m ρ σ h => by
    rcases hs m ρ σ h with ⟨e, p⟩ | ⟨e, m', ρ', σ', hl, e', h'⟩
    · exact .inl ⟨by simp only [e]; rfl, p⟩
    · exact .inr ⟨by simp only [e]; rfl, m', ρ', σ', hl, by simp only [e']; rfl, h'⟩) wFuel m ρ σ h0 hm

theorem for_ex {F Fq : Calls} {i : Nat} {k : SK} {src : List CE} {body : List CS} {ρ vs : List V} {σ σ₁ : Sto} {it : Items} {xs : List V} (I : Nat → List V → Sto → Prop)
    (hsrc : evL F false src ρ σ = .ok vs σ₁) (hit : itemsBy σ₁ k vs = some it) (hI : ∀ j ρ σ, I j ρ σ → Gives σ it xs) (h0 : I 0 ρ σ₁)
    (hs : ∀ j x ρ σ, xs[j]? = some x → I j ρ σ → ∃ ρ' σ', exL F Fq false body (ρ.set i x) σ = .ok (.next ρ') σ' ∧ I (j + 1) ρ' σ') :
    ∃ ρ' σ', exS F Fq false (.for i k src body) ρ σ = .ok (.next ρ') σ' ∧ I xs.length ρ' σ' := by
  have e : exS F Fq false (.for i k src body) ρ σ = forItems it (fun x ρ σ => (exL F Fq false body (ρ.set i x) σ).calm) ρ σ₁ := by
    show ((evL F false src ρ σ).bind fun vs σ => (R.lift σ (itemsBy σ k vs)).bind fun it σ => forItems it (fun x ρ σ => (exL F Fq false body (ρ.set i x) σ).calm) ρ σ) = _
    simp only [hsrc, R.bind_ok, hit, R.lift_some]
  rw [e]
  exact for_inv (it := it) (f := fun x ρ σ => (exL F Fq false body (ρ.set i x) σ).calm) I hI h0 (fun j x ρ σ hx h => by
    obtain ⟨ρ', σ', e, h'⟩ := hs j x ρ σ hx h
    exact ⟨ρ', σ', by rw [e]; rfl, h'⟩)

theorem filter_tt {α : Type} (l : List α) : l.filter (fun _ => true) = l := by simp

end Mine
end

/-! # Rel -/
section
set_option autoImplicit false
namespace Mine
open PySem

/-! ## the relation between the core's values and store and the model's heap -/

noncomputable abbrev Loc := Addr × Option Addr
noncomputable def Loc.addrs : Loc → List Addr
  | (a, none) => [a]
  | (a, some d) => [a, d]
noncomputable def addrs (f : List Loc) : List Addr := f.flatMap Loc.addrs

theorem addrs_append (f g : List Loc) : addrs (f ++ g) = addrs f ++ addrs g := by simp [addrs]
theorem mem_addrs_append {f g : List Loc} {a : Addr} : a ∈ addrs (f ++ g) ↔ a ∈ addrs f ∨ a ∈ addrs g := by rw [addrs_append, List.mem_append]

structure Stat where
  prog : Program
  w : World
  hb : Heap
  cl : Cls → Value
  book : Addr
  parts : Value
  hasParts : Bool
  fn : Nat → Addr

mutual
noncomputable def VR (S : Stat) (X : List Addr) (f : List Loc) (h : Heap) : V → Value → Prop
  | .undef, _ => False
  | .none, v => v = .none
  | .bool b, v => v = .bool b
  | .int i, v => ∃ t, v = .int i t
  | .str x, v => (∃ t, v = .str x t) ∧ x.length ≤ LIM ∧ PyData.strOk x = true
  | .tup xs, v => ∃ a vs n, v = .ref a ∧ (a ∉ addrs f ∧ a ∉ X) ∧ IsT h a vs n ∧ VRs S X f h xs vs.toList ∧ xs.length ≤ LIM
  | .lst xs, v => ∃ a vs n, v = .ref a ∧ (a ∉ addrs f ∧ a ∉ X) ∧ IsL h a vs n ∧ VRs S X f h xs vs.toList ∧ xs.length ≤ LIM
  | .ref n, v => ∃ l, f[n]? = some l ∧ v = .ref l.1
  | .exc c, v => ∃ a o, v = .ref a ∧ (a ∉ addrs f ∧ a ∉ X) ∧ h.get? a = some o ∧ o.cls = S.cl c
  | .parts, v => S.hasParts = true ∧ v = S.parts
noncomputable def VRs (S : Stat) (X : List Addr) (f : List Loc) (h : Heap) : List V → List Value → Prop
  | [], [] => True
  | x :: xs, v :: vs => VR S X f h x v ∧ VRs S X f h xs vs
  | [], _ :: _ => False
  | _ :: _, [] => False
end

theorem VRs_length {S : Stat} {X : List Addr} {f : List Loc} {h : Heap} : ∀ {xs : List V} {vs : List Value}, VRs S X f h xs vs → xs.length = vs.length
  | [], [], _ => rfl
  | _ :: _, _ :: _, e => by rw [VRs] at e; simp [VRs_length e.2]
  | [], _ :: _, e => by rw [VRs] at e; exact e.elim
  | _ :: _, [], e => by rw [VRs] at e; exact e.elim

/-- what an object may change: a namespace its slots, any other nothing -/
noncomputable def SameObj (o o' : Obj) : Prop := o' = o ∨ ((∃ es n, o.data = .dict es n) ∧ o'.cls = o.cls ∧ o'.dict = o.dict ∧ o'.data = o.data)
theorem SameObj.refl (o : Obj) : SameObj o o := .inl rfl
theorem SameObj.data {o o' : Obj} (x : SameObj o o') : o'.data = o.data := x.elim (fun e => by rw [e]) fun e => e.2.2.2
theorem SameObj.cls {o o' : Obj} (x : SameObj o o') : o'.cls = o.cls := x.elim (fun e => by rw [e]) fun e => e.2.1
theorem SameObj.dict {o o' : Obj} (x : SameObj o o') : o'.dict = o.dict := x.elim (fun e => by rw [e]) fun e => e.2.2.1
theorem SameObj.exact {o o' : Obj} (x : SameObj o o') (h : ∀ es n, o.data ≠ .dict es n) : o' = o := x.elim id fun e => by obtain ⟨⟨es, n, q⟩, _⟩ := e; exact absurd q (h es n)
theorem SameObj.trans {a b c : Obj} (x : SameObj a b) (y : SameObj b c) : SameObj a c := by
  rcases x with rfl | ⟨x1, x2, x3, x4⟩
  · exact y
  · exact .inr ⟨x1, y.cls.trans x2, y.dict.trans x3, y.data.trans x4⟩

/-- all that is neither tracked nor exempt stays, up to slots -/
structure Kp (f : List Loc) (Y : List Addr) (s s' : Shared) : Prop where
  rest : s' = { s with heap := s'.heap, toks := s'.toks }
  live : ∀ a o, s.heap.get? a = some o → ∃ o', s'.heap.get? a = some o'
  kept : ∀ a o, s.heap.get? a = some o → a ∉ addrs f → a ∉ Y → ∃ o', s'.heap.get? a = some o' ∧ SameObj o o'
  dicts : ∀ a o es n, s.heap.get? a = some o → o.data = .dict es n → a ∉ addrs f → ∃ o' es' n', s'.heap.get? a = some o' ∧ o'.data = .dict es' n'

noncomputable def Fresh (g : List Loc) (s : Shared) : Prop := ∀ a ∈ addrs g, s.heap.get? a = none

theorem Fresh.nil (s : Shared) : Fresh [] s := fun _ h => nomatch h

theorem Kp.refl (f : List Loc) (Y : List Addr) (s : Shared) : Kp f Y s s :=
  ⟨rfl, fun _ o e => ⟨o, e⟩, fun _ o e _ _ => ⟨o, e, .refl o⟩, fun _ o es n e d _ => ⟨o, es, n, e, d⟩⟩

theorem Kp.mono {f : List Loc} {Y Z : List Addr} {s s' : Shared} (k : Kp f Y s s') (h : ∀ a ∈ Y, a ∈ Z) : Kp f Z s s' :=
  ⟨k.rest, k.live, fun a o e h1 h2 => k.kept a o e h1 fun h3 => h2 (h a h3), k.dicts⟩

theorem not_mem_fresh {g : List Loc} {s : Shared} (hg : Fresh g s) {a : Addr} {o : Obj} (e : s.heap.get? a = some o) : a ∉ addrs g :=
  fun h => by rw [hg a h] at e; cases e

theorem Kp.trans {f g : List Loc} {Y : List Addr} {s s₁ s₂ : Shared} (k : Kp f Y s s₁) (hg : Fresh g s) (k' : Kp (f ++ g) Y s₁ s₂) : Kp f Y s s₂ where
  rest := by rw [k'.rest, k.rest]
  live a o e := let ⟨o₁, e₁⟩ := k.live a o e; k'.live a o₁ e₁
  kept a o e h1 h2 := by
    obtain ⟨o₁, e₁, q₁⟩ := k.kept a o e h1 h2
    obtain ⟨o₂, e₂, q₂⟩ := k'.kept a o₁ e₁ (fun h => (mem_addrs_append.mp h).elim h1 (not_mem_fresh hg e)) h2
    exact ⟨o₂, e₂, q₁.trans q₂⟩
  dicts a o es n e d h1 := by
    obtain ⟨o₁, es₁, n₁, e₁, d₁⟩ := k.dicts a o es n e d h1
    exact k'.dicts a o₁ es₁ n₁ e₁ d₁ (fun h => (mem_addrs_append.mp h).elim h1 (not_mem_fresh hg e))

/-- what is new later was new before -/
theorem new_back {s s₁ : Shared} (hs : ∀ a o, s.heap.get? a = some o → ∃ o', s₁.heap.get? a = some o') {a : Addr} (h : s₁.heap.get? a = none) : s.heap.get? a = none := by
  cases e : s.heap.get? a with
  | none => rfl
  | some o => obtain ⟨o', e'⟩ := hs a o e; rw [h] at e'; cases e'

theorem Fresh.trans {g g' : List Loc} {s s₁ : Shared} (hg : Fresh g s) (hs : ∀ a o, s.heap.get? a = some o → ∃ o', s₁.heap.get? a = some o') (hg' : Fresh g' s₁) : Fresh (g ++ g') s :=
  fun a h => (mem_addrs_append.mp h).elim (hg a) fun h => new_back hs (hg' a h)

mutual
/-- values keep their relation where what they stand on is kept -/
theorem VR.keep {S : Stat} {X X' : List Addr} {f f' : List Loc} {h h' : Heap}
    (kf : ∀ (i : Nat) (l : Loc), f[i]? = some l → f'[i]? = some l)
    (kh : ∀ a o, h.get? a = some o → a ∉ addrs f → a ∉ X → (a ∉ addrs f' ∧ a ∉ X') ∧ ∃ o', h'.get? a = some o' ∧ SameObj o o') :
    ∀ (x : V) (v : Value), VR S X f h x v → VR S X' f' h' x v
  | .undef, _, e => by rw [VR] at e; exact e.elim
  | .none, _, e => by rw [VR] at e ⊢; exact e
  | .bool _, _, e => by rw [VR] at e ⊢; exact e
  | .int _, _, e => by rw [VR] at e ⊢; exact e
  | .str _, _, e => by rw [VR] at e ⊢; exact e
  | .ref n, _, e => by
    rw [VR] at e ⊢
    obtain ⟨l, e1, e2⟩ := e
    exact ⟨l, kf _ _ e1, e2⟩
  | .exc c, _, e => by
    rw [VR] at e ⊢
    obtain ⟨a, o, e1, e2, e3, e4⟩ := e
    obtain ⟨q1, o', q2, q3⟩ := kh a o e3 e2.1 e2.2
    exact ⟨a, o', e1, q1, q2, q3.cls.trans e4⟩
  | .parts, _, e => by rw [VR] at e ⊢; exact e
  | .tup xs, _, e => by
    rw [VR] at e ⊢
    obtain ⟨a, vs, n, e1, e2, e3, e7, e8⟩ := e
    obtain ⟨q1, o', q2, q3⟩ := kh a _ e3 e2.1 e2.2
    exact ⟨a, vs, n, e1, q1, q2.trans (congrArg some (q3.exact fun _ _ q => by cases q)), VRs.keep kf kh xs vs.toList e7, e8⟩
  | .lst xs, _, e => by
    rw [VR] at e ⊢
    obtain ⟨a, vs, n, e1, e2, e3, e7, e8⟩ := e
    obtain ⟨q1, o', q2, q3⟩ := kh a _ e3 e2.1 e2.2
    exact ⟨a, vs, n, e1, q1, q2.trans (congrArg some (q3.exact fun _ _ q => by cases q)), VRs.keep kf kh xs vs.toList e7, e8⟩
theorem VRs.keep {S : Stat} {X X' : List Addr} {f f' : List Loc} {h h' : Heap}
    (kf : ∀ (i : Nat) (l : Loc), f[i]? = some l → f'[i]? = some l)
    (kh : ∀ a o, h.get? a = some o → a ∉ addrs f → a ∉ X → (a ∉ addrs f' ∧ a ∉ X') ∧ ∃ o', h'.get? a = some o' ∧ SameObj o o') :
    ∀ (xs : List V) (vs : List Value), VRs S X f h xs vs → VRs S X' f' h' xs vs
  | [], [], e => by rw [VRs] at e ⊢; exact e
  | x :: xs, v :: vs, e => by
    rw [VRs] at e ⊢
    exact ⟨VR.keep kf kh x v e.1, VRs.keep kf kh xs vs e.2⟩
  | [], _ :: _, e => by rw [VRs] at e; exact e.elim
  | _ :: _, [], e => by rw [VRs] at e; exact e.elim
end

theorem VR.keepK {S : Stat} {X : List Addr} {f g : List Loc} {Y : List Addr} {s s' : Shared} (k : Kp f Y s s') (hg : Fresh g s) (hY : ∀ a ∈ Y, a ∈ X)
    {x : V} {v : Value} (e : VR S X f s.heap x v) : VR S X (f ++ g) s'.heap x v :=
  VR.keep (fun _ _ e => List.getElem?_append_left (List.getElem?_eq_some_iff.mp e).1 ▸ e)
    (fun a o ho h1 h2 => ⟨⟨fun h => (mem_addrs_append.mp h).elim h1 (not_mem_fresh hg ho), h2⟩, k.kept a o ho h1 fun h => h2 (hY a h)⟩) x v e
theorem VRs.keepK {S : Stat} {X : List Addr} {f g : List Loc} {Y : List Addr} {s s' : Shared} (k : Kp f Y s s') (hg : Fresh g s) (hY : ∀ a ∈ Y, a ∈ X)
    {x : List V} {v : List Value} (e : VRs S X f s.heap x v) : VRs S X (f ++ g) s'.heap x v :=
  VRs.keep (fun _ _ e => List.getElem?_append_left (List.getElem?_eq_some_iff.mp e).1 ▸ e)
    (fun a o ho h1 h2 => ⟨⟨fun h => (mem_addrs_append.mp h).elim h1 (not_mem_fresh hg ho), h2⟩, k.kept a o ho h1 fun h => h2 (hY a h)⟩) x v e

/-- fewer are hidden -/
theorem VR.less {S : Stat} {X X' : List Addr} {f : List Loc} {h : Heap} (hX : ∀ a ∈ X', a ∈ X) {x : V} {v : Value} (e : VR S X f h x v) : VR S X' f h x v :=
  VR.keep (fun _ _ e => e) (fun _ o ho h1 h2 => ⟨⟨h1, fun h => h2 (hX _ h)⟩, o, ho, .refl o⟩) x v e
theorem VRs.less {S : Stat} {X X' : List Addr} {f : List Loc} {h : Heap} (hX : ∀ a ∈ X', a ∈ X) {x : List V} {v : List Value} (e : VRs S X f h x v) : VRs S X' f h x v :=
  VRs.keep (fun _ _ e => e) (fun _ o ho h1 h2 => ⟨⟨h1, fun h => h2 (hX _ h)⟩, o, ho, .refl o⟩) x v e

/-- more are hidden, all of them new -/
theorem VR.more {S : Stat} {X X' : List Addr} {f : List Loc} {h : Heap} (hX : ∀ a ∈ X', a ∈ X ∨ h.get? a = none) {x : V} {v : Value} (e : VR S X f h x v) : VR S X' f h x v :=
  VR.keep (fun _ _ e => e) (fun a o ho h1 h2 => ⟨⟨h1, fun h => (hX _ h).elim h2 fun q => by rw [q] at ho; cases ho⟩, o, ho, .refl o⟩) x v e
theorem VRs.more {S : Stat} {X X' : List Addr} {f : List Loc} {h : Heap} (hX : ∀ a ∈ X', a ∈ X ∨ h.get? a = none) {x : List V} {v : List Value} (e : VRs S X f h x v) : VRs S X' f h x v :=
  VRs.keep (fun _ _ e => e) (fun a o ho h1 h2 => ⟨⟨h1, fun h => (hX _ h).elim h2 fun q => by rw [q] at ho; cases ho⟩, o, ho, .refl o⟩) x v e

noncomputable def attrName (k : Nat) : Str := if k = 0 then "entries" else "history"

/-- an instance's dict -/
inductive AttrEs (S : Stat) (X : List Addr) (f : List Loc) (h : Heap) : List (Nat × V) → List DictEntry → Prop where
  | nil : AttrEs S X f h [] []
  | cons {k : Nat} {x : V} {hs : Int} {t : Tok} {v : Value} {as : List (Nat × V)} {es : List DictEntry} : k < 2 → VR S X f h x v → AttrEs S X f h as es → AttrEs S X f h ((k, x) :: as) (⟨hs, .str (attrName k) t, v⟩ :: es)

noncomputable def OR (S : Stat) (X : List Addr) (f : List Loc) (h : Heap) : Loc → O → Prop
  | (a, none), .list xs => ∃ vs n, IsL h a vs n ∧ VRs S X f h xs vs.toList ∧ xs.length ≤ LIM
  | (a, none), .dict es => ∃ kvs, h.DictOf (intKind S.prog S.w) a kvs ∧ kvs.map (·.1) = es.map (·.1) ∧ VRs S X f h (es.map (·.2)) (kvs.map (·.2)) ∧ es.length ≤ LIM
  | (a, some d), .inst as => ∃ es n, h.get? a = some (W.instObj S.book d) ∧ h.get? d = some (W.dictOf es n) ∧ AttrEs S X f h as es ∧ (as.map (·.1)).Nodup
  | _, _ => False

theorem AttrEs.keep {S : Stat} {X X' : List Addr} {f f' : List Loc} {h h' : Heap} (k : ∀ x v, VR S X f h x v → VR S X' f' h' x v) {as : List (Nat × V)} {es : List DictEntry}
    (e : AttrEs S X f h as es) : AttrEs S X' f' h' as es := by
  induction e with
  | nil => exact .nil
  | cons a b _ ih => exact .cons a (k _ _ b) ih

theorem dictOf_at {prog : Program} {w : World} {h h' : Heap} {a : Addr} {kvs : List (Int × Value)} (e : h'.get? a = h.get? a) (x : h.DictOf (intKind prog w) a kvs) : h'.DictOf (intKind prog w) a kvs := by
  obtain ⟨o, es, ep, ho, r⟩ := x
  exact ⟨o, es, ep, e.trans ho, r⟩

theorem OR.keep {S : Stat} {X X' : List Addr} {f f' : List Loc} {h h' : Heap} (k : ∀ x v, VR S X f h x v → VR S X' f' h' x v) (ks : ∀ x v, VRs S X f h x v → VRs S X' f' h' x v) {l : Loc} {o : O}
    (hl : ∀ a ∈ l.addrs, h'.get? a = h.get? a) (e : OR S X f h l o) : OR S X' f' h' l o := by
  obtain ⟨a, d⟩ := l
  cases d with
  | none =>
    have ha := hl a (List.mem_singleton.mpr rfl)
    cases o with
    | list xs =>
      obtain ⟨vs, n, e1, e5, e6⟩ := e
      exact ⟨vs, n, ha.trans e1, ks _ _ e5, e6⟩
    | dict es =>
      obtain ⟨kvs, e1, e2, e3, e4⟩ := e
      exact ⟨kvs, dictOf_at ha e1, e2, ks _ _ e3, e4⟩
    | inst as => exact e.elim
  | some d =>
    have ha := hl a (List.mem_cons_self)
    have hd := hl d (List.mem_cons_of_mem _ (List.mem_singleton.mpr rfl))
    cases o with
    | list xs => exact e.elim
    | dict es => exact e.elim
    | inst as =>
      obtain ⟨es, n, e1, e2, e3, e4⟩ := e
      exact ⟨es, n, ha.trans e1, hd.trans e2, e3.keep k, e4⟩

/-- the store and the heap -/
structure Lk (S : Stat) (X : List Addr) (f : List Loc) (σ : Sto) (h : Heap) : Prop where
  base : ∀ b o, S.hb.get? b = some o → h.get? b = some o
  len : f.length = σ.length
  nodup : (addrs f).Nodup
  fresh : ∀ a ∈ addrs f, S.hb.get? a = none
  hid : ∀ a ∈ X, S.hb.get? a = none ∧ a ∉ addrs f ∧ ∃ o, h.get? a = some o
  obj : ∀ (i : Nat) (l : Loc) (o : O), f[i]? = some l → σ[i]? = some o → OR S X f h l o

theorem OR.live {S : Stat} {X : List Addr} {f : List Loc} {h : Heap} {l : Loc} {o : O} (e : OR S X f h l o) : ∀ a ∈ l.addrs, ∃ ob, h.get? a = some ob := by
  obtain ⟨a, d⟩ := l
  intro b hb
  cases d with
  | none =>
    obtain rfl := List.mem_singleton.mp hb
    cases o with
    | list xs => obtain ⟨vs, n, e1, _⟩ := e; exact ⟨_, e1⟩
    | dict es => obtain ⟨kvs, ⟨o, _, _, e1, _⟩, _⟩ := e; exact ⟨o, e1⟩
    | inst as => exact e.elim
  | some d =>
    cases o with
    | list xs => exact e.elim
    | dict es => exact e.elim
    | inst as =>
      obtain ⟨es, n, e1, e2, _⟩ := e
      rcases List.mem_cons.mp hb with rfl | hb
      · exact ⟨_, e1⟩
      · obtain rfl := List.mem_singleton.mp hb; exact ⟨_, e2⟩

theorem mem_addrs {f : List Loc} {a : Addr} (h : a ∈ addrs f) : ∃ (i : Nat) (l : Loc), f[i]? = some l ∧ a ∈ l.addrs := by
  obtain ⟨l, hl, ha⟩ := List.mem_flatMap.mp h
  obtain ⟨i, hi⟩ := List.getElem?_of_mem hl
  exact ⟨i, l, hi, ha⟩
theorem addrs_of {f : List Loc} {i : Nat} {l : Loc} {a : Addr} (h : f[i]? = some l) (ha : a ∈ l.addrs) : a ∈ addrs f :=
  List.mem_flatMap.mpr ⟨l, List.mem_of_getElem? h, ha⟩

theorem Lk.live {S : Stat} {X : List Addr} {f : List Loc} {σ : Sto} {h : Heap} (L : Lk S X f σ h) {a : Addr} (ha : a ∈ addrs f) : ∃ ob, h.get? a = some ob := by
  obtain ⟨i, l, hi, hl⟩ := mem_addrs ha
  have hlt : i < σ.length := L.len ▸ (List.getElem?_eq_some_iff.mp hi).1
  exact (L.obj i l _ hi (List.getElem?_eq_getElem hlt)).live a hl

/-- an unseen step: only what is not tracked has changed, up to slots; new objects may stand there -/
theorem Lk.step {S : Stat} {X : List Addr} {f : List Loc} {σ : Sto} {Y : List Addr} {s s' : Shared} (L : Lk S X f σ s.heap) (k : Kp f Y s s') (hY : ∀ a ∈ Y, a ∈ X)
    (hb : ∀ b o, S.hb.get? b = some o → s'.heap.get? b = some o) (hf : ∀ a ∈ addrs f, s'.heap.get? a = s.heap.get? a) : Lk S X f σ s'.heap where
  base := hb
  len := L.len
  nodup := L.nodup
  fresh := L.fresh
  hid := fun a ha => ⟨(L.hid a ha).1, (L.hid a ha).2.1, let ⟨o, e⟩ := (L.hid a ha).2.2; k.live a o e⟩
  obj i l o hi ho := by
    have e := L.obj i l o hi ho
    have kv : ∀ x v, VR S X f s.heap x v → VR S X f s'.heap x v := fun x v e => by have := VR.keepK (g := []) k (.nil s) hY e; rwa [List.append_nil] at this
    have kvs : ∀ x v, VRs S X f s.heap x v → VRs S X f s'.heap x v := fun x v e => by have := VRs.keepK (g := []) k (.nil s) hY e; rwa [List.append_nil] at this
    exact e.keep kv kvs fun a ha => hf a (addrs_of hi ha)

/-! ## the two runs side by side -/

/-- an exception of class k in flight: it and its traceback are new since `h₀` -/
noncomputable def ExcR (S : Stat) (f : List Loc) (h h₀ : Heap) (traced : Bool) (ea : Addr) (k : Cls) : Prop :=
  h₀.get? ea = none ∧ ea ∉ addrs f ∧ ∃ oe vs a0, h.get? ea = some oe ∧ oe.cls = S.cl k ∧ oe.data = .fields vs ∧ vs[0]? = some a0 ∧
    ((traced = false ∧ vs[1]? = some .none) ∨
      ∃ T oT ts fl, h₀.get? T = none ∧ T ∉ addrs f ∧ T ≠ ea ∧ vs[1]? = some (.ref T) ∧ h.get? T = some oT ∧ oT.data = .fields ts ∧ ts[3]? = some fl)

theorem ExcR.back {S : Stat} {f : List Loc} {h h₀ h₁ : Heap} {b : Bool} {ea : Addr} {k : Cls} (e : ExcR S f h h₁ b ea k) (hl : ∀ a, h₁.get? a = none → h₀.get? a = none) : ExcR S f h h₀ b ea k := by
  obtain ⟨e1, e2, oe, vs, a0, e4, e5, e6, e7, e8⟩ := e
  refine ⟨hl _ e1, e2, oe, vs, a0, e4, e5, e6, e7, e8.imp id ?_⟩
  rintro ⟨T, oT, ts, fl, t1, t2⟩
  exact ⟨T, oT, ts, fl, hl _ t1, t2⟩
theorem ExcR.any {S : Stat} {f : List Loc} {h h₀ : Heap} {b : Bool} {ea : Addr} {k : Cls} (e : ExcR S f h h₀ b ea k) : ExcR S f h h₀ false ea k := by
  obtain ⟨e1, e2, oe, vs, a0, e4, e5, e6, e7, e8⟩ := e
  exact ⟨e1, e2, oe, vs, a0, e4, e5, e6, e7, e8.imp (fun h => ⟨rfl, h.2⟩) id⟩

section
variable {α β γ δ : Type}

noncomputable def QS (S : Stat) (X Y : List Addr) (f : List Loc) (P : α → β → List Loc → Shared → Prop) (s : Shared) (r : R β) (a : α) (s' : Shared) : Prop :=
  ∃ b σ' g, r = .ok b σ' ∧ Fresh g s ∧ Kp f Y s s' ∧ Lk S X (f ++ g) σ' s'.heap ∧ P a b (f ++ g) s'
noncomputable def ES (S : Stat) (X Y : List Addr) (f : List Loc) (tr : Bool) (s : Shared) (r : R β) (e : Value) (s' : Shared) : Prop :=
  ∃ k σ' g ea, e = .ref ea ∧ r = .exc k σ' ∧ Fresh g s ∧ Kp f Y s s' ∧ Lk S X (f ++ g) σ' s'.heap ∧ ExcR S (f ++ g) s'.heap s.heap tr ea k

noncomputable def Sim (S : Stat) (A : Around) (X Y : List Addr) (f : List Loc) (P : α → β → List Loc → Shared → Prop) (t : Sem α) (r : R β) (s : Shared) : Prop :=
  r ≠ .stuck → wpAny (model S.prog S.w) A t (QS S X Y f P s r) (ES S X Y f false s r) s

variable {S : Stat} {A : Around} {X Y : List Addr} {f : List Loc} {P : α → β → List Loc → Shared → Prop} {P' : γ → δ → List Loc → Shared → Prop}

theorem QS.lift {s s₁ : Shared} {b : β} {σ' : Sto} {g : List Loc} {rk : β → Sto → R δ} {a : γ} {s' : Shared} (hg : Fresh g s) (k : Kp f Y s s₁)
    (q : QS S X Y (f ++ g) P' s₁ (rk b σ') a s') : QS S X Y f P' s ((R.ok b σ').bind rk) a s' := by
  obtain ⟨b', σ'', g', e, hg', k', L, p⟩ := q
  rw [List.append_assoc] at L p
  exact ⟨b', σ'', g ++ g', e, hg.trans k.live hg', k.trans hg k', L, p⟩
theorem ES.lift {s s₁ : Shared} {b : β} {σ' : Sto} {g : List Loc} {tr : Bool} {rk : β → Sto → R δ} {e : Value} {s' : Shared} (hg : Fresh g s) (k : Kp f Y s s₁)
    (q : ES S X Y (f ++ g) tr s₁ (rk b σ') e s') : ES S X Y f tr s ((R.ok b σ').bind rk) e s' := by
  obtain ⟨c, σ'', g', ea, e1, e2, hg', k', L, x⟩ := q
  rw [List.append_assoc] at L x
  exact ⟨c, σ'', g ++ g', ea, e1, e2, hg.trans k.live hg', k.trans hg k', L, x.back fun a h => new_back k.live h⟩

/-- one after the other, inside any tree -/
theorem Sim.seq {t : Sem α} {r : R β} {rk : β → Sto → R δ} {s : Shared} {W : α → Shared → Prop} (h : Sim S A X Y f P t r s) (hne : r.bind rk ≠ .stuck)
    (hk : ∀ a b σ' g s', rk b σ' ≠ .stuck → Fresh g s → Kp f Y s s' → Lk S X (f ++ g) σ' s'.heap → P a b (f ++ g) s' → (∀ c s'', QS S X Y (f ++ g) P' s' (rk b σ') c s'' → QS S X Y f P' s (r.bind rk) c s'') →
      (∀ e s'', ES S X Y (f ++ g) false s' (rk b σ') e s'' → ES S X Y f false s (r.bind rk) e s'') → W a s') :
    wpAny (model S.prog S.w) A t W (ES S X Y f false s (r.bind rk)) s := by
  have hr : r ≠ .stuck := fun e => hne (by rw [e]; rfl)
  refine wpAny_mono (h hr) (fun a s' q => ?_) fun e s' q => ?_
  · obtain ⟨b, σ', g, rfl, hg, k, L, p⟩ := q
    exact hk a b σ' g s' hne hg k L p (fun c s'' q => q.lift hg k) (fun e s'' q => q.lift hg k)
  · obtain ⟨c, σ', g, ea, e1, rfl, hg, k, L, x⟩ := q
    exact ⟨c, σ', g, ea, e1, rfl, hg, k, L, x⟩

theorem Sim.bind {t : Sem α} {m : α → Sem γ} {r : R β} {rk : β → Sto → R δ} {s : Shared} (h : Sim S A X Y f P t r s)
    (hk : ∀ a b σ' g s', Fresh g s → Kp f Y s s' → Lk S X (f ++ g) σ' s'.heap → P a b (f ++ g) s' → Sim S A X Y (f ++ g) P' (m a) (rk b σ') s') :
    Sim S A X Y f P' (t >>= m) (r.bind rk) s := fun hne =>
  wpAny_bind (Sim.seq (P' := P') h hne fun a b σ' g s' hn hg k L p l1 l2 => wpAny_mono (hk a b σ' g s' hg k L p hn) l1 l2)

theorem Sim.stuck {t : Sem α} {s : Shared} : Sim S A X Y f P t (.stuck : R β) s := fun h => (h rfl).elim

theorem QS.here {s : Shared} {σ : Sto} {a : α} {b : β} (L : Lk S X f σ s.heap) (p : P a b f s) : QS S X Y f P s (.ok b σ) a s :=
  ⟨b, σ, [], rfl, .nil s, .refl f Y s, by rwa [List.append_nil], by rwa [List.append_nil]⟩
end

end Mine
end

/-! # Ops -/
section
set_option autoImplicit false
namespace Mine
open PySem PyProof.Rows

/-! ## steps that only make new things -/

structure Ext (s s' : Shared) : Prop where
  rest : s' = { s with heap := s'.heap, toks := s'.toks }
  keep : ∀ b o, s.heap.get? b = some o → s'.heap.get? b = some o

theorem Ext.refl (s : Shared) : Ext s s := ⟨rfl, fun _ _ e => e⟩
theorem Ext.toks (s : Shared) (t : Nat) : Ext s { s with toks := t } := ⟨rfl, fun _ _ e => e⟩
theorem Ext.heap {s : Shared} {h : Heap} {t : Nat} (k : ∀ b o, s.heap.get? b = some o → h.get? b = some o) : Ext s { s with heap := h, toks := t } := ⟨rfl, k⟩
theorem Ext.push (s : Shared) (o : Obj) : Ext s { s with heap := s.heap.push o } := ⟨rfl, fun _ _ e => Heap.get?_push_of_some _ e⟩
theorem Ext.trans {a b c : Shared} (x : Ext a b) (y : Ext b c) : Ext a c := ⟨by rw [y.rest, x.rest], fun d o e => y.keep d o (x.keep d o e)⟩

theorem Ext.kp {s s' : Shared} (e : Ext s s') (f : List Loc) (Y : List Addr) : Kp f Y s s' :=
  ⟨e.rest, fun a o h => ⟨o, e.keep a o h⟩, fun a o h _ _ => ⟨o, e.keep a o h, .refl o⟩, fun a o es n h d _ => ⟨o, es, n, e.keep a o h, d⟩⟩

section
variable {S : Stat} {X Y : List Addr} {f : List Loc} {σ : Sto} {s s' : Shared}

theorem Ext.vr (e : Ext s s') {x : V} {v : Value} (h : VR S X f s.heap x v) : VR S X f s'.heap x v :=
  VR.keep (fun _ _ e => e) (fun a o h h1 h2 => ⟨⟨h1, h2⟩, o, e.keep a o h, .refl o⟩) x v h
theorem Ext.vrs (e : Ext s s') {x : List V} {v : List Value} (h : VRs S X f s.heap x v) : VRs S X f s'.heap x v :=
  VRs.keep (fun _ _ e => e) (fun a o h h1 h2 => ⟨⟨h1, h2⟩, o, e.keep a o h, .refl o⟩) x v h

theorem Ext.lk (e : Ext s s') (L : Lk S X f σ s.heap) : Lk S X f σ s'.heap where
  base b o h := e.keep b o (L.base b o h)
  len := L.len
  nodup := L.nodup
  fresh := L.fresh
  hid a ha := ⟨(L.hid a ha).1, (L.hid a ha).2.1, let ⟨o, q⟩ := (L.hid a ha).2.2; ⟨o, e.keep a o q⟩⟩
  obj i l o hi ho := (L.obj i l o hi ho).keep (fun _ _ => e.vr) (fun _ _ => e.vrs) fun a ha => by
    obtain ⟨ob, h⟩ := L.live (addrs_of hi ha)
    rw [h]; exact e.keep a ob h

noncomputable def PV (S : Stat) (X : List Addr) (v : Value) (x : V) (f : List Loc) (s : Shared) : Prop := VR S X f s.heap x v

theorem QS.leaf {x : V} {v : Value} (L : Lk S X f σ s.heap) (e : Ext s s') (h : VR S X f s'.heap x v) : QS S X Y f (PV S X) s (.ok x σ) v s' :=
  ⟨x, σ, [], rfl, .nil s, e.kp f Y, by rw [List.append_nil]; exact e.lk L, by rw [List.append_nil]; exact h⟩

/-- what is new is neither tracked nor hidden -/
theorem Lk.new (L : Lk S X f σ s.heap) {a : Addr} (h : s.heap.get? a = none) : a ∉ addrs f ∧ a ∉ X :=
  ⟨fun q => (by obtain ⟨o, e⟩ := L.live q; rw [h] at e; cases e), fun q => (by obtain ⟨o, e⟩ := (L.hid a q).2.2; rw [h] at e; cases e)⟩
theorem size_new (h : Heap) : h.get? h.objs.size = none := Heap.get?_none_of_le (Nat.le_refl _)

/-- a new list with such items -/
noncomputable def NewL (S : Stat) (X : List Addr) (f : List Loc) (s s' : Shared) (xs : List V) (v : Value) : Prop :=
  ∃ a vs n, v = .ref a ∧ s.heap.get? a = none ∧ IsL s'.heap a vs n ∧ VRs S X f s.heap xs vs.toList ∧ xs.length ≤ LIM
theorem NewL.vr {xs : List V} {v : Value} (L : Lk S X f σ s.heap) (e : Ext s s') (h : NewL S X f s s' xs v) : VR S X f s'.heap (.lst xs) v := by
  obtain ⟨a, vs, n, e1, e2, e3, e4, e5⟩ := h
  rw [VR]; exact ⟨a, vs, n, e1, L.new e2, e3, e.vrs e4, e5⟩

end

/-! ## reading what stands there -/

section
variable {S : Stat} {X : List Addr} {f : List Loc} {σ : Sto} {h : Heap}

/-- a list, frozen or tracked -/
theorem list_at (L : Lk S X f σ h) {x : V} {v : Value} {xs : List V} (e : listOf? σ x = some xs) (r : VR S X f h x v) : ∃ a vs n, v = .ref a ∧ IsL h a vs n ∧ VRs S X f h xs vs.toList ∧ xs.length ≤ LIM := by
  cases x with
  | lst ys =>
    cases e
    rw [VR] at r
    obtain ⟨a, vs, n, e1, _, e3, e4, e5⟩ := r
    exact ⟨a, vs, n, e1, e3, e4, e5⟩
  | ref k =>
    simp only [listOf?] at e
    split at e
    · rename_i ys ho
      cases e
      rw [VR] at r
      obtain ⟨l, hl, rfl⟩ := r
      have := L.obj k l _ hl ho
      obtain ⟨a, d⟩ := l
      cases d with
      | none => obtain ⟨vs, n, e1, e2, e3⟩ := this; exact ⟨a, vs, n, rfl, e1, e2, e3⟩
      | some d => exact this.elim
    · cases e
  | _ => cases e

theorem items_at (L : Lk S X f σ h) {x : V} {v : Value} {xs : List V} (e : itemsOf σ x = some xs) (r : VR S X f h x v) :
    ∃ a vs n, v = .ref a ∧ (IsL h a vs n ∨ IsT h a vs n) ∧ VRs S X f h xs vs.toList ∧ xs.length ≤ LIM := by
  cases x with
  | tup ys =>
    cases e
    rw [VR] at r
    obtain ⟨a, vs, n, e1, _, e3, e4, e5⟩ := r
    exact ⟨a, vs, n, e1, .inr e3, e4, e5⟩
  | lst ys =>
    obtain ⟨a, vs, n, e1, e2, e3, e4⟩ := list_at L (x := .lst ys) (xs := xs) (by simpa [itemsOf, listOf?] using e) r
    exact ⟨a, vs, n, e1, .inl e2, e3, e4⟩
  | ref k =>
    obtain ⟨a, vs, n, e1, e2, e3, e4⟩ := list_at L (x := .ref k) (xs := xs) (by simpa [itemsOf, listOf?] using e) r
    exact ⟨a, vs, n, e1, .inl e2, e3, e4⟩
  | _ => cases e

theorem VRs_get : ∀ {xs : List V} {vs : List Value}, VRs S X f h xs vs → ∀ {i : Nat} {x : V}, xs[i]? = some x → ∃ v, vs[i]? = some v ∧ VR S X f h x v
  | x :: xs, v :: vs, r, 0, y, e => by rw [VRs] at r; simp at e; subst e; exact ⟨v, by simp, r.1⟩
  | x :: xs, v :: vs, r, i + 1, y, e => by rw [VRs] at r; simp at e; obtain ⟨w, h1, h2⟩ := VRs_get r.2 e; exact ⟨w, by simpa using h1, h2⟩
  | [], _, _, _, _, e => by simp at e
  | _ :: _, [], r, _, _, _ => by rw [VRs] at r; exact r.elim

theorem VRs_append : ∀ {xs ys : List V} {vs ws : List Value}, VRs S X f h xs vs → VRs S X f h ys ws → VRs S X f h (xs ++ ys) (vs ++ ws)
  | [], _, [], _, _, b => b
  | x :: xs, ys, v :: vs, ws, a, b => by rw [VRs] at a; show VRs S X f h (x :: (xs ++ ys)) (v :: (vs ++ ws)); rw [VRs]; exact ⟨a.1, VRs_append a.2 b⟩
  | [], _, _ :: _, _, a, _ => by rw [VRs] at a; exact a.elim
  | _ :: _, _, [], _, a, _ => by rw [VRs] at a; exact a.elim

theorem VRs_take : ∀ {xs : List V} {vs : List Value}, VRs S X f h xs vs → ∀ n, VRs S X f h (xs.take n) (vs.take n)
  | [], [], _, n => by simp [VRs]
  | x :: xs, v :: vs, r, 0 => by simp [VRs]
  | x :: xs, v :: vs, r, n + 1 => by rw [VRs] at r; simp only [List.take_succ_cons]; rw [VRs]; exact ⟨r.1, VRs_take r.2 n⟩
  | [], _ :: _, a, _ => by rw [VRs] at a; exact a.elim
  | _ :: _, [], a, _ => by rw [VRs] at a; exact a.elim
theorem VRs_drop : ∀ {xs : List V} {vs : List Value}, VRs S X f h xs vs → ∀ n, VRs S X f h (xs.drop n) (vs.drop n)
  | [], [], _, n => by simp [VRs]
  | x :: xs, v :: vs, r, 0 => by simpa using r
  | x :: xs, v :: vs, r, n + 1 => by rw [VRs] at r; simp only [List.drop_succ_cons]; exact VRs_drop r.2 n
  | [], _ :: _, a, _ => by rw [VRs] at a; exact a.elim
  | _ :: _, [], a, _ => by rw [VRs] at a; exact a.elim
theorem VRs_set : ∀ {xs : List V} {vs : List Value}, VRs S X f h xs vs → ∀ {i : Nat} {x : V} {v : Value}, VR S X f h x v → VRs S X f h (xs.set i x) (vs.set i v)
  | [], [], _, n, _, _, _ => by simp [VRs]
  | x :: xs, v :: vs, r, 0, _, _, q => by rw [VRs] at r; simp only [List.set_cons_zero]; rw [VRs]; exact ⟨q, r.2⟩
  | x :: xs, v :: vs, r, n + 1, _, _, q => by rw [VRs] at r; simp only [List.set_cons_succ]; rw [VRs]; exact ⟨r.1, VRs_set r.2 q⟩
  | [], _ :: _, a, _, _, _, _ => by rw [VRs] at a; exact a.elim
  | _ :: _, [], a, _, _, _, _ => by rw [VRs] at a; exact a.elim

theorem ints_at : ∀ {xs : List V} {vs : List Value} {l : List Int}, ints? xs = some l → VRs S X f h xs vs → ∃ ys : List (Int × Tok), vs = ys.map (fun p => .int p.1 p.2) ∧ ys.map (·.1) = l
  | [], [], l, e, _ => by simp [ints?] at e; subst e; exact ⟨[], rfl, rfl⟩
  | x :: xs, v :: vs, l, e, r => by
    rw [VRs] at r
    simp only [ints?, List.mapM_cons] at e
    cases x with
    | int i =>
      obtain ⟨t, rfl⟩ := (by simpa [VR] using r.1 : ∃ t, v = .int i t)
      simp only [intOf?] at e
      cases hl : xs.mapM intOf? with
      | none => simp [hl] at e
      | some l' =>
        simp [hl] at e
        obtain ⟨ys, e1, e2⟩ := ints_at (l := l') hl r.2
        subst e
        exact ⟨(i, t) :: ys, by simp [e1], by simp [e2]⟩
    | _ => simp [intOf?] at e
  | [], _ :: _, _, _, a => by rw [VRs] at a; exact a.elim
  | _ :: _, [], _, _, a => by rw [VRs] at a; exact a.elim

theorem bools_at : ∀ {xs : List V} {vs : List Value} {l : List Bool}, bools? xs = some l → VRs S X f h xs vs → vs = l.map .bool
  | [], [], l, e, _ => by simp [bools?] at e; subst e; rfl
  | x :: xs, v :: vs, l, e, r => by
    rw [VRs] at r
    simp only [bools?, List.mapM_cons] at e
    cases x with
    | bool i =>
      obtain rfl := (by simpa [VR] using r.1 : v = .bool i)
      simp only [boolOf?] at e
      cases hl : xs.mapM boolOf? with
      | none => simp [hl] at e
      | some l' =>
        simp [hl] at e
        subst e
        rw [List.map_cons, bools_at (l := l') hl r.2]
    | _ => simp [boolOf?] at e
  | [], _ :: _, _, _, a => by rw [VRs] at a; exact a.elim
  | _ :: _, [], _, _, a => by rw [VRs] at a; exact a.elim

theorem strs_at : ∀ {xs : List V} {vs : List Value} {l : List Str}, strs? xs = some l → VRs S X f h xs vs → ∃ ys : List (Str × Tok), vs = ys.map (fun p => .str p.1 p.2) ∧ ys.map (·.1) = l ∧ ∀ x ∈ l, x.length ≤ LIM ∧ PyData.strOk x = true
  | [], [], l, e, _ => by simp [strs?] at e; subst e; exact ⟨[], rfl, rfl, fun _ h => nomatch h⟩
  | x :: xs, v :: vs, l, e, r => by
    rw [VRs] at r
    simp only [strs?, List.mapM_cons] at e
    cases x with
    | str i =>
      obtain ⟨⟨t, rfl⟩, q⟩ := (by simpa [VR] using r.1 : (∃ t, v = .str i t) ∧ i.length ≤ LIM ∧ PyData.strOk i = true)
      simp only [strOf?] at e
      cases hl : xs.mapM strOf? with
      | none => simp [hl] at e
      | some l' =>
        simp [hl] at e
        obtain ⟨ys, e1, e2, e3⟩ := strs_at (l := l') hl r.2
        subst e
        exact ⟨(i, t) :: ys, by simp [e1], by simp [e2], fun x hx => (List.mem_cons.mp hx).elim (fun e => e ▸ q) (e3 x)⟩
    | _ => simp [strOf?] at e
  | [], _ :: _, _, _, a => by rw [VRs] at a; exact a.elim
  | _ :: _, [], _, _, a => by rw [VRs] at a; exact a.elim
end

end Mine
end

/-! # Ops2 -/
section
set_option autoImplicit false
namespace Mine
open PySem PyProof.Rows

theorem lim_size : LIM ≤ sizeLine := by decide
theorem lim_long {n : Nat} (h : n ≤ LIM) : (n : Int) < 2 ^ 63 := by have : LIM = 1048576 := rfl; omega

theorem app_arr (vs ws : Array Value) : (vs.toList ++ ws.toList).toArray = vs ++ ws := by apply Array.toList_inj.mp; simp

theorem bits_small {a : Int} (h : smallFactor a = true) : Builtin.Int.intBits a ≤ 64 := by
  have h' : a.natAbs < 2 ^ 64 := of_decide_eq_true h
  unfold Builtin.Int.intBits
  split
  · omega
  · rename_i hz
    have hne : a.natAbs ≠ 0 := by intro e; apply hz; simp; omega
    have := (Nat.log2_lt hne).mpr h'
    omega

section
variable {S : Stat} {A : Around} {X : List Addr} {f : List Loc} {σ : Sto} {s : Shared} {E : Value → Shared → Prop}

/-- the value, nothing else changed -/
noncomputable def PE (S : Stat) (X : List Addr) (f : List Loc) (s : Shared) (x : V) (v : Value) (s' : Shared) : Prop := Ext s s' ∧ VR S X f s'.heap x v ∧ ∀ xs, x = .lst xs → NewL S X f s s' xs v

theorem PE.int {i : Int} {t tk : Nat} : PE S X f s (.int i) (.int i t) { s with toks := tk } := ⟨.toks s tk, by rw [VR]; exact ⟨t, rfl⟩, fun _ e => by cases e⟩
theorem PE.bool {b : Bool} {tk : Nat} : PE S X f s (.bool b) (.bool b) { s with toks := tk } := ⟨.toks s tk, by rw [VR], fun _ e => by cases e⟩
theorem PE.bool0 {b : Bool} : PE S X f s (.bool b) (.bool b) s := ⟨.refl s, by rw [VR], fun _ e => by cases e⟩
theorem PE.str {x : Str} {t tk : Nat} (h1 : x.length ≤ LIM) (h2 : PyData.strOk x = true) : PE S X f s (.str x) (.str x t) { s with toks := tk } := ⟨.toks s tk, by rw [VR]; exact ⟨⟨t, rfl⟩, h1, h2⟩, fun _ e => by cases e⟩
theorem PE.intH {i : Int} {t : Tok} {h' : Heap} {tk : Nat} (k : ∀ b o, s.heap.get? b = some o → h'.get? b = some o) : PE S X f s (.int i) (.int i t) { s with heap := h', toks := tk } := ⟨.heap k, by rw [VR]; exact ⟨t, rfl⟩, fun _ e => by cases e⟩
theorem PE.boolH {i : Bool} {h' : Heap} {tk : Nat} (k : ∀ b o, s.heap.get? b = some o → h'.get? b = some o) : PE S X f s (.bool i) (.bool i) { s with heap := h', toks := tk } := ⟨.heap k, by rw [VR], fun _ e => by cases e⟩

theorem vr_int {i : Int} {v : Value} {h : Heap} (r : VR S X f h (.int i) v) : ∃ t, v = .int i t := by rwa [VR] at r
theorem vr_bool {i : Bool} {v : Value} {h : Heap} (r : VR S X f h (.bool i) v) : v = .bool i := by rwa [VR] at r
theorem vr_str {i : Str} {v : Value} {h : Heap} (r : VR S X f h (.str i) v) : (∃ t, v = .str i t) ∧ i.length ≤ LIM ∧ PyData.strOk i = true := by rwa [VR] at r
theorem vr_none {v : Value} {h : Heap} (r : VR S X f h .none v) : v = .none := by rwa [VR] at r
theorem vr_tup {xs : List V} {v : Value} {h : Heap} (r : VR S X f h (.tup xs) v) : ∃ a vs n, v = .ref a ∧ (a ∉ addrs f ∧ a ∉ X) ∧ IsT h a vs n ∧ VRs S X f h xs vs.toList ∧ xs.length ≤ LIM := by rwa [VR] at r

theorem strOk_append {x y : Str} (hx : PyData.strOk x = true) (hy : PyData.strOk y = true) : PyData.strOk (x ++ y) = true := by
  show (x.cps ++ y.cps).all _ = true
  rw [Array.all_append]
  exact Bool.and_eq_true_iff.mpr ⟨hx, hy⟩
theorem length_append (x y : Str) : (x ++ y).length = x.length + y.length := by show (x.cps ++ y.cps).size = _; simp [Str.length]

theorem VRs_size {xs : List V} {vs : Array Value} {h : Heap} (r : VRs S X f h xs vs.toList) : vs.size = xs.length := by
  have := VRs_length r; simpa using this.symm

theorem newL_push {vs : List Value} {xs : List V} {tk : Nat} (L : Lk S X f σ s.heap) (r : VRs S X f s.heap xs vs) (hl : xs.length ≤ LIM) :
    PE S X f s (.lst xs) (.ref s.heap.objs.size) { s with heap := s.heap.push { cls := .type "list", data := .seq vs.toArray }, toks := tk } := by
  have e : Ext s { s with heap := s.heap.push { cls := .type "list", data := .seq vs.toArray }, toks := tk } := .heap fun b o h => Heap.get?_push_of_some _ h
  have nl : NewL S X f s { s with heap := s.heap.push { cls := .type "list", data := .seq vs.toArray }, toks := tk } xs (.ref s.heap.objs.size) :=
    ⟨_, vs.toArray, 0, rfl, size_new _, Heap.get?_push_size _ rfl, by simpa using r, hl⟩
  exact ⟨e, nl.vr L e, fun ys q => by cases q; exact nl⟩
theorem newT_push {vs : List Value} {xs : List V} {tk : Nat} (L : Lk S X f σ s.heap) (r : VRs S X f s.heap xs vs) (hl : xs.length ≤ LIM) :
    PE S X f s (.tup xs) (.ref s.heap.objs.size) { s with heap := s.heap.push { cls := .type "tuple", data := .seq vs.toArray }, toks := tk } := by
  have e : Ext s { s with heap := s.heap.push { cls := .type "tuple", data := .seq vs.toArray }, toks := tk } := .heap fun b o h => Heap.get?_push_of_some _ h
  refine ⟨e, ?_, fun ys q => by cases q⟩
  rw [VR]
  exact ⟨_, vs.toArray, 0, rfl, L.new (size_new _), Heap.get?_push_size _ rfl, by simpa using e.vrs r, hl⟩

/-! ### arithmetic -/

theorem bin_int {op : Operator} {o : P2} (ho : binOf op = some o) {i j : Int} {x : V} {t u : Tok} (e : ev2 o σ (.int i) (.int j) = some x) :
    wpAny (model S.prog S.w) A (binaryOp op (.int i t) (.int j u)) (PE S X f s x) E s := by
  cases op <;> cases ho
  · cases e; exact PyProof.Rows.add_int .int
  · cases e; exact PyProof.Rows.sub_int .int
  · simp only [ev2] at e
    split at e
    · rename_i h
      cases e
      exact PyProof.Rows.mul_int .int ((Bool.or_eq_true_iff.mp h).elim (fun h => .of_left (bits_small h)) fun h => .of_right (bits_small h))
    · cases e
  · simp only [ev2] at e
    split at e
    · cases e
    · rename_i h
      cases e
      exact PyProof.Rows.mod_int (by simpa using h) .int
  · simp only [ev2] at e
    split at e
    · rename_i h
      cases e
      simp only [Bool.and_eq_true, beq_iff_eq, decide_eq_true_eq] at h
      obtain ⟨⟨rfl, h1⟩, h2⟩ := h
      exact pow_int_small h1 (by omega) (by decide) .int
    · cases e
  · simp only [ev2] at e
    split at e
    · cases e
    · rename_i h
      cases e
      simp only [Bool.or_eq_true, beq_iff_eq, decide_eq_true_eq, not_or, Nat.not_le] at h
      exact floordiv_int h.1 .int (.inl (PyProof.noPylong_small h.2))

theorem add_sound {a b x : V} {va vb : Value} (L : Lk S X f σ s.heap) (e : ev2 .add σ a b = some x) (ra : VR S X f s.heap a va) (rb : VR S X f s.heap b vb) :
    wpAny (model S.prog S.w) A (binaryOp .Add va vb) (PE S X f s x) E s := by
  have lists : ∀ {xs ys : List V}, listOf? σ a = some xs → listOf? σ b = some ys → xs.length + ys.length ≤ LIM → wpAny (model S.prog S.w) A (binaryOp .Add va vb) (PE S X f s (.lst (xs ++ ys))) E s := by
    intro xs ys h1 h2 h3
    obtain ⟨p, vs, n, rfl, il, r1, l1⟩ := list_at L h1 ra
    obtain ⟨q, ws, m, rfl, il', r2, l2⟩ := list_at L h2 rb
    have z1 := VRs_size r1
    have z2 := VRs_size r2
    refine P.add_list il il' ?_ (by rw [z1, z2]; exact Nat.le_trans h3 lim_size)
    have := newL_push (tk := s.toks) L (VRs_append r1 r2) (by simpa using h3)
    rwa [app_arr] at this
  have gen : (∀ i j, ¬ (a = .int i ∧ b = .int j)) → (∀ i j, ¬ (a = .str i ∧ b = .str j)) → (∀ i j, ¬ (a = .tup i ∧ b = .tup j)) →
      ((listOf? σ a).bind fun xs => (listOf? σ b).bind fun ys => if xs.length + ys.length ≤ LIM then some (V.lst (xs ++ ys)) else none) = some x → wpAny (model S.prog S.w) A (binaryOp .Add va vb) (PE S X f s x) E s := by
    intro _ _ _ e
    cases h1 : listOf? σ a with
    | none => simp [h1] at e
    | some xs =>
      cases h2 : listOf? σ b with
      | none => simp [h1, h2] at e
      | some ys =>
        simp only [h1, h2, Option.bind_some] at e
        split at e
        · rename_i h3; cases e; exact lists h1 h2 h3
        · cases e
  by_cases hi : ∃ i j, a = .int i ∧ b = .int j
  · obtain ⟨i, j, rfl, rfl⟩ := hi
    obtain ⟨t, rfl⟩ := vr_int ra
    obtain ⟨u, rfl⟩ := vr_int rb
    exact bin_int rfl e
  by_cases hs : ∃ i j, a = .str i ∧ b = .str j
  · obtain ⟨i, j, rfl, rfl⟩ := hs
    obtain ⟨⟨t, rfl⟩, a1, a2⟩ := vr_str ra
    obtain ⟨⟨u, rfl⟩, b1, b2⟩ := vr_str rb
    simp only [ev2] at e
    split at e
    · rename_i h
      cases e
      refine PyProof.Rows.add_str (fun t' tk => .str ?_ (strOk_append a2 b2)) (Nat.le_trans h (by decide))
      rw [length_append]; exact Nat.le_trans h (by decide)
    · cases e
  by_cases ht : ∃ i j, a = .tup i ∧ b = .tup j
  · obtain ⟨xs, ys, rfl, rfl⟩ := ht
    obtain ⟨p, vs, n, rfl, q1, il, r1, l1⟩ := vr_tup ra
    obtain ⟨q, ws, m, rfl, q2, il', r2, l2⟩ := vr_tup rb
    simp only [ev2] at e
    split at e
    · rename_i h3
      cases e
      have z1 := VRs_size r1
      have z2 := VRs_size r2
      by_cases hv : vs = #[]
      · subst hv
        have : xs = [] := List.length_eq_zero_iff.mp (by simpa using z1.symm)
        subst this
        refine concat_meets ⟨_, il, rfl⟩ ⟨_, il', rfl⟩ noFill_tuple_add seq_tuple_add PySem.F.slot_tuple_add PySem.F.entry_tuple_add (PySem.F.args_tuple_add_2 _ _) (tuple_addW0 p q #[] ws n m none none #[] #[] (by simp)) ⟨il, il', ?_⟩
        exact ⟨.refl s, rb, fun _ q => by cases q⟩
      · by_cases hw : ws = #[]
        · subst hw
          have : ys = [] := List.length_eq_zero_iff.mp (by simpa using z2.symm)
          subst this
          refine concat_meets ⟨_, il, rfl⟩ ⟨_, il', rfl⟩ noFill_tuple_add seq_tuple_add PySem.F.slot_tuple_add PySem.F.entry_tuple_add (PySem.F.args_tuple_add_2 _ _) (tuple_addW1 p q vs #[] n m none none #[] #[] (by simpa using hv) (by simp)) ⟨il, il', ?_⟩
          rw [List.append_nil]
          exact ⟨.refl s, ra, fun _ q => by cases q⟩
        · refine P.add_tuple il il' (by simpa using hv) (by simpa using hw) ?_ (by rw [z1, z2]; exact Nat.le_trans h3 lim_size)
          have := newT_push (tk := s.toks) L (VRs_append r1 r2) (by simpa using h3)
          rwa [app_arr] at this
    · cases e
  refine gen (fun i j q => hi ⟨i, j, q⟩) (fun i j q => hs ⟨i, j, q⟩) (fun i j q => ht ⟨i, j, q⟩) ?_
  simp only [ev2] at e
  split at e
  · exact absurd ⟨_, _, rfl, rfl⟩ hi
  · exact absurd ⟨_, _, rfl, rfl⟩ hs
  · exact absurd ⟨_, _, rfl, rfl⟩ ht
  · exact e

/-! ### comparisons of ints -/

theorem cmp_int {op : CmpOp} {o : P2} (ho : cmpOf op = some o) (hn : op ≠ .Eq ∧ op ≠ .NotEq ∧ op ≠ .In ∧ op ≠ .NotIn) {i j : Int} {x : V} {t u : Tok} (e : ev2 o σ (.int i) (.int j) = some x) :
    wpAny (model S.prog S.w) A (compareOp op (.int i t) (.int j u)) (PE S X f s x) E s := by
  cases op <;> cases ho
  · exact absurd rfl hn.1
  · exact absurd rfl hn.2.1
  · cases e; exact P.lt_int .bool0
  · cases e; exact P.le_int .bool0
  · cases e; exact P.gt_int .bool0
  · cases e; exact P.ge_int .bool0
  · exact absurd rfl hn.2.2.1
  · exact absurd rfl hn.2.2.2

/-- ordering compares ints alone -/
theorem cmp_ints {op : CmpOp} {o : P2} (ho : cmpOf op = some o) (hn : op ≠ .Eq ∧ op ≠ .NotEq ∧ op ≠ .In ∧ op ≠ .NotIn) {a b x : V} (e : ev2 o σ a b = some x) : ∃ i j, a = .int i ∧ b = .int j := by
  cases op <;> cases ho
  · exact absurd rfl hn.1
  · exact absurd rfl hn.2.1
  all_goals first
    | exact absurd rfl hn.2.2.1
    | exact absurd rfl hn.2.2.2
    | (simp only [ev2] at e
       split at e
       · exact ⟨_, _, rfl, rfl⟩
       · cases e)

/-! ### truth -/

theorem truthy_sound {a : V} {va : Value} {b : Bool} (L : Lk S X f σ s.heap) (e : truthy σ a = some b) (ra : VR S X f s.heap a va) :
    wpAny (model S.prog S.w) A (PySem.truthy va) (fun c s' => c = b ∧ Ext s s') E s := by
  cases a with
  | none => obtain rfl := vr_none ra; cases e; exact wpAny_pure ⟨rfl, .refl s⟩
  | bool c => obtain rfl := vr_bool ra; cases e; exact wpAny_truthy_bool ⟨rfl, .refl s⟩
  | int i => obtain ⟨t, rfl⟩ := vr_int ra; cases e; exact P.truthy_int ⟨rfl, .refl s⟩
  | str x =>
    obtain ⟨⟨t, rfl⟩, h1, h2⟩ := vr_str ra
    cases e
    refine P.truthy_str (by have := lim_long h1; omega) ⟨?_, .toks s _⟩
    cases h : x.length <;> simp
    omega
  | tup xs =>
    obtain ⟨p, vs, n, rfl, q1, il, r1, l1⟩ := vr_tup ra
    cases e
    have z := VRs_size r1
    refine PyProof.Rows.truthy_tuple ⟨_, il, rfl, n, rfl⟩ (by rw [z]; exact lim_long l1) ⟨?_, .toks s _⟩
    cases xs <;> simp_all [Array.isEmpty]
  | lst xs =>
    cases e
    obtain ⟨p, vs, n, rfl, il, r1, l1⟩ := list_at L (x := .lst xs) rfl ra
    have z := VRs_size r1
    refine wpAny_truthy_list (IsL.isList il) (by rw [z]; exact lim_long l1) ⟨?_, .toks s _⟩
    cases xs <;> simp_all [Array.isEmpty]
  | ref k =>
    simp only [truthy] at e
    split at e
    · rename_i ys ho
      cases e
      obtain ⟨p, vs, n, rfl, il, r1, l1⟩ := list_at L (x := .ref k) (xs := ys) (by simp [listOf?, ho]) ra
      have z := VRs_size r1
      refine wpAny_truthy_list (IsL.isList il) (by rw [z]; exact lim_long l1) ⟨?_, .toks s _⟩
      cases ys <;> simp_all [Array.isEmpty]
    · cases e
  | undef => cases e
  | exc _ => cases e
  | parts => cases e

/-! ### length, items -/

theorem len_seq {v : Value} {xs : List V} {a : Addr} {vs : Array Value} {n : Nat} (hv : v = .ref a) (il : IsL s.heap a vs n ∨ IsT s.heap a vs n) (r : VRs S X f s.heap xs vs.toList) (l : xs.length ≤ LIM) :
    wpAny (model S.prog S.w) A (call (.builtin "len") [v]) (PE S X f s (.int xs.length)) E s := by
  subst hv
  have z := VRs_size r
  rcases il with il | il
  · have := Calls.call_len_list (prog := S.prog) (w := S.w) (A := A) (E := E) (Q := PE S X f s (.int xs.length)) (IsL.isList il) (by rw [z]; exact lim_long l) (by rw [z]; exact .int)
    exact this
  · exact PyProof.Rows.len_tuple ⟨_, il, rfl, n, rfl⟩ (by rw [z]; exact lim_long l) (by rw [z]; exact .int)

theorem len_sound {a x : V} {va : Value} (L : Lk S X f σ s.heap) (e : ev1 .len σ a = some x) (ra : VR S X f s.heap a va) :
    wpAny (model S.prog S.w) A (call (.builtin "len") [va]) (PE S X f s x) E s := by
  have gen : ∀ {xs : List V}, itemsOf σ a = some xs → x = .int xs.length → wpAny (model S.prog S.w) A (call (.builtin "len") [va]) (PE S X f s x) E s := by
    intro xs h1 h2
    obtain ⟨p, vs, n, h3, il, r1, l1⟩ := items_at L h1 ra
    rw [h2]; exact len_seq h3 il r1 l1
  cases a with
  | str y =>
    obtain ⟨⟨t, rfl⟩, h1, h2⟩ := vr_str ra
    cases e
    exact PyProof.Rows.len_str (by have := lim_long h1; omega) .int
  | tup xs => simp only [ev1, itemsOf, Option.map_some, Option.some.injEq] at e; exact gen rfl e.symm
  | lst xs => simp only [ev1, itemsOf, Option.map_some, Option.some.injEq] at e; exact gen rfl e.symm
  | ref k =>
    simp only [ev1] at e
    split at e
    · rename_i ys ho
      cases e
      exact gen (xs := ys) (by simp [itemsOf, ho]) rfl
    · cases e
  | _ => simp [ev1, itemsOf] at e

theorem normIndex_spec {n : Nat} {i : Int} {k : Nat} (h : normIndex n i = some k) : seqIndex? i n = some k ∧ k < n ∧ (0 ≤ i → k = i.toNat) ∧ (i < 0 → 0 ≤ i + n ∧ k = (i + n).toNat) := by
  unfold normIndex at h
  split at h
  · rename_i h0
    split at h
    · rename_i h1
      cases h
      refine ⟨seqIndex_of h0 (by omega), h1, fun _ => rfl, fun h => by omega⟩
    · cases h
  · rename_i h0
    split at h
    · rename_i h1
      cases h
      refine ⟨seqIndex_neg (by omega) (by omega), by omega, fun h => by omega, fun _ => ⟨h1, rfl⟩⟩
    · cases h

theorem getItem_seq {xs : List V} {a : Addr} {vs : Array Value} {n : Nat} {i : Int} {t : Tok} {k : Nat} {x : V} (il : IsL s.heap a vs n ∨ IsT s.heap a vs n) (r : VRs S X f s.heap xs vs.toList) (l : xs.length ≤ LIM)
    (hk : normIndex xs.length i = some k) (hx : xs[k]? = some x) :
    wpAny (model S.prog S.w) A (getItem (.ref a) (.int i t)) (fun v s' => s' = s ∧ VR S X f s.heap x v) E s := by
  have z := VRs_size r
  obtain ⟨v, hv, rv⟩ := VRs_get r hx
  rw [Array.getElem?_toList] at hv
  obtain ⟨h1, h2, h3, h4⟩ := normIndex_spec hk
  have hl := lim_long l
  rcases il with il | il
  · by_cases h0 : 0 ≤ i
    · rw [h3 h0] at hv
      exact wpAny_getItem_list (IsL.isList il) h0 (by have := h3 h0; omega) hv ⟨rfl, rv⟩
    · obtain ⟨h5, h6⟩ := h4 (by omega)
      rw [h6] at hv
      exact wpAny_getItem_list_neg (IsL.isList il) (by omega) (by rw [z]; omega) (by omega) (by rw [z]; exact hv) ⟨rfl, rv⟩
  · refine PyProof.Rows.getItem_tuple ⟨_, il, rfl, n, rfl⟩ ?_ ?_ (by rw [z]; exact h1) hv ⟨rfl, rv⟩
    · by_cases h0 : 0 ≤ i
      · omega
      · have := h4 (by omega); omega
    · by_cases h0 : 0 ≤ i
      · have := h3 h0; omega
      · omega
end

end Mine
end

/-! # Ops3 -/
section
set_option autoImplicit false
namespace Mine
open PySem PyProof.Rows

theorem clip_start (n : Nat) (lo : Option Int) : sliceStart n lo = lo.elim 0 (clipAt n) := by
  cases lo with
  | none => rfl
  | some i =>
    show (if i < 0 then (i + n).toNat else min i.toNat n) = (max 0 (min (if i < 0 then i + n else i) n)).toNat
    split <;> omega
theorem clip_stop (n : Nat) (hi : Option Int) : sliceStop n hi = hi.elim n (clipAt n) := by
  cases hi with
  | none => rfl
  | some i =>
    show (if i < 0 then (i + n).toNat else min i.toNat n) = (max 0 (min (if i < 0 then i + n else i) n)).toNat
    split <;> omega
theorem sliceStart_le (n : Nat) (lo : Option Int) : sliceStart n lo ≤ n := by
  cases lo with
  | none => exact Nat.zero_le _
  | some i => show (if i < 0 then (i + n).toNat else min i.toNat n) ≤ n; split <;> omega
theorem sliceStop_le (n : Nat) (hi : Option Int) : sliceStop n hi ≤ n := by
  cases hi with
  | none => exact Nat.le_refl _
  | some i => show (if i < 0 then (i + n).toNat else min i.toNat n) ≤ n; split <;> omega
theorem sliceL_eq {α : Type} (xs : List α) (lo hi : Option Int) : sliceL xs lo hi = (xs.drop (sliceStart xs.length lo)).take (sliceStop xs.length hi - sliceStart xs.length lo) := by
  unfold sliceL; rw [List.drop_take]
theorem sliceL_len {α : Type} (xs : List α) (lo hi : Option Int) : (sliceL xs lo hi).length ≤ xs.length := by
  unfold sliceL; simp; omega

theorem adjust_plain (lo hi : Option Int) (n : Nat) : Builtin.Slice.sliceAdjust lo hi 1 (n : Int) = ((sliceStart n lo : Int), (sliceStop n hi : Int)) := by
  have h1 : ¬ ((1 : Int) < 0) := by omega
  unfold Builtin.Slice.sliceAdjust
  simp only [h1, if_false]
  congr 1
  · cases lo with
    | none => rfl
    | some i => show (if i < 0 then max (i + n) 0 else min i n) = ((if i < 0 then (i + n).toNat else min i.toNat n : Nat) : Int); split <;> omega
  · cases hi with
    | none => rfl
    | some i => show (if i < 0 then max (i + n) 0 else min i n) = ((if i < 0 then (i + n).toNat else min i.toNat n : Nat) : Int); split <;> omega
theorem places_plain (a b : Nat) : Builtin.Slice.slicePlaces (a : Int) (b : Int) 1 = b - a := by
  unfold Builtin.Slice.slicePlaces
  have h1 : (1 : Int) > 0 := by omega
  simp only [h1, if_true, Int.ediv_one]
  split <;> omega

theorem pick_plain (xs : Array Value) (a k : Nat) : ((List.range k).filterMap fun (i : Nat) => xs[((a : Int) + (i : Int) * 1).toNat]?).toArray = ((xs.toList.drop a).take k).toArray := by
  have e : (fun (i : Nat) => xs[((a : Int) + (i : Int) * 1).toNat]?) = fun i => xs[a + i]? := by
    funext i
    have : ((a : Int) + (i : Int) * 1).toNat = a + i := by omega
    rw [this]
  rw [e]
  have := pick_run xs a k
  rw [List.filterMap_map] at this
  have e2 : ((fun x => xs[x]?) ∘ fun x => a + x) = fun k => xs[a + k]? := rfl
  rw [e2] at this
  rw [this]

section
variable {S : Stat} {A : Around} {X : List Addr} {f : List Loc} {σ : Sto} {s : Shared} {E : Value → Shared → Prop}

theorem slicePart_any {v : Value} {k : Option Int} {Q : Option Int → Shared → Prop} (hv : IsPart v k) (h : Q k s) : wpAny (model S.prog S.w) A (Builtin.Slice.slicePartIndex v) Q E s := by
  cases hv with
  | none => exact slicePart_none h
  | int i t => exact slicePart_int h

theorem sliceApplied_plain {sl : Addr} {vl vu : Value} {lo hi : Option Int} {n : Nat} {Q : Int × Int × Nat → Shared → Prop} (hs : s.heap.IsSliceOf sl vl vu .none) (pl : IsPart vl lo) (pu : IsPart vu hi)
    (h : Q ((sliceStart n lo : Int), 1, sliceStop n hi - sliceStart n lo) s) :
    wpAny (model S.prog S.w) A (Builtin.Slice.sliceApplied (.ref sl) (pure (n : Int))) Q E s := by
  obtain ⟨os, hos, hcs, hds⟩ := id hs
  unfold Builtin.Slice.sliceApplied Builtin.Slice.sliceFields
  refine wpAny_bind (wpAny_bind (wpAny_field hos hds (x := vl) rfl (wpAny_bind (wpAny_field hos hds (x := vu) rfl (wpAny_bind (wpAny_field hos hds (x := .none) rfl (wpAny_pure ?_)))))))
  refine wpAny_bind (slicePart_none ?_)
  show wpAny _ _ (if ((1 : Int) == 0) = true then _ else _) _ _ s
  rw [if_neg (by decide)]
  refine wpAny_bind (slicePart_any pl (wpAny_bind (slicePart_any pu (wpAny_bind (wpAny_pure ?_)))))
  show wpAny _ _ (match Builtin.Slice.sliceAdjust lo hi 1 (n : Int) with | (lo, hi) => pure (lo, (1 : Int), Builtin.Slice.slicePlaces lo hi 1)) _ _ s
  rw [adjust_plain]
  show wpAny _ _ (pure ((sliceStart n lo : Int), (1 : Int), Builtin.Slice.slicePlaces (sliceStart n lo : Int) (sliceStop n hi : Int) 1)) _ _ s
  rw [places_plain]
  exact wpAny_pure h

theorem tuple_slice_sound {t sl : Addr} {xs : List V} {vs : Array Value} {n : Nat} {vl vu : Value} {lo hi : Option Int} (L : Lk S X f σ s.heap) (q : t ∉ addrs f ∧ t ∉ X) (il : IsT s.heap t vs n) (r : VRs S X f s.heap xs vs.toList) (l : xs.length ≤ LIM)
    (hs : s.heap.IsSliceOf sl vl vu .none) (pl : IsPart vl lo) (pu : IsPart vu hi) :
    wpAny (model S.prog S.w) A (getItem (.ref t) (.ref sl)) (PE S X f s (.tup (sliceL xs lo hi))) E s := by
  have ht : IsTup s.heap t vs := ⟨_, il, rfl, n, rfl⟩
  have z := VRs_size r
  obtain ⟨os, hos, hcs, hds⟩ := id hs
  have hTs : s.TypeIs (.ref sl) "slice" := ⟨os, hos, hcs⟩
  unfold getItem
  try with_reducible refine wpAny_holding ?_
  first | refine wpAny_bind (wpAny_pure ?_) | skip
  refine wpAny_bind (wpAny_sequenceKey ht.typeIs (by decide) ?_)
  refine wpAny_bind (wpAny_callSpecial?_slot (name := Str.ofString "__getitem__") ht.typeIs slot_tuple_getitem
    (wpAny_call_entry slot_tuple_getitem ht.typeIs entry_tuple_getitem ?_ (args_tuple_getitem _ _)))
  show wpAny _ _ (Builtin.Tuple.tupleItemsOf (.ref t) >>= _) _ _ s
  refine wpAny_bind (tupleItemsOf_ ht ?_)
  refine wpAny_bind (wpAny_typeOf hTs ?_)
  rw [if_pos (by decide)]
  refine wpAny_bind (sliceApplied_plain hs pl pu ?_)
  show wpAny _ _ (if ((sliceStart vs.size lo : Int) == 0 && (1 : Int) == 1 && (sliceStop vs.size hi - sliceStart vs.size lo) == vs.size) = true then _ else _) _ _ s
  by_cases hw : ((sliceStart vs.size lo : Int) == 0 && (1 : Int) == 1 && (sliceStop vs.size hi - sliceStart vs.size lo) == vs.size) = true
  · rw [if_pos hw]
    simp only [Bool.and_eq_true, beq_iff_eq] at hw
    have hz : sliceStart vs.size lo = 0 := by have := hw.1.1; omega
    have he : sliceL xs lo hi = xs := by
      rw [sliceL_eq, ← z, hz, List.drop_zero, List.take_of_length_le]
      have := hw.2; rw [hz] at this; omega
    rw [he]
    have fin : PE S X f s (.tup xs) (.ref t) s := ⟨.refl s, by rw [VR]; exact ⟨t, vs, n, rfl, q, il, r, l⟩, fun _ q => by cases q⟩
    unfold Builtin.Tuple.tupleIsExact
    refine wpAny_bind (wpAny_bind (wpAny_typeOf ht.typeIs (wpAny_pure ?_)))
    rw [if_pos (by decide)]
    exact wpAny_bind (wpAny_rule (wpAny_pure ⟨_, rfl, wpAny_pure fin⟩))
  · rw [if_neg hw, pick_plain]
    have hd : ((vs.toList.drop (sliceStart vs.size lo)).take (sliceStop vs.size hi - sliceStart vs.size lo)) = sliceL vs.toList lo hi := by rw [sliceL_eq]; simp
    rw [hd]
    have hdrop : sizeOk (.seq (sliceL vs.toList lo hi).toArray) := by
      show (sliceL vs.toList lo hi).toArray.size ≤ sizeLine
      rw [List.size_toArray]
      have := sliceL_len vs.toList lo hi
      have h2 : vs.toList.length = xs.length := by simpa using z
      have := lim_size
      omega
    have rr : VRs S X f s.heap (sliceL xs lo hi) (sliceL vs.toList lo hi) := by
      unfold sliceL
      have h2 : vs.toList.length = xs.length := by simpa using z
      rw [h2]
      exact VRs_drop (VRs_take r _) _
    have h := newT_push (tk := s.toks) L rr (Nat.le_trans (sliceL_len xs lo hi) l)
    first
      | exact wpAny_bind (m := Builtin.Tuple.tupleExact _) (wpAny_newObj_type (wpAny_pure ⟨_, rfl, wpAny_pure h⟩) hdrop)
      | exact wpAny_bind (m := Builtin.Tuple.tupleExact _) (wpAny_newObj_type (wpAny_bind (wpAny_pure (wpAny_pure ⟨_, rfl, wpAny_pure h⟩))) hdrop)
      | exact wpAny_bind (wpAny_bind (m := Builtin.Tuple.tupleExact _) (wpAny_newObj_type (wpAny_pure (wpAny_pure ⟨_, rfl, wpAny_pure h⟩)) hdrop))
      | exact wpAny_bind (wpAny_bind (m := Builtin.Tuple.tupleExact _) (wpAny_newObj_type (wpAny_pure ⟨_, rfl, wpAny_pure h⟩) hdrop))

theorem list_slice_sound {t sl : Addr} {xs : List V} {vs : Array Value} {n : Nat} {vl vu : Value} {lo hi : Option Int} (L : Lk S X f σ s.heap) (il : IsL s.heap t vs n) (r : VRs S X f s.heap xs vs.toList) (l : xs.length ≤ LIM)
    (hs : s.heap.IsSliceOf sl vl vu .none) (pl : IsPart vl lo) (pu : IsPart vu hi) :
    wpAny (model S.prog S.w) A (getItem (.ref t) (.ref sl)) (PE S X f s (.lst (sliceL xs lo hi))) E s := by
  have z := VRs_size r
  refine wpAny_getItem_list_slice (IsL.isList il) hs pl pu .none (by simp) ?_ (by rw [z]; exact Nat.le_trans l lim_size)
  rw [slicePick_plain, ← clip_start, ← clip_stop]
  have hd : ((vs.toList.drop (sliceStart vs.size lo)).take (sliceStop vs.size hi - sliceStart vs.size lo)) = sliceL vs.toList lo hi := by rw [sliceL_eq]; simp
  rw [hd]
  have rr : VRs S X f s.heap (sliceL xs lo hi) (sliceL vs.toList lo hi) := by
    unfold sliceL
    have h2 : vs.toList.length = xs.length := by simpa using z
    rw [h2]
    exact VRs_drop (VRs_take r _) _
  exact newL_push (tk := s.toks) L rr (Nat.le_trans (sliceL_len xs lo hi) l)
end

end Mine
end

/-! # Ops4 -/
section
set_option autoImplicit false
namespace Mine
open PySem PyProof.Rows

section
variable {S : Stat} {A : Around} {X : List Addr} {f : List Loc} {σ : Sto} {s : Shared} {E : Value → Shared → Prop}

theorem intItems_of (ys : List (Int × Tok)) : (ys.map fun p => Value.int p.1 p.2).toArray = intItems ys.toArray := by simp [intItems]

theorem ints_list {a : V} {va : Value} {xs : List V} {l : List Int} (L : Lk S X f σ s.heap) (h1 : listOf? σ a = some xs) (h2 : ints? xs = some l) (ra : VR S X f s.heap a va) :
    ∃ (p : Addr) (ys : List (Int × Tok)), va = .ref p ∧ s.heap.IsList p (intItems ys.toArray) ∧ ys.map (·.1) = l := by
  obtain ⟨p, vs, n, rfl, il, r, _⟩ := list_at L h1 ra
  obtain ⟨ys, e1, e2⟩ := ints_at h2 r
  refine ⟨p, ys, rfl, ?_, e2⟩
  rw [← intItems_of, ← e1]
  exact IsL.isList il

theorem sum_sound {a x : V} {va : Value} (hh : A.handled = none) (L : Lk S X f σ s.heap) (e : ev1 .sum σ a = some x) (ra : VR S X f s.heap a va) :
    wpAny (model S.prog S.w) A (call (.builtin "sum") [va]) (PE S X f s x) E s := by
  simp only [ev1] at e
  cases h1 : listOf? σ a with
  | none => simp [h1] at e
  | some xs =>
    cases h2 : ints? xs with
    | none => simp [h1, h2] at e
    | some l =>
      simp [h1, h2] at e
      subst e
      obtain ⟨p, ys, rfl, il, rfl⟩ := ints_list L h1 h2 ra
      refine sum_intListG hh il fun h' tk t' k => ?_
      rw [preSum_eq, List.take_of_length_le (by simp)]
      exact .intH k

theorem best_min (l : List Int) (m : Int) (hm : m ∈ l) (hle : ∀ a ∈ l, m ≤ a) : minL l = some m := by
  cases l with
  | nil => cases hm
  | cons x xs =>
    simp only [minL]
    congr 1
    have key : ∀ (ys : List Int) (b : Int), (ys.foldl (fun m y => if y < m then y else m) b ∈ b :: ys) ∧ ∀ a ∈ b :: ys, ys.foldl (fun m y => if y < m then y else m) b ≤ a := by
      intro ys
      induction ys with
      | nil => intro b; simp
      | cons y ys ih =>
        intro b
        simp only [List.foldl_cons]
        obtain ⟨h1, h2⟩ := ih (if y < b then y else b)
        constructor
        · rcases List.mem_cons.mp h1 with h | h
          · rw [h]; split <;> simp
          · exact List.mem_cons_of_mem _ (List.mem_cons_of_mem _ h)
        · intro a ha
          have h0 := h2 (if y < b then y else b) (List.mem_cons_self)
          have hb : (if y < b then y else b) ≤ b := by split <;> omega
          have hy : (if y < b then y else b) ≤ y := by split <;> omega
          rcases List.mem_cons.mp ha with rfl | ha
          · exact Int.le_trans h0 hb
          · rcases List.mem_cons.mp ha with rfl | ha
            · exact Int.le_trans h0 hy
            · exact h2 a (List.mem_cons_of_mem _ ha)
    obtain ⟨h1, h2⟩ := key xs x
    exact Int.le_antisymm (h2 m hm) (hle _ h1)
theorem best_max (l : List Int) (m : Int) (hm : m ∈ l) (hle : ∀ a ∈ l, a ≤ m) : maxL l = some m := by
  cases l with
  | nil => cases hm
  | cons x xs =>
    simp only [maxL]
    congr 1
    have key : ∀ (ys : List Int) (b : Int), (ys.foldl (fun m y => if y > m then y else m) b ∈ b :: ys) ∧ ∀ a ∈ b :: ys, a ≤ ys.foldl (fun m y => if y > m then y else m) b := by
      intro ys
      induction ys with
      | nil => intro b; simp
      | cons y ys ih =>
        intro b
        simp only [List.foldl_cons]
        obtain ⟨h1, h2⟩ := ih (if y > b then y else b)
        constructor
        · rcases List.mem_cons.mp h1 with h | h
          · rw [h]; split <;> simp
          · exact List.mem_cons_of_mem _ (List.mem_cons_of_mem _ h)
        · intro a ha
          have h0 := h2 (if y > b then y else b) (List.mem_cons_self)
          have hb : b ≤ (if y > b then y else b) := by split <;> omega
          have hy : y ≤ (if y > b then y else b) := by split <;> omega
          rcases List.mem_cons.mp ha with rfl | ha
          · exact Int.le_trans hb h0
          · rcases List.mem_cons.mp ha with rfl | ha
            · exact Int.le_trans hy h0
            · exact h2 a (List.mem_cons_of_mem _ ha)
    obtain ⟨h1, h2⟩ := key xs x
    exact Int.le_antisymm (hle _ h1) (h2 m hm)

theorem min_sound {a x : V} {va : Value} (hh : A.handled = none) (L : Lk S X f σ s.heap) (e : ev1 .min σ a = some x) (ra : VR S X f s.heap a va) :
    wpAny (model S.prog S.w) A (call (.builtin "min") [va]) (PE S X f s x) E s := by
  simp only [ev1] at e
  cases h1 : listOf? σ a with
  | none => simp [h1] at e
  | some xs =>
    cases h2 : ints? xs with
    | none => simp [h1, h2] at e
    | some l =>
      cases h3 : minL l with
      | none => simp [h1, h2, h3] at e
      | some m =>
        simp [h1, h2, h3] at e
        subst e
        obtain ⟨p, ys, rfl, il, rfl⟩ := ints_list L h1 h2 ra
        have hne : 0 < ys.toArray.size := by
          cases ys with
          | nil => simp [minL] at h3
          | cons y ys => simp
        refine min_intList hh il hne fun v h' tk hv k => ?_
        obtain ⟨t, rfl⟩ := intItems_at hv
        obtain ⟨g1, g2⟩ := argBest_lt (numAt ys.toArray) (ys.toArray.size - 1)
        have := best_min (ys.map (·.1)) (numAt ys.toArray (argBest (fun i j => decide (numAt ys.toArray i < numAt ys.toArray j)) (ys.toArray.size - 1)))
          (by rw [numAt_eq]; exact PySem.getD_mem (by simp; simp at g1 hne; omega))
          (fun a ha => by obtain ⟨j, hj, rfl⟩ := PySem.mem_getD ha; have := g2 j (by simp at hj ⊢; omega); rw [numAt_eq ys.toArray j] at this; simpa using this)
        rw [h3] at this
        cases this
        exact .intH k
theorem max_sound {a x : V} {va : Value} (hh : A.handled = none) (L : Lk S X f σ s.heap) (e : ev1 .max σ a = some x) (ra : VR S X f s.heap a va) :
    wpAny (model S.prog S.w) A (call (.builtin "max") [va]) (PE S X f s x) E s := by
  simp only [ev1] at e
  cases h1 : listOf? σ a with
  | none => simp [h1] at e
  | some xs =>
    cases h2 : ints? xs with
    | none => simp [h1, h2] at e
    | some l =>
      cases h3 : maxL l with
      | none => simp [h1, h2, h3] at e
      | some m =>
        simp [h1, h2, h3] at e
        subst e
        obtain ⟨p, ys, rfl, il, rfl⟩ := ints_list L h1 h2 ra
        have hne : 0 < ys.toArray.size := by
          cases ys with
          | nil => simp [maxL] at h3
          | cons y ys => simp
        refine max_intList hh il hne fun v h' tk hv k => ?_
        obtain ⟨t, rfl⟩ := intItems_at hv
        obtain ⟨g1, g2⟩ := argBest_gt (numAt ys.toArray) (ys.toArray.size - 1)
        have := best_max (ys.map (·.1)) (numAt ys.toArray (argBest (fun i j => decide (numAt ys.toArray i > numAt ys.toArray j)) (ys.toArray.size - 1)))
          (by rw [numAt_eq]; exact PySem.getD_mem (by simp; simp at g1 hne; omega))
          (fun a ha => by obtain ⟨j, hj, rfl⟩ := PySem.mem_getD ha; have := g2 j (by simp at hj ⊢; omega); rw [numAt_eq ys.toArray j] at this; simpa using this)
        rw [h3] at this
        cases this
        exact .intH k

theorem toList_sound {a x : V} {va : Value} (L : Lk S X f σ s.heap) (e : ev1 .toList σ a = some x) (ra : VR S X f s.heap a va) :
    wpAny (model S.prog S.w) A (call (.type "list") [va]) (PE S X f s x) E s := by
  simp only [ev1] at e
  cases h1 : itemsOf σ a with
  | none => simp [h1] at e
  | some xs =>
    simp [h1] at e
    subst e
    obtain ⟨p, vs, n, rfl, il, r, l⟩ := items_at L h1 ra
    have z := VRs_size r
    have fin : ∀ (h' : Heap) (c' : Nat), (∀ b o', s.heap.get? b = some o' → h'.get? b = some o') → h'.get? s.heap.objs.size = some { cls := .type "list", data := .seq vs c' } → PE S X f s (.lst xs) (.ref s.heap.objs.size) { s with heap := h' } := by
      intro h' c' k hl
      have e : Ext s { s with heap := h' } := .heap (t := s.toks) k
      have nl : NewL S X f s { s with heap := h' } xs (.ref s.heap.objs.size) := ⟨_, vs, c', rfl, size_new _, hl, r, l⟩
      exact ⟨e, nl.vr L e, fun ys q => by cases q; exact nl⟩
    rcases il with il | il
    · exact call_list_seq p (T := "list") (.inl rfl) il rfl rfl fin (by rw [z]; exact Nat.le_trans l lim_size)
    · exact call_list_seq p (T := "tuple") (.inr rfl) il rfl rfl fin (by rw [z]; exact Nat.le_trans l lim_size)

theorem abs_sound {i : Int} {t : Tok} : wpAny (model S.prog S.w) A (call (.builtin "abs") [.int i t]) (PE S X f s (.int i.natAbs)) E s := by
  refine call_abs_int fun u tk => ?_
  have : (if i < 0 then -i else i) = (i.natAbs : Int) := by split <;> omega
  rw [this]; exact .int
theorem neg_sound {i : Int} {t : Tok} : wpAny (model S.prog S.w) A (unaryOp .USub (.int i t)) (PE S X f s (.int (-i))) E s := PyProof.Rows.neg_int .int
theorem min2_sound {i j : Int} {t u : Tok} (hh : A.handled = none) : wpAny (model S.prog S.w) A (call (.builtin "min") [.int i t, .int j u]) (PE S X f s (.int (if j < i then j else i))) E s := by
  refine min_two_ints hh fun h' tk k => ?_
  split <;> exact .intH k
theorem max2_sound {i j : Int} {t u : Tok} (hh : A.handled = none) : wpAny (model S.prog S.w) A (call (.builtin "max") [.int i t, .int j u]) (PE S X f s (.int (if j > i then j else i))) E s := by
  refine max_two_ints hh fun h' tk k => ?_
  split <;> exact .intH k

/-! ### equality -/

mutual
theorem toPy_reads {h : Heap} (L : Lk S X f σ h) : ∀ (d : Nat) (x : V) (v : Value) (p : PyData), toPy σ d x = some p → VR S X f h x v → (∃ as, Reads h v p as) ∧ p.canLay0 = true ∧ p.depth ≤ d
  | 0, _, _, _, e, _ => by simp [toPy] at e
  | d + 1, x, v, p, e, r => by
    cases x with
    | none => obtain rfl := vr_none r; simp [toPy] at e; subst e; exact ⟨⟨_, .none⟩, rfl, Nat.zero_le _⟩
    | bool b => obtain rfl := vr_bool r; simp [toPy] at e; subst e; exact ⟨⟨_, .bool b⟩, rfl, Nat.zero_le _⟩
    | int i => obtain ⟨t, rfl⟩ := vr_int r; simp [toPy] at e; subst e; exact ⟨⟨_, .int i t⟩, rfl, Nat.zero_le _⟩
    | str y => obtain ⟨⟨t, rfl⟩, h1, h2⟩ := vr_str r; simp [toPy] at e; subst e; exact ⟨⟨_, .str y t⟩, h2, Nat.zero_le _⟩
    | tup xs =>
      obtain ⟨a, vs, n, rfl, _, il, rs, _⟩ := vr_tup r
      simp only [toPy, Option.map_eq_some_iff] at e
      obtain ⟨ps, e1, rfl⟩ := e
      obtain ⟨⟨as, r1⟩, r2, r3⟩ := toPy_readsAll L d xs vs.toList ps e1 rs
      refine ⟨⟨_, .tuple il rfl rfl r1⟩, r2, ?_⟩
      simp only [PyData.depth]; omega
    | lst xs =>
      obtain ⟨a, vs, n, rfl, il, rs, _⟩ := list_at L (x := .lst xs) rfl r
      simp only [toPy, Option.map_eq_some_iff] at e
      obtain ⟨ps, e1, rfl⟩ := e
      obtain ⟨⟨as, r1⟩, r2, r3⟩ := toPy_readsAll L d xs vs.toList ps e1 rs
      refine ⟨⟨_, .list il rfl rfl r1⟩, r2, ?_⟩
      simp only [PyData.depth]; omega
    | ref k =>
      simp only [toPy] at e
      split at e
      · rename_i xs ho
        obtain ⟨a, vs, n, rfl, il, rs, _⟩ := list_at L (x := .ref k) (xs := xs) (by simp [listOf?, ho]) r
        simp only [Option.map_eq_some_iff] at e
        obtain ⟨ps, e1, rfl⟩ := e
        obtain ⟨⟨as, r1⟩, r2, r3⟩ := toPy_readsAll L d xs vs.toList ps e1 rs
        refine ⟨⟨_, .list il rfl rfl r1⟩, r2, ?_⟩
        simp only [PyData.depth]; omega
      · cases e
    | undef => simp [toPy] at e
    | exc _ => simp [toPy] at e
    | parts => simp [toPy] at e
theorem toPy_readsAll {h : Heap} (L : Lk S X f σ h) : ∀ (d : Nat) (xs : List V) (vs : List Value) (ps : List PyData), xs.mapM (toPy σ d) = some ps → VRs S X f h xs vs → (∃ as, ReadsAll h vs ps as) ∧ PyData.canLayAll0 ps = true ∧ PyData.depthAll ps ≤ d
  | d, [], [], ps, e, _ => by simp at e; subst e; exact ⟨⟨_, .nil⟩, rfl, Nat.zero_le _⟩
  | d, x :: xs, v :: vs, ps, e, r => by
    rw [VRs] at r
    simp only [List.mapM_cons] at e
    cases h1 : toPy σ d x with
    | none => simp [h1] at e
    | some p =>
      cases h2 : xs.mapM (toPy σ d) with
      | none => simp [h1, h2] at e
      | some ps' =>
        simp [h1, h2] at e
        subst e
        obtain ⟨⟨as, a1⟩, a2, a3⟩ := toPy_reads L d x v p h1 r.1
        obtain ⟨⟨bs, b1⟩, b2, b3⟩ := toPy_readsAll L d xs vs ps' h2 r.2
        refine ⟨⟨_, .cons a1 b1⟩, ?_, ?_⟩
        · simp only [PyData.canLayAll0, a2, b2, Bool.and_self]
        · simp only [PyData.depthAll]; omega
  | _, [], _ :: _, _, _, a => by rw [VRs] at a; exact a.elim
  | _, _ :: _, [], _, _, a => by rw [VRs] at a; exact a.elim
end

theorem eqD_sound {a b : V} {va vb : Value} {r : Bool} (hu : A.units + 64 < cLine) (L : Lk S X f σ s.heap) (e : eqV.eqD σ a b = some r) (ra : VR S X f s.heap a va) (rb : VR S X f s.heap b vb) :
    wpAny (model S.prog S.w) A (compareOp .Eq va vb) (PE S X f s (.bool r)) E s ∧ wpAny (model S.prog S.w) A (compareOp .NotEq va vb) (PE S X f s (.bool !r)) E s := by
  unfold eqV.eqD at e
  cases h1 : toPy σ eqDepth a with
  | none => simp [h1] at e
  | some p =>
    cases h2 : toPy σ eqDepth b with
    | none => simp [h1, h2] at e
    | some q =>
      simp [h1, h2] at e
      subst e
      obtain ⟨⟨as, a1⟩, a2, a3⟩ := toPy_reads L _ _ _ _ h1 ra
      obtain ⟨⟨bs, b1⟩, b2, b3⟩ := toPy_reads L _ _ _ _ h2 rb
      have sa : SeqAt.shaped p = true := by unfold SeqAt.shaped; rw [a2, Bool.true_and]; exact decide_eq_true (Nat.le_trans a3 (by decide))
      have sb : SeqAt.shaped q = true := by unfold SeqAt.shaped; rw [b2, Bool.true_and]; exact decide_eq_true (Nat.le_trans b3 (by decide))
      exact ⟨SeqAt.compareEq_shaped a1 b1 sa sb hu .bool0, SeqAt.compareNe_shaped a1 b1 sa sb hu .bool0⟩
end

end Mine
end

/-! # Ops5 -/
section
set_option autoImplicit false
namespace Mine
open PySem PyProof.Rows

section
variable {S : Stat} {A : Around} {X : List Addr} {f : List Loc} {σ : Sto} {s : Shared} {E : Value → Shared → Prop}

theorem all_range_bools (l : List Bool) : (List.range l.length).all (fun i => (l[i]?).getD true) = l.all id := by
  rw [Bool.eq_iff_iff, List.all_eq_true, List.all_eq_true]
  constructor
  · intro h x hx
    obtain ⟨i, hi, rfl⟩ := List.getElem_of_mem hx
    have := h i (List.mem_range.mpr hi)
    rw [List.getElem?_eq_getElem hi] at this
    exact this
  · intro h i hi
    rw [List.getElem?_eq_getElem (List.mem_range.mp hi)]
    exact h _ (List.getElem_mem _)

theorem toTup_sound {a x : V} {va : Value} (L : Lk S X f σ s.heap) (e : ev1 .toTup σ a = some x) (ra : VR S X f s.heap a va) :
    wpAny (model S.prog S.w) A (call (.type "tuple") [va]) (PE S X f s x) E s := by
  simp only [ev1, Option.map_eq_some_iff] at e
  obtain ⟨xs, h1, rfl⟩ := e
  obtain ⟨p, vs, n, rfl, il, r, l⟩ := list_at L h1 ra
  have z := VRs_size r
  refine call_tuple_list (IsL.isList il) (fun h' k => ?_) (by rw [z]; exact Nat.le_trans l lim_size)
  have e1 : Ext s { s with heap := h'.push { cls := .type "tuple", data := .seq vs } } := .heap (t := s.toks) fun b o q => Heap.get?_push_of_some _ (k b o q)
  have hn : s.heap.get? h'.objs.size = none := by
    cases q : s.heap.get? h'.objs.size with
    | none => rfl
    | some o => have := size_new h'; rw [k _ _ q] at this; cases this
  refine ⟨e1, ?_, fun _ q => by cases q⟩
  rw [VR]
  exact ⟨_, vs, 0, rfl, L.new hn, Heap.get?_push_size _ rfl, e1.vrs r, l⟩

theorem toInt_sound {a x : V} {va : Value} (e : ev1 .toInt σ a = some x) (ra : VR S X f s.heap a va) :
    wpAny (model S.prog S.w) A (call (.type "int") [va]) (PE S X f s x) E s := by
  cases a with
  | bool b => obtain rfl := vr_bool ra; cases e; exact call_int_bool .int
  | int i => obtain ⟨t, rfl⟩ := vr_int ra; cases e; exact call_int_int (.int (tk := s.toks))
  | str y =>
    obtain ⟨⟨t, rfl⟩, _⟩ := vr_str ra
    have e : (if y.length ≤ 640 then (intText? y).map V.int else none) = some x := e
    split at e
    · rename_i hl
      simp only [Option.map_eq_some_iff] at e
      obtain ⟨n, hn, rfl⟩ := e
      exact PySem.W.KIN.call_text hn hl .int
    · cases e
  | _ => cases e

theorem isNone_sound {a x : V} {va : Value} (e : ev1 .isNone σ a = some x) (ra : VR S X f s.heap a va) (hp : S.parts ≠ .none) :
    wpAny (model S.prog S.w) A (compareOp .Is va .none) (PE S X f s x) E s := by
  refine is_none ?_
  cases a with
  | none => obtain rfl := vr_none ra; simp [ev1] at e; subst e; exact .bool0
  | bool b => obtain rfl := vr_bool ra; simp [ev1] at e; subst e; exact .bool0
  | int i => obtain ⟨t, rfl⟩ := vr_int ra; simp [ev1] at e; subst e; exact .bool0
  | str y => obtain ⟨⟨t, rfl⟩, _⟩ := vr_str ra; simp [ev1] at e; subst e; exact .bool0
  | tup xs => obtain ⟨p, vs, n, rfl, _⟩ := vr_tup ra; simp [ev1] at e; subst e; exact .bool0
  | lst xs => rw [VR] at ra; obtain ⟨p, vs, n, rfl, _⟩ := ra; simp [ev1] at e; subst e; exact .bool0
  | ref k => rw [VR] at ra; obtain ⟨l, _, rfl⟩ := ra; simp [ev1] at e; subst e; exact .bool0
  | exc c => rw [VR] at ra; obtain ⟨p, o, rfl, _⟩ := ra; simp [ev1] at e; subst e; exact .bool0
  | parts =>
    rw [VR] at ra; obtain ⟨_, rfl⟩ := ra; simp [ev1] at e; subst e
    have : (S.parts == Value.none) = false := by simpa using hp
    rw [this]; exact .bool0
  | undef => rw [VR] at ra; exact ra.elim
theorem isNotNone_sound {a x : V} {va : Value} (e : ev1 .isNotNone σ a = some x) (ra : VR S X f s.heap a va) (hp : S.parts ≠ .none) :
    wpAny (model S.prog S.w) A (compareOp .IsNot va .none) (PE S X f s x) E s := by
  refine isNot_none ?_
  cases a with
  | none => obtain rfl := vr_none ra; simp [ev1] at e; subst e; exact .bool0
  | bool b => obtain rfl := vr_bool ra; simp [ev1] at e; subst e; exact .bool0
  | int i => obtain ⟨t, rfl⟩ := vr_int ra; simp [ev1] at e; subst e; exact .bool0
  | str y => obtain ⟨⟨t, rfl⟩, _⟩ := vr_str ra; simp [ev1] at e; subst e; exact .bool0
  | tup xs => obtain ⟨p, vs, n, rfl, _⟩ := vr_tup ra; simp [ev1] at e; subst e; exact .bool0
  | lst xs => rw [VR] at ra; obtain ⟨p, vs, n, rfl, _⟩ := ra; simp [ev1] at e; subst e; exact .bool0
  | ref k => rw [VR] at ra; obtain ⟨l, _, rfl⟩ := ra; simp [ev1] at e; subst e; exact .bool0
  | exc c => rw [VR] at ra; obtain ⟨p, o, rfl, _⟩ := ra; simp [ev1] at e; subst e; exact .bool0
  | parts =>
    rw [VR] at ra; obtain ⟨_, rfl⟩ := ra; simp [ev1] at e; subst e
    have : (S.parts == Value.none) = false := by simpa using hp
    rw [this]; exact .bool0
  | undef => rw [VR] at ra; exact ra.elim

/-! ### isinstance, of built-in types -/

noncomputable def tyName : Kd → String
  | .int => "int" | .bool => "bool" | .str => "str" | .list => "list" | .tuple => "tuple" | .exc _ => "ValueError"

theorem isInst_sound {a x : V} {va : Value} {k : Kd} (hk : ∀ c, k ≠ .exc c) (L : Lk S X f σ s.heap) (e : ev1 (.isInst k) σ a = some x) (ra : VR S X f s.heap a va) :
    wpAny (model S.prog S.w) A (call (.builtin "isinstance") [va, .type (tyName k)]) (PE S X f s x) E s := by
  cases a with
  | undef => cases e
  | parts => cases e
  | exc c => cases k <;> first | exact absurd rfl (hk _) | cases e
  | none =>
    obtain rfl := vr_none ra
    cases k <;> first | exact absurd rfl (hk _) | cases e
    · exact IsiPair.NoneType_int .bool
    · exact IsiPair.NoneType_bool .bool
    · exact IsiPair.NoneType_str .bool
    · exact IsiPair.NoneType_list .bool
    · exact IsiPair.NoneType_tuple .bool
  | bool b =>
    obtain rfl := vr_bool ra
    cases k <;> first | exact absurd rfl (hk _) | cases e
    · exact IsiPair.bool_int .bool0
    · exact IsiPair.bool_bool .bool0
    · exact IsiPair.bool_str .bool
    · exact IsiPair.bool_list .bool
    · exact IsiPair.bool_tuple .bool
  | int i =>
    obtain ⟨t, rfl⟩ := vr_int ra
    cases k <;> first | exact absurd rfl (hk _) | cases e
    · exact IsiPair.int_int .bool0
    · exact IsiPair.int_bool .bool
    · exact IsiPair.int_str .bool
    · exact IsiPair.int_list .bool
    · exact IsiPair.int_tuple .bool
  | str y =>
    obtain ⟨⟨t, rfl⟩, _⟩ := vr_str ra
    cases k <;> first | exact absurd rfl (hk _) | cases e
    · exact IsiPair.str_int .bool
    · exact IsiPair.str_bool .bool
    · exact IsiPair.str_str .bool0
    · exact IsiPair.str_list .bool
    · exact IsiPair.str_tuple .bool
  | tup xs =>
    obtain ⟨p, vs, n, rfl, _, il, _⟩ := vr_tup ra
    cases k <;> first | exact absurd rfl (hk _) | cases e
    · exact IsiPair.tuple_int il rfl .bool
    · exact IsiPair.tuple_bool il rfl .bool
    · exact IsiPair.tuple_str il rfl .bool
    · exact IsiPair.tuple_list il rfl .bool
    · exact IsiPair.tuple_tuple il rfl .bool0
  | lst xs =>
    obtain ⟨p, vs, n, rfl, il, _⟩ := list_at L (x := .lst xs) rfl ra
    cases k <;> first | exact absurd rfl (hk _) | cases e
    · exact IsiPair.list_int il rfl .bool
    · exact IsiPair.list_bool il rfl .bool
    · exact IsiPair.list_str il rfl .bool
    · exact IsiPair.list_list il rfl .bool0
    · exact IsiPair.list_tuple il rfl .bool
  | ref m =>
    cases ho : σ[m]? with
    | none => have e : (refK σ[m]? k).map V.bool = some x := e; rw [ho] at e; cases e
    | some o =>
      cases o with
      | list ys =>
        obtain ⟨p, vs, n, rfl, il, _⟩ := list_at L (x := .ref m) (xs := ys) (by simp [listOf?, ho]) ra
        have e : (refK σ[m]? k).map V.bool = some x := e
        rw [ho] at e
        cases k <;> first | exact absurd rfl (hk _) | cases e
        · exact IsiPair.list_int il rfl .bool
        · exact IsiPair.list_str il rfl .bool
        · exact IsiPair.list_list il rfl .bool0
        · exact IsiPair.list_tuple il rfl .bool
      | dict es => have e : (refK σ[m]? k).map V.bool = some x := e; rw [ho] at e; cases e
      | inst es => have e : (refK σ[m]? k).map V.bool = some x := e; rw [ho] at e; cases e
end

end Mine
end

/-! # Ops6 -/
section
set_option autoImplicit false
namespace Mine
open PySem PyProof.Rows

section
variable {S : Stat} {A : Around} {X : List Addr} {f : List Loc} {σ : Sto} {s : Shared} {E : Value → Shared → Prop}

theorem all_sound {a x : V} {va : Value} (hh : A.handled = none) (L : Lk S X f σ s.heap) (e : ev1 .all σ a = some x) (ra : VR S X f s.heap a va) :
    wpAny (model S.prog S.w) A (call (.builtin "all") [va]) (PE S X f s x) E s := by
  simp only [ev1] at e
  cases h1 : listOf? σ a with
  | none => simp [h1] at e
  | some xs =>
    cases h2 : bools? xs with
    | none => simp [h1, h2] at e
    | some l =>
      simp [h1, h2] at e
      subst e
      obtain ⟨p, vs, n, rfl, il, r, _⟩ := list_at L h1 ra
      have hv := bools_at h2 r
      have hlist := IsL.isList il
      have hlt : p < s.heap.objs.size := Heap.lt_size il
      refine call_all_walk (wpAny_pyIter_list hlist ?_)
      refine ⟨s.heap.objs.size, _, _, vs.size, _, _, fun i => (l[i]?).getD true, rfl, Walks.list (A := A.in1) hh s.heap.objs.size p (Nat.ne_of_lt hlt) vs,
        ⟨⟨_, Heap.get?_push_size _ rfl, rfl, rfl⟩, hlist.push _⟩, ?_, fun h' tk k => ?_⟩
      · intro i v s₁ Q E' hP hQ
        rw [← Array.getElem?_toList, hv, List.getElem?_map] at hP
        cases hl : l[i]? with
        | none => rw [hl] at hP; cases hP
        | some b => rw [hl] at hP; cases hP; exact wpAny_truthy_bool (by simpa [hl] using hQ)
      · have hz : vs.size = l.length := by rw [← Array.length_toList, hv, List.length_map]
        rw [hz, all_range_bools]
        exact .boolH (old_kept k)

theorem countIn_bool (l : List Bool) : Spec.countIn (.bool true) (l.map PyData.bool) = (l.count true : Int) := by
  induction l with
  | nil => rfl
  | cons b l ih =>
    rw [List.map_cons, Spec.countIn, ih]
    cases b
    · simp [Spec.same]
    · simp [Spec.same]; omega

theorem readsAll_bools (h : Heap) : ∀ l : List Bool, ReadsAll h (l.map Value.bool) (l.map PyData.bool) []
  | [] => .nil
  | b :: l => ReadsAll.cons (as := []) (bs := []) (.bool b) (readsAll_bools h l)

/-- list.count(True) of bools -/
theorem count_sound {a x : V} {va : Value} (L : Lk S X f σ s.heap) (e : ev1 .count σ a = some x) (ra : VR S X f s.heap a va) :
    wpAny (model S.prog S.w) A (call (.builtin "list.count") [va, .bool true]) (PE S X f s x) E s := by
  simp only [ev1] at e
  cases h1 : listOf? σ a with
  | none => simp [h1] at e
  | some xs =>
    cases h2 : bools? xs with
    | none => simp [h1, h2] at e
    | some l =>
      simp [h1, h2] at e
      subst e
      obtain ⟨p, vs, n, rfl, il, r, _⟩ := list_at L h1 ra
      have hv := bools_at h2 r
      have hl : s.heap.IsList p (l.map Value.bool).toArray := by rw [← hv]; exact IsL.isList il
      refine count_list_bools (k := true) hl (readsAll_bools s.heap l) (by simp [Spec.Shape.has]) ?_
      rw [countIn_bool]; exact .int

/-! ### in -/

theorem contains_str (l : List Str) (x : Str) (ys : List (Str × Tok)) (h : ys.map (·.1) = l) : (ys.map fun p => Value.str p.1 p.2).any (fun y => match y with | .str z _ => z.cps.toList == x.cps.toList | _ => false) = l.contains x := by
  subst h
  induction ys with
  | nil => rfl
  | cons p ps ih =>
    simp only [List.map_cons, List.any_cons, List.contains_cons, ih]
    congr 1
    rw [Bool.eq_iff_iff]
    constructor
    · intro h
      have : p.1.cps.toList = x.cps.toList := beq_iff_eq.mp h
      have : p.1 = x := by cases hp : p.1; cases hx : x; rw [hp, hx] at this; simp at this; rw [this]
      simp [this]
    · intro h
      rw [beq_iff_eq.mp h]; simp

theorem in_seq_sound {y : Str} {u : Tok} {xs : List V} {l : List Str} {p : Addr} {vs : Array Value} {n : Nat} (il : IsL s.heap p vs n ∨ IsT s.heap p vs n) (r : VRs S X f s.heap xs vs.toList) (h2 : strs? xs = some l) :
    wpAny (model S.prog S.w) A (compareOp .In (.str y u) (.ref p)) (PE S X f s (.bool (l.contains y))) E s ∧ wpAny (model S.prog S.w) A (compareOp .NotIn (.str y u) (.ref p)) (PE S X f s (.bool !(l.contains y))) E s := by
  obtain ⟨ys, e1, e2, _⟩ := strs_at h2 r
  have hany : vs.any (fun y' => match y' with | .str z _ => z.cps.toList == y.cps.toList | _ => false) = l.contains y := by
    rw [← contains_str l y ys e2, ← e1]
    exact (Array.any_toList ..).symm
  have he : ∀ v, v ∈ vs → MeetsSeq.EqGives v (.str y u) (match v with | .str z _ => z.cps.toList == y.cps.toList | _ => false) := by
    intro v hv
    have : v ∈ vs.toList := by simpa using hv
    rw [e1] at this
    obtain ⟨q, _, rfl⟩ := List.mem_map.mp this
    exact SeqRoads2.EqGives.str q.1 y q.2 u
  rcases il with il | il
  · exact ⟨SeqRoads2.in_list _ he il (by rw [hany]; exact .bool0), SeqRoads2.notIn_list _ he il (by rw [hany]; exact .bool0)⟩
  · exact ⟨SeqRoads2.in_tuple _ he il (by rw [hany]; exact .bool0), SeqRoads2.notIn_tuple _ he il (by rw [hany]; exact .bool0)⟩

theorem in_str_sound {x y : Str} {c : Nat} {t u : Tok} (hc : codes x = [c]) :
    wpAny (model S.prog S.w) A (compareOp .In (.str x t) (.str y u)) (PE S X f s (.bool ((codes y).contains c))) E s ∧ wpAny (model S.prog S.w) A (compareOp .NotIn (.str x t) (.str y u)) (PE S X f s (.bool !((codes y).contains c))) E s := by
  have hx : x = ⟨#[c]⟩ := by cases x with | mk a => simp [codes] at hc; rw [show a = #[c] from Array.toList_inj.mp hc]
  subst hx
  have e : (!(Builtin.Str.occurrences y ⟨#[c]⟩ 0 y.length 1).isEmpty) = (codes y).contains c := by
    rw [StrLaws.found_one]
    rw [Bool.eq_iff_iff]; simp [codes]
  exact ⟨PyProof.Rows.in_str (by rw [e]; exact .bool0), PyProof.Rows.notIn_str (by rw [e]; exact .bool0)⟩

/-- the table of parts, as it lies in the heap -/
noncomputable def PartsAt (S : Stat) (h : Heap) : Prop := S.hasParts = true → ∃ d g, S.parts = .ref d ∧ (d == sysModules) = false ∧ h.MapOf (strKind S.prog S.w) d g ∧ ∀ x, ∃ t, g x = ((partsTable.find? fun p => p.1 == x).map fun p => Value.int p.2 t)

theorem parts_isSome (x : Str) : ((partsTable.find? fun p => p.1 == x).map fun p => p.2).isSome = partsTable.any fun p => p.1 == x := by
  rw [Option.isSome_map, Bool.eq_iff_iff, List.find?_isSome, List.any_eq_true]

theorem in_parts_sound {x : Str} {t : Tok} (hp : PartsAt S s.heap) (hh : S.hasParts = true) :
    wpAny (model S.prog S.w) A (compareOp .In (.str x t) S.parts) (PE S X f s (.bool (partsTable.any fun p => p.1 == x))) E s ∧ wpAny (model S.prog S.w) A (compareOp .NotIn (.str x t) S.parts) (PE S X f s (.bool !(partsTable.any fun p => p.1 == x))) E s := by
  obtain ⟨d, g, e, hd, hm, hg⟩ := hp hh
  rw [e]
  obtain ⟨tk, hgx⟩ := hg x
  have hs : (g x).isSome = partsTable.any fun p => p.1 == x := by rw [hgx, ← parts_isSome x, Option.isSome_map, Option.isSome_map]
  have hk : (strKind S.prog S.w).is x (.str x t) = true := by show Value.isStrOf x (.str x t) = true; simp [Value.isStrOf]
  exact ⟨wpAny_in_of hk hd hm (by rw [hs]; exact .bool), wpAny_notIn_of hk hd hm (by rw [hs]; exact .bool)⟩

theorem in_sound {a b : V} {va vb : Value} {r : Bool} (hp : PartsAt S s.heap) (L : Lk S X f σ s.heap) (e : inV σ a b = some r) (ra : VR S X f s.heap a va) (rb : VR S X f s.heap b vb) :
    wpAny (model S.prog S.w) A (compareOp .In va vb) (PE S X f s (.bool r)) E s ∧ wpAny (model S.prog S.w) A (compareOp .NotIn va vb) (PE S X f s (.bool !r)) E s := by
  cases a with
  | str x =>
    obtain ⟨⟨t, rfl⟩, _⟩ := vr_str ra
    have gen : ∀ {xs : List V}, itemsOf σ b = some xs → ((strs? xs).map fun l => l.contains x) = some r →
        wpAny (model S.prog S.w) A (compareOp .In (.str x t) vb) (PE S X f s (.bool r)) E s ∧ wpAny (model S.prog S.w) A (compareOp .NotIn (.str x t) vb) (PE S X f s (.bool !r)) E s := by
      intro xs h1 h2
      obtain ⟨p, vs, n, rfl, il, rs, _⟩ := items_at L h1 rb
      cases h3 : strs? xs with
      | none => simp [h3] at h2
      | some l => rw [h3, Option.map_some, Option.some.injEq] at h2; subst h2; exact in_seq_sound il rs h3
    cases b with
    | str y =>
      obtain ⟨⟨u, rfl⟩, _⟩ := vr_str rb
      simp only [inV] at e
      split at e
      · rename_i c hc; cases e; exact in_str_sound hc
      · cases e
    | parts => rw [VR] at rb; obtain ⟨hh, rfl⟩ := rb; cases e; exact in_parts_sound hp hh
    | tup xs => simp only [inV, itemsOf, Option.bind_some] at e; exact gen rfl e
    | lst xs => simp only [inV, itemsOf, Option.bind_some] at e; exact gen rfl e
    | ref k =>
      simp only [inV] at e
      cases h1 : itemsOf σ (.ref k) with
      | none => simp [h1] at e
      | some xs => simp only [h1, Option.bind_some] at e; exact gen h1 e
    | _ => simp [inV, itemsOf] at e
  | _ => simp [inV] at e

/-! ### items by index -/

theorem index_str_sound {y : Str} {i : Int} {t u : Tok} {k : Nat} {c : Nat} (hl : y.length ≤ LIM) (hok : PyData.strOk y = true) (h1 : normIndex y.length i = some k) (h2 : (codes y)[k]? = some c) :
    wpAny (model S.prog S.w) A (getItem (.str y t) (.int i u)) (PE S X f s (.str (mkS [c]))) E s := by
  obtain ⟨g1, g2, g3, g4⟩ := normIndex_spec h1
  have hll := lim_long hl
  refine PyProof.Rows.getItem_str (c := c) ?_ ?_ ?_
  · by_cases h0 : 0 ≤ i
    · have := g3 h0; simp; omega
    · have := g4 (by omega); simp; omega
  · rw [g1]; simpa [codes] using h2
  · have hc : c < 0x110000 := by
      have hm : c ∈ y.cps.toList := List.mem_of_getElem? h2
      have := Array.all_eq_true.mp hok
      obtain ⟨j, hj, rfl⟩ := List.getElem_of_mem hm
      have := this j (by simpa using hj)
      simpa using this
    have : PyData.strOk (mkS [c]) = true := by simp [PyData.strOk, mkS, hc]
    exact PE.str (s := s) (by simp [mkS, Str.length]; decide) this

/-- an item by its place, or of a dict by its key: everything that `index` serves -/
theorem index_sound {a b x : V} {va vb : Value} (hp : PartsAt S s.heap) (L : Lk S X f σ s.heap) (e : ev2 .index σ a b = some x) (ra : VR S X f s.heap a va) (rb : VR S X f s.heap b vb) :
    wpAny (model S.prog S.w) A (getItem va vb) (fun v s' => Ext s s' ∧ VR S X f s'.heap x v) E s := by
  have seq : ∀ {xs : List V} {i : Int}, itemsOf σ a = some xs → b = .int i → ((normIndex xs.length i).bind fun k => xs[k]?) = some x → wpAny (model S.prog S.w) A (getItem va vb) (fun v s' => Ext s s' ∧ VR S X f s'.heap x v) E s := by
    intro xs i h1 h2 h3
    subst h2
    obtain ⟨u, rfl⟩ := vr_int rb
    obtain ⟨p, vs, n, rfl, il, rs, l⟩ := items_at L h1 ra
    cases h4 : normIndex xs.length i with
    | none => simp [h4] at h3
    | some k =>
      simp only [h4, Option.bind_some] at h3
      exact wpAny_mono (getItem_seq il rs l h4 h3) (fun v s' q => by obtain ⟨rfl, q⟩ := q; exact ⟨.refl _, q⟩) fun _ _ q => q
  cases b with
  | int i =>
    cases a with
    | str y =>
      obtain ⟨⟨t, rfl⟩, l1, l2⟩ := vr_str ra
      obtain ⟨u, rfl⟩ := vr_int rb
      simp only [ev2] at e
      cases h4 : normIndex y.length i with
      | none => simp [h4] at e
      | some k =>
        simp only [h4, Option.bind_some, Option.map_eq_some_iff] at e
        obtain ⟨c, h5, rfl⟩ := e
        exact wpAny_mono (index_str_sound l1 l2 h4 h5) (fun v s' q => ⟨q.1, q.2.1⟩) fun _ _ q => q
    | ref k =>
      simp only [ev2] at e
      split at e
      · rename_i ys ho
        exact seq (xs := ys) (by simp [itemsOf, ho]) rfl e
      · rename_i es ho
        obtain ⟨u, rfl⟩ := vr_int rb
        have rv := ra
        rw [VR] at rv
        obtain ⟨l, hl, rfl⟩ := rv
        have ob := L.obj k l _ hl ho
        obtain ⟨p, d⟩ := l
        cases d with
        | some d => exact ob.elim
        | none =>
          obtain ⟨kvs, hd, hk, hv, hlen⟩ := ob
          clear hlen
          have : ∃ v, valueAt kvs i = some v ∧ VR S X f s.heap x v := by
            clear hd L ho hl ra
            induction es generalizing kvs with
            | nil => simp at e
            | cons q qs ih =>
              cases kvs with
              | nil => simp at hk
              | cons r rs =>
                simp only [List.map_cons, List.cons.injEq] at hk
                rw [List.map_cons, List.map_cons, VRs] at hv
                simp only [List.find?_cons] at e
                unfold valueAt
                rw [List.find?_cons]
                by_cases hq : q.1 = i
                · simp only [hq, beq_self_eq_true] at e
                  simp at e
                  rw [hk.1, hq]
                  simp only [decide_true, Option.map_some, Option.some.injEq, exists_eq_left']
                  rw [← e]; exact hv.1
                · have : (q.1 == i) = false := by simpa using hq
                  simp only [this] at e
                  rw [hk.1]
                  simp only [hq, decide_false]
                  exact ih e rs hk.2 hv.2
          obtain ⟨v, h1, h2⟩ := this
          have hm := hd.mapOf
          exact wpAny_getItem_of (knd := intKind S.prog S.w) (k := i) (by show Value.isInt i (.int i u) = true; simp [Value.isInt]) hm h1 ⟨.toks s _, h2⟩
      · cases e
    | tup xs => simp only [ev2, itemsOf, Option.bind_some] at e; exact seq rfl rfl e
    | lst xs => simp only [ev2, itemsOf, Option.bind_some] at e; exact seq rfl rfl e
    | _ => simp [ev2, itemsOf] at e
  | str y =>
    cases a with
    | parts =>
      rw [VR] at ra; obtain ⟨hh, rfl⟩ := ra
      obtain ⟨⟨u, rfl⟩, _⟩ := vr_str rb
      obtain ⟨d, g, h1, hd, hm, hg⟩ := hp hh
      obtain ⟨tk, hgx⟩ := hg y
      simp only [ev2, Option.map_eq_some_iff] at e
      obtain ⟨q, h2, rfl⟩ := e
      rw [h2] at hgx
      rw [h1]
      exact wpAny_getItem_of (knd := strKind S.prog S.w) (k := y) (by show Value.isStrOf y (.str y u) = true; simp [Value.isStrOf]) hm hgx ⟨.toks s _, by rw [VR]; exact ⟨tk, rfl⟩⟩
    | _ => simp [ev2] at e
  | _ => cases a <;> simp [ev2] at e
end

end Mine
end

/-! # OpsS -/
section
set_option autoImplicit false
namespace Mine
open PySem PyProof.Rows Builtin Builtin.Str

/-! ## texts -/

theorem strOk_ofString (s : String) : PyData.strOk (Str.ofString s) = true := by
  rw [Str.ofString_eq_toList]
  unfold PyData.strOk
  rw [Array.all_eq_true']
  intro c hc
  simp only [List.mem_toArray, List.mem_map] at hc
  obtain ⟨ch, _, rfl⟩ := hc
  have := ch.valid
  simp only [decide_eq_true_eq]
  rcases this with h | h
  · have : ch.toNat < 55296 := h
    omega
  · exact h.2

theorem strOk_sub {x : Str} (h : PyData.strOk x = true) (i j : Nat) : PyData.strOk (strSub x i j) = true := by
  unfold PyData.strOk at h ⊢
  rw [Array.all_eq_true'] at h ⊢
  intro c hc
  refine h c ?_
  have hc : c ∈ x.cps.extract i j := hc
  rw [Array.mem_extract_iff_getElem] at hc
  obtain ⟨k, hk, e⟩ := hc
  exact e ▸ Array.getElem_mem _

section
variable {S : Stat} {A : Around} {X : List Addr} {f : List Loc} {σ : Sto} {s : Shared} {E : Value → Shared → Prop}

theorem lt_pow2 {n k m : Nat} (h : n < 10 ^ k) (hm : 4 * k ≤ m) : n < 2 ^ m :=
  Nat.lt_of_lt_of_le h (Nat.le_trans (Nat.pow_le_pow_left (by decide : 10 ≤ 2 ^ 4) k) (by rw [← Nat.pow_mul]; exact Nat.pow_le_pow_right (by decide) hm))

theorem toStr_sound {a x : V} {va : Value} (e : ev1 .toStr σ a = some x) (ra : VR S X f s.heap a va) : wpAny (model S.prog S.w) A (call (.type "str") [va]) (PE S X f s x) E s := by
  cases a with
  | int i =>
    obtain ⟨t, rfl⟩ := vr_int ra
    have e : (if 0 ≤ i ∧ i < 10 ^ 100 then some (V.str (Str.ofString (toString i))) else none) = some x := e
    split at e
    · rename_i hi
      cases e
      refine PySem.P.str_of_int ?_ (.str ?_ (strOk_ofString _))
      · by_cases h0 : i.natAbs = 0
        · rw [h0]; decide
        · rw [Nat.log2_lt h0]
          have : i.natAbs < 10 ^ 100 := by omega
          exact lt_pow2 (k := 100) this (by decide)
      · exact Nat.le_trans (toString_length_le hi.1 (k := 100) (by decide) hi.2) (by decide)
    · cases e
  | _ => cases e

theorem strs_are {h : Heap} : ∀ {xs : List V} {vs : List Value} {l : List Str}, VRs S X f h xs vs → strs? xs = some l → StrsAre vs l
  | [], [], l, _, e => by cases e; exact .nil
  | x :: xs, v :: vs, l, r, e => by
    rw [VRs] at r
    unfold strs? at e
    rw [List.mapM_cons] at e
    cases x with
    | str y =>
      cases e2 : xs.mapM strOf? with
      | none => rw [e2] at e; cases e
      | some l' =>
        rw [e2] at e
        cases e
        obtain ⟨⟨t, rfl⟩, _⟩ := vr_str r.1
        exact .cons y t (strs_are r.2 e2)
    | _ => cases e
  | [], _ :: _, _, r, _ => by rw [VRs] at r; exact r.elim
  | _ :: _, [], _, r, _ => by rw [VRs] at r; exact r.elim

theorem strOk_empty : PyData.strOk Str.empty = true := by unfold PyData.strOk Str.empty; simp
theorem strOk_join {sep : Str} (hs : PyData.strOk sep = true) : ∀ {l : List Str}, (∀ x ∈ l, PyData.strOk x = true) → PyData.strOk (Str.join sep l) = true
  | [], _ => strOk_empty
  | [x], h => h x List.mem_cons_self
  | x :: y :: r, h => by
    show PyData.strOk (x ++ sep ++ Str.join sep (y :: r)) = true
    exact strOk_append (strOk_append (h x List.mem_cons_self) hs) (strOk_join hs fun z hz => h z (List.mem_cons_of_mem _ hz))

theorem strs_ok {h : Heap} : ∀ {xs : List V} {vs : List Value} {l : List Str}, VRs S X f h xs vs → strs? xs = some l → ∀ x ∈ l, PyData.strOk x = true
  | [], [], l, _, e => by cases e; intro x hx; cases hx
  | x :: xs, v :: vs, l, r, e => by
    rw [VRs] at r
    unfold strs? at e
    rw [List.mapM_cons] at e
    cases x with
    | str y =>
      cases e2 : xs.mapM strOf? with
      | none => rw [e2] at e; cases e
      | some l' =>
        rw [e2] at e
        cases e
        obtain ⟨_, _, hk⟩ := vr_str r.1
        intro z hz
        rcases List.mem_cons.mp hz with rfl | hz
        · exact hk
        · exact strs_ok r.2 e2 z hz
    | _ => cases e
  | [], _ :: _, _, r, _ => by rw [VRs] at r; exact r.elim
  | _ :: _, [], _, r, _ => by rw [VRs] at r; exact r.elim

theorem join_sound {a b x : V} {va vb : Value} (L : Lk S X f σ s.heap) (e : ev2 .join σ a b = some x) (ra : VR S X f s.heap a va) (rb : VR S X f s.heap b vb) :
    wpAny (model S.prog S.w) A (call (.builtin "str.join") [va, vb]) (PE S X f s x) E s := by
  have e : joinV σ a b = some x := e
  unfold joinV at e
  simp only [Option.bind_eq_some_iff] at e
  obtain ⟨sep, h1, xs, h2, l, h3, e⟩ := e
  split at e
  · rename_i hl
    cases e
    cases a with
    | str y =>
      cases h1
      obtain ⟨⟨t, rfl⟩, _, hk⟩ := vr_str ra
      obtain ⟨p, vs, n, rfl, il, rs, _⟩ := list_at L h2 rb
      refine join_list (IsL.isList il) (strs_are rs h3) (by omega) fun t' k => .str ?_ ?_
      · show (glued sep l).length ≤ LIM
        rw [StrLaws.glued_eq_join]
        have := StrLaws.join_length_le sep l
        simp only [LIM]; omega
      · show PyData.strOk (glued sep l) = true
        rw [StrLaws.glued_eq_join]
        exact strOk_join hk (strs_ok rs h3)
    | _ => cases h1
  · cases e

theorem vrs_strs {h : Heap} {n : Nat} (hn : n ≤ LIM) : ∀ (l : List Str) (t : Tok), (∀ x ∈ l, x.length ≤ n ∧ PyData.strOk x = true) → VRs S X f h (l.map V.str) (strsFrom t l)
  | [], t, _ => by rw [List.map_nil]; show VRs _ _ _ _ [] []; rw [VRs]; trivial
  | x :: l, t, hx => by
    show VRs _ _ _ _ (V.str x :: l.map V.str) (.str x t :: strsFrom (t + 1) l)
    rw [VRs]
    have := hx x List.mem_cons_self
    exact ⟨by rw [VR]; exact ⟨⟨t, rfl⟩, Nat.le_trans this.1 hn, this.2⟩, vrs_strs hn l (t + 1) fun z hz => hx z (List.mem_cons_of_mem _ hz)⟩


theorem strOk_part {x y a : Str} (hx : PyData.strOk x = true) (h : a ∈ Txt.split x y) : PyData.strOk a = true := by
  unfold Txt.split at h
  split at h
  · rw [List.mem_singleton.mp h]; exact hx
  · split at h
    · rw [List.mem_singleton.mp h]; exact hx
    · obtain ⟨p, _, rfl⟩ := List.mem_map.mp h
      exact strOk_sub hx _ _

theorem split_count {x y : Str} : (partsBetween x (occurrences x y 0 x.length (x.length + 1)) y.length).length ≤ x.length + 2 := by
  rw [length_partsBetween]
  have := StrLaws.occ_length_le x y 0 x.length (x.length + 1)
  omega

theorem split_sound {a b x : V} {va vb : Value} (L : Lk S X f σ s.heap) (e : ev2 .split σ a b = some x) (ra : VR S X f s.heap a va) (rb : VR S X f s.heap b vb) :
    wpAny (model S.prog S.w) A (call (.builtin "str.split") [va, vb]) (PE S X f s x) E s := by
  have e : splitV a b = some x := e
  unfold splitV at e
  simp only [Option.bind_eq_some_iff] at e
  obtain ⟨y, h1, z, h2, e⟩ := e
  split at e
  · cases e
  rename_i hc
  simp only [Bool.or_eq_true, not_or, Bool.not_eq_true, decide_eq_true_eq] at hc
  obtain ⟨hz, hl⟩ := hc
  cases e
  cases a <;> cases h1
  cases b <;> cases h2
  obtain ⟨⟨t, rfl⟩, _, hk⟩ := vr_str ra
  obtain ⟨⟨u, rfl⟩, _⟩ := vr_str rb
  have hyl : y.length ≤ 10000 := by omega
  have hL : (10000 : Nat) ≤ LIM := by decide
  have hS : (10002 : Nat) ≤ sizeLine := by decide
  have hlen : ∀ p ∈ Txt.split y z, p.length ≤ 10000 ∧ PyData.strOk p = true := fun p hp => ⟨Nat.le_trans (part_short hp) hyl, strOk_part hk hp⟩
  have self : VRs S X f s.heap [V.str y] [.str y t] := by rw [VRs, VRs]; exact ⟨ra, trivial⟩
  cases h1 : (decide (y.length < z.length) || decide (strKind y < strKind z))
  · cases hf : (occurrences y z 0 y.length (y.length + 1)).isEmpty
    · have hT : Txt.split y z = partsBetween y (occurrences y z 0 y.length (y.length + 1)) z.length := by unfold Txt.split; rw [if_neg (by rw [h1]; simp), if_neg (by rw [hf]; simp)]
      refine call_meets F.slot_str_split (typeIs_str _ _ _) F.entry_str_split (F.args_str_split_2 _ _) (meets_str_split_sep y z t u h1 hz hf (by omega) (Nat.le_trans split_count (by omega))) ?_
      rw [← hT]
      have hn : (Txt.split y z).length ≤ LIM := by rw [hT]; exact Nat.le_trans split_count (by simp only [LIM]; omega)
      exact newL_push (tk := s.toks + (Txt.split y z).length) L (vrs_strs hL _ _ hlen) (by simpa using hn)
    · have hT : Txt.split y z = [y] := by unfold Txt.split; rw [if_neg (by rw [h1]; simp), if_pos hf]
      rw [hT]
      exact call_meets F.slot_str_split (typeIs_str _ _ _) F.entry_str_split (F.args_str_split_2 _ _) (meets_str_split_not_found y z t u h1 hz hf) (newL_push (tk := s.toks) L self (by show 1 ≤ LIM; decide))
  · have hT : Txt.split y z = [y] := by unfold Txt.split; rw [if_pos h1]
    rw [hT]
    exact call_meets F.slot_str_split (typeIs_str _ _ _) F.entry_str_split (F.args_str_split_2 _ _) (meets_str_split_cannot_occur y z t u h1) (newL_push (tk := s.toks) L self (by show 1 ≤ LIM; decide))

theorem part_sound {a b x : V} {va vb : Value} (L : Lk S X f σ s.heap) (e : ev2 .partition σ a b = some x) (ra : VR S X f s.heap a va) (rb : VR S X f s.heap b vb) :
    wpAny (model S.prog S.w) A (call (.builtin "str.partition") [va, vb]) (PE S X f s x) E s := by
  have e : partV a b = some x := e
  unfold partV at e
  simp only [Option.bind_eq_some_iff] at e
  obtain ⟨y, h1, z, h2, e⟩ := e
  split at e
  · cases e
  rename_i hc
  simp only [Bool.or_eq_true, not_or, Bool.not_eq_true, decide_eq_true_eq] at hc
  obtain ⟨hz, hl⟩ := hc
  cases e
  cases a <;> cases h1
  cases b <;> cases h2
  obtain ⟨⟨t, rfl⟩, ly, hk⟩ := vr_str ra
  obtain ⟨⟨u, rfl⟩, lz, hkz⟩ := vr_str rb
  have hS : (10002 : Nat) ≤ sizeLine := by decide
  refine call_meets F.slot_str_partition (typeIs_str _ _ _) F.entry_str_partition (F.args_str_partition_2 _ _) (meets_str_partition y z t u hz (by omega)) ?_
  have vs : ∀ (w : Str) (tk : Tok), w.length ≤ LIM → PyData.strOk w = true → VR S X f s.heap (.str w) (.str w tk) := fun w tk h1 h2 => by rw [VR]; exact ⟨⟨tk, rfl⟩, h1, h2⟩
  unfold Txt.partition
  cases occurrences y z 0 y.length 1 with
  | nil =>
    refine newT_push (tk := s.toks + 1) L ?_ (by show 3 ≤ LIM; decide)
    rw [VRs, VRs, VRs, VRs]
    exact ⟨ra, vs Str.empty _ (by show 0 ≤ LIM; decide) strOk_empty, vs Str.empty _ (by show 0 ≤ LIM; decide) strOk_empty, trivial⟩
  | cons i r =>
    refine newT_push (tk := s.toks + 1 + 1) L ?_ (by show 3 ≤ LIM; decide)
    rw [VRs, VRs, VRs, VRs]
    exact ⟨vs _ _ (Nat.le_trans (strSub_length_le _ _ _) ly) (strOk_sub hk _ _), rb, vs _ _ (Nat.le_trans (strSub_length_le _ _ _) ly) (strOk_sub hk _ _), trivial⟩
end

end Mine
end

/-! # Steps -/
section
set_option autoImplicit false
namespace Mine
open PySem PyProof.Rows

section
variable {M : Model} {A : Around} {E : Value → Shared → Prop} {s : Shared} {env : Env}

/-! ## names -/

theorem load_global {x : Str} {mg : Str → Option Value} {v : Value} {Q : Value → Shared → Prop} (hk : env.scope.kind = .function) (hl : env.kindOf x = some .globalImplicit) (hg : s.heap.Ns env.globals mg) (hv : mg x = some v) (h : Q v s) :
    wpAny M A (loadName env x) Q E s := by
  unfold loadName
  simp only [Env.blockKind, hk, hl, ScopeKind.isAnnotationScope, Bool.false_and, Bool.false_eq_true, if_false]
  unfold loadGlobal
  refine wpAny_bind (wpAny_nsGet hg ?_)
  rw [hv]
  exact wpAny_pure h
theorem load_builtin {x : Str} {mg mb : Str → Option Value} {v : Value} {Q : Value → Shared → Prop} (hk : env.scope.kind = .function) (hl : env.kindOf x = some .globalImplicit) (hg : s.heap.Ns env.globals mg) (hn : mg x = none)
    (hb : s.heap.Ns env.builtins mb) (hv : mb x = some v) (h : Q v s) : wpAny M A (loadName env x) Q E s := by
  unfold loadName
  simp only [Env.blockKind, hk, hl, ScopeKind.isAnnotationScope, Bool.false_and, Bool.false_eq_true, if_false]
  unfold loadGlobal
  refine wpAny_bind (wpAny_nsGet hg ?_)
  rw [hn]
  refine wpAny_bind (wpAny_nsGet hb ?_)
  rw [hv]
  exact wpAny_pure h

/-! ## calls -/

/-- a value that may be called without more ado -/
noncomputable def Callable (s : Shared) (f : Value) : Prop := (∀ a, f ≠ .ref a) ∨ ∃ a o fd, f = .ref a ∧ s.heap.get? a = some o ∧ o.data = .func fd

theorem keeper_of {f : Value} {Q : Keeper → Shared → Prop} (hc : Callable s f) (h : ∀ k, (k = .machine ∨ k = .frame) → Q k s) : wpAny M A (keeperOf f) Q E s := by
  unfold keeperOf
  rcases hc with hc | ⟨a, o, fd, rfl, ho, hd⟩
  · cases f with
    | ref a => exact absurd rfl (hc a)
    | _ => exact wpAny_pure (h _ (.inl rfl))
  · refine wpAny_bind (wpAny_load ho ?_)
    rw [hd]
    exact wpAny_pure (h _ (.inr rfl))

theorem spliced_noStar {pos : Pos} : ∀ (args : List Expr), (args.any isStar = false) → (backTo pos (starEach args env)).any (·.1) = false
  | [], _ => rfl
  | e :: r, h => by
    have h1 : isStar e = false := by simp only [List.any_cons, Bool.or_eq_false_iff] at h; exact h.1
    have h2 : r.any isStar = false := by simp only [List.any_cons, Bool.or_eq_false_iff] at h; exact h.2
    have ih := spliced_noStar (pos := pos) r h2
    cases e <;> first | (simp [isStar] at h1; done) | (show (backTo pos ((false, eval _ env) :: starEach r env)).any (·.1) = false; simpa [backTo] using ih)

theorem starEach_plain {e : Expr} {r : List Expr} (h : isStar e = false) : starEach (e :: r) env = (false, eval e env) :: starEach r env := by
  cases e <;> first | rfl | simp [isStar] at h

theorem evalArgs_noStar {f : Value} {trees : List (Bool × Sem Value)} {Q : Args → Shared → Prop} (hn : trees.any (·.1) = false)
    (h : wpAny M A (spliced trees) (fun vs s' => Q ⟨vs, []⟩ s') E s) : wpAny M A (evalArgs f true trees []) Q E s := by
  cases trees with
  | nil => exact fun Γ p hΓ => (PyProof.Rows.evalArgs_none (show Q ⟨[], []⟩ s from h Γ p hΓ)) Γ p hΓ
  | cons t r =>
    obtain ⟨b, x⟩ := t
    have hb : b = false := by simp only [List.any_cons, Bool.or_eq_false_iff] at hn; exact hn.1
    subst hb
    exact Calls.evalArgs_plain h

theorem callWith_any {pos : Pos} {f : Value} {first : List Value} {trees : List (Bool × Sem Value)} {Q : Value → Shared → Prop} (hn : trees.any (·.1) = false)
    (h : wpAny M A (spliced trees) (fun vs s₁ => Callable s₁ f ∧ wpAny M A (call f (first ++ vs) []) Q E s₁) E s) : wpAny M A (callWith pos f first trees []) Q E s := by
  unfold callWith
  refine wpAny_bind (wpAny_holding (evalArgs_noStar hn (wpAny_mono h (fun vs s₁ h₁ => ?_) fun _ _ q => q)))
  refine wpAny_bind (wpAny_standAt ?_)
  simp only [hn, Bool.false_or, List.any_nil]
  have fin : wpAny M A (call f (first ++ vs) []) (fun r s' => wpAny M A (do holding [r] point; pure r) Q E s') E s₁ := wpAny_mono h₁.2 (fun r s' q => wpAny_bind (wpAny_holding (wpAny_point (wpAny_pure q)))) fun _ _ q => q
  refine wpAny_bind (keeper_of h₁.1 fun k hk => ?_)
  rcases hk with rfl | rfl
  · exact wpAny_bind fin
  · show wpAny M A (if trees.length + 2 * 0 > 30 then (call f (first ++ vs) [] >>= fun r => do holding [r] point; pure r) else (callMarked plainCall f (first ++ vs) [] >>= fun r => do holding [r] point; pure r)) Q E s₁
    split
    · exact wpAny_bind fin
    · exact wpAny_bind (Calls.wpAny_keep fin)

theorem base_plain {o : Expr} {name : Str} (h : noSuper o = true) : attributeBase o name env (eval o env) = eval o env := by
  unfold attributeBase
  split
  · simp [noSuper] at h
  · rfl
end

end Mine
end

/-! # Mut -/
section
set_option autoImplicit false
namespace Mine
open PySem PyProof.Rows

section
variable {S : Stat} {X Y : List Addr} {f g : List Loc} {σ : Sto} {s s' : Shared}

theorem nodup_at {f : List Loc} (h : (addrs f).Nodup) {i j : Nat} {l l' : Loc} (hi : f[i]? = some l) (hj : f[j]? = some l') (hne : i ≠ j) : ∀ a ∈ l.addrs, a ∉ l'.addrs := by
  induction f generalizing i j with
  | nil => simp at hi
  | cons x f ih =>
    have h1 : (x.addrs ++ addrs f).Nodup := by simpa [addrs] using h
    obtain ⟨_, h2, h3⟩ := List.nodup_append.mp h1
    cases i with
    | zero =>
      cases j with
      | zero => exact absurd rfl hne
      | succ j =>
        simp at hi hj
        subst hi
        intro a ha hb
        exact h3 a ha a (addrs_of hj hb) rfl
    | succ i =>
      cases j with
      | zero =>
        simp at hi hj
        subst hj
        intro a ha hb
        exact h3 a hb a (addrs_of hi ha) rfl
      | succ j =>
        simp at hi hj
        exact ih h2 hi hj (by omega)

/-- a tracked object is changed -/
theorem Lk.upd {n : Nat} {l : Loc} {o' : O} {h' : Heap} (L : Lk S X f σ s.heap) (hn : f[n]? = some l) (hs : ∀ b, b ∉ l.addrs → h'.get? b = s.heap.get? b) (ho : OR S X f h' l o') : Lk S X f (σ.set n o') h' := by
  have nb : ∀ b, b ∉ addrs f → h'.get? b = s.heap.get? b := fun b hb => hs b fun q => hb (addrs_of hn q)
  have kv : ∀ x v, VR S X f s.heap x v → VR S X f h' x v := VR.keep (fun _ _ e => e) fun a o q h1 h2 => ⟨⟨h1, h2⟩, o, (nb a h1).trans q, .refl o⟩
  have kvs : ∀ x v, VRs S X f s.heap x v → VRs S X f h' x v := VRs.keep (fun _ _ e => e) fun a o q h1 h2 => ⟨⟨h1, h2⟩, o, (nb a h1).trans q, .refl o⟩
  refine ⟨fun b o e => ?_, by rw [List.length_set]; exact L.len, L.nodup, L.fresh, fun a ha => ?_, fun i l' o hi hoo => ?_⟩
  · exact (nb b fun q => by rw [L.fresh b q] at e; cases e).trans (L.base b o e)
  · obtain ⟨h1, h2, o, h3⟩ := L.hid a ha
    exact ⟨h1, h2, o, (nb a h2).trans h3⟩
  · by_cases hin : i = n
    · subst hin
      rw [hn] at hi; cases hi
      have hlt : i < σ.length := L.len ▸ (List.getElem?_eq_some_iff.mp hn).1
      rw [List.getElem?_set_self hlt] at hoo
      cases hoo
      exact ho
    · rw [List.getElem?_set_ne (fun q => hin q.symm)] at hoo
      exact (L.obj i l' o hi hoo).keep kv kvs fun a ha => hs a fun q => nodup_at L.nodup hi hn hin a ha q

theorem Kp.upd {n : Nat} {l : Loc} {h' : Heap} {t : Nat} (hn : f[n]? = some l) (hs : ∀ b, b ∉ l.addrs → h'.get? b = s.heap.get? b) (hl : ∀ a ∈ l.addrs, ∃ o, h'.get? a = some o) : Kp f Y s { s with heap := h', toks := t } := by
  have nb : ∀ b, b ∉ addrs f → h'.get? b = s.heap.get? b := fun b hb => hs b fun q => hb (addrs_of hn q)
  refine ⟨rfl, fun a o e => ?_, fun a o e h1 _ => ⟨o, (nb a h1).trans e, .refl o⟩, fun a o es k e d h1 => ⟨o, es, k, (nb a h1).trans e, d⟩⟩
  by_cases ha : a ∈ l.addrs
  · exact hl a ha
  · exact ⟨o, (hs a ha).trans e⟩

/-- a new object is tracked: nothing that is known stands on it -/
theorem Lk.track {l : Loc} {o : O} {h : Heap} (L : Lk S (l.addrs ++ X) f σ h) (hnd : l.addrs.Nodup) (hX : ∀ a ∈ l.addrs, a ∉ X) (ho : OR S X (f ++ [l]) h l o) : Lk S X (f ++ [l]) (σ ++ [o]) h := by
  have hdis : ∀ a ∈ l.addrs, a ∉ addrs f := fun a ha => (L.hid a (List.mem_append_left _ ha)).2.1
  have hl : addrs [l] = l.addrs := by simp [addrs]
  have kf : ∀ (i : Nat) (l' : Loc), f[i]? = some l' → (f ++ [l])[i]? = some l' := fun i l' e => List.getElem?_append_left (List.getElem?_eq_some_iff.mp e).1 ▸ e
  have kh : ∀ a ob, h.get? a = some ob → a ∉ addrs f → a ∉ l.addrs ++ X → (a ∉ addrs (f ++ [l]) ∧ a ∉ X) ∧ ∃ o', h.get? a = some o' ∧ SameObj ob o' := fun a ob q h1 h2 =>
    ⟨⟨fun h3 => (mem_addrs_append.mp h3).elim h1 fun h4 => h2 (List.mem_append_left _ (hl ▸ h4)), fun h3 => h2 (List.mem_append_right _ h3)⟩, ob, q, .refl ob⟩
  refine ⟨L.base, by simp [L.len], ?_, fun a ha => ?_, fun a ha => ?_, fun i l' o' hi ho' => ?_⟩
  · rw [addrs_append, hl]
    exact List.nodup_append.mpr ⟨L.nodup, hnd, fun a ha b hb e => hdis b hb (e ▸ ha)⟩
  · rcases mem_addrs_append.mp ha with ha | ha
    · exact L.fresh a ha
    · exact (L.hid a (List.mem_append_left _ (hl ▸ ha))).1
  · obtain ⟨h1, h2, h3⟩ := L.hid a (List.mem_append_right _ ha)
    exact ⟨h1, fun q => (mem_addrs_append.mp q).elim h2 fun q => hX a (hl ▸ q) ha, h3⟩
  · by_cases hlt : i < f.length
    · rw [List.getElem?_append_left hlt] at hi
      rw [List.getElem?_append_left (L.len ▸ hlt)] at ho'
      exact (L.obj i l' o' hi ho').keep (VR.keep kf kh) (VRs.keep kf kh) fun _ _ => rfl
    · have hi' : i = f.length := by
        have := (List.getElem?_eq_some_iff.mp hi).1
        simp at this; omega
      subst hi'
      rw [List.getElem?_append_right (Nat.le_refl _)] at hi
      rw [L.len, List.getElem?_append_right (Nat.le_refl _)] at ho'
      simp at hi ho'
      subst hi ho'
      exact ho

/-- with a new address hidden -/
theorem Lk.hideNew {a : Addr} (L : Lk S X f σ s.heap) (e : Ext s s') (hn : s.heap.get? a = none) {o : Obj} (hl : s'.heap.get? a = some o) : Lk S (a :: X) f σ s'.heap := by
  have hb : S.hb.get? a = none := by
    cases q : S.hb.get? a with
    | none => rfl
    | some o => rw [L.base a o q] at hn; cases hn
  have kv : ∀ x v, VR S X f s.heap x v → VR S (a :: X) f s'.heap x v := VR.keep (fun _ _ e => e) fun b ob q h1 h2 =>
    ⟨⟨h1, fun h => (List.mem_cons.mp h).elim (fun h => by subst h; rw [hn] at q; cases q) h2⟩, ob, e.keep b ob q, .refl ob⟩
  have kvs : ∀ x v, VRs S X f s.heap x v → VRs S (a :: X) f s'.heap x v := VRs.keep (fun _ _ e => e) fun b ob q h1 h2 =>
    ⟨⟨h1, fun h => (List.mem_cons.mp h).elim (fun h => by subst h; rw [hn] at q; cases q) h2⟩, ob, e.keep b ob q, .refl ob⟩
  have L' := e.lk L
  refine ⟨L'.base, L'.len, L'.nodup, L'.fresh, fun b hb' => ?_, fun i l ob hi ho => (L.obj i l ob hi ho).keep kv kvs fun b hb' => ?_⟩
  · rcases List.mem_cons.mp hb' with rfl | hb'
    · exact ⟨hb, (L.new hn).1, o, hl⟩
    · exact L'.hid b hb'
  · obtain ⟨ob', q⟩ := L.live (addrs_of hi hb')
    rw [q]; exact e.keep b ob' q
theorem VRs.hideNew {a : Addr} (e : Ext s s') (hn : s.heap.get? a = none) {xs : List V} {vs : List Value} (r : VRs S X f s.heap xs vs) : VRs S (a :: X) f s'.heap xs vs :=
  VRs.keep (fun _ _ e => e) (fun b ob q h1 h2 => ⟨⟨h1, fun h => (List.mem_cons.mp h).elim (fun h => by subst h; rw [hn] at q; cases q) h2⟩, ob, e.keep b ob q, .refl ob⟩) xs vs r

theorem Lk.less {X' : List Addr} {h : Heap} (L : Lk S X f σ h) (hX : ∀ a ∈ X', a ∈ X) : Lk S X' f σ h :=
  ⟨L.base, L.len, L.nodup, L.fresh, fun a ha => L.hid a (hX a ha), fun i l o hi ho => (L.obj i l o hi ho).keep (fun _ _ => VR.less hX) (fun _ _ => VRs.less hX) fun _ _ => rfl⟩

/-- the result of an expression that makes a list: nothing stands on the list yet -/
noncomputable def QN (S : Stat) (X Y : List Addr) (f : List Loc) (s : Shared) (r : R V) (v : Value) (s' : Shared) : Prop :=
  ∃ x σ' g, r = .ok x σ' ∧ Fresh g s ∧ Kp f Y s s' ∧ Lk S X (f ++ g) σ' s'.heap ∧ VR S X (f ++ g) s'.heap x v ∧
    ∀ xs, x = .lst xs → ∃ a vs n, v = .ref a ∧ s.heap.get? a = none ∧ a ∉ X ∧ Lk S (a :: X) (f ++ g) σ' s'.heap ∧ IsL s'.heap a vs n ∧ VRs S (a :: X) (f ++ g) s'.heap xs vs.toList ∧ xs.length ≤ LIM

theorem QN.qs {r : R V} {v : Value} (q : QN S X Y f s r v s') : QS S X Y f (PV S X) s r v s' := by
  obtain ⟨x, σ', g, e, hg, k, L, p, _⟩ := q
  exact ⟨x, σ', g, e, hg, k, L, p⟩

theorem QN.trk {r : R V} {v : Value} (hne : (r.bind fun v σ => doTrk σ v) ≠ .stuck) (q : QN S X Y f s r v s') : QS S X Y f (PV S X) s (r.bind fun v σ => doTrk σ v) v s' := by
  obtain ⟨x, σ', g, rfl, hg, k, L, p, hl⟩ := q
  cases x with
  | lst xs =>
    obtain ⟨a, vs, n, rfl, hn, hX, L', il, r, hlen⟩ := hl xs rfl
    refine ⟨.ref σ'.length, σ' ++ [.list xs], g ++ [(a, none)], rfl, ?_, k, ?_, ?_⟩
    · intro b hb
      rcases mem_addrs_append.mp hb with hb | hb
      · exact hg b hb
      · have : b = a := by simpa [addrs, Loc.addrs] using hb
        rw [this]; exact hn
    · rw [← List.append_assoc]
      refine Lk.track (l := (a, none)) (X := X) L' (by simp [Loc.addrs]) (fun b hb => by have : b = a := by simpa [Loc.addrs] using hb
                                                                                         rw [this]; exact hX) ⟨vs, n, il, ?_, hlen⟩
      refine VRs.keep (fun i l' e => List.getElem?_append_left (List.getElem?_eq_some_iff.mp e).1 ▸ e) (fun b ob q h1 h2 => ⟨⟨fun h3 => ?_, fun h3 => h2 (List.mem_cons_of_mem _ h3)⟩, ob, q, .refl ob⟩) xs vs.toList r
      rcases mem_addrs_append.mp h3 with h3 | h3
      · exact h1 h3
      · have : b = a := by simpa [addrs, Loc.addrs] using h3
        exact h2 (this ▸ List.mem_cons_self)
    · show VR S X (f ++ (g ++ [(a, none)])) s'.heap (.ref σ'.length) (.ref a)
      rw [VR]
      refine ⟨(a, none), ?_, rfl⟩
      rw [← List.append_assoc, ← L.len, List.getElem?_append_right (Nat.le_refl _)]
      simp
  | _ => exact absurd rfl hne

/-- from an operation behind its operands -/
theorem PE.qn {s₁ : Shared} {x : V} {v : Value} (hg : Fresh g s) (k : Kp f Y s s₁) (L : Lk S X (f ++ g) σ s₁.heap) (p : PE S X (f ++ g) s₁ x v s') : QN S X Y f s (.ok x σ) v s' := by
  obtain ⟨e, r, hl⟩ := p
  refine ⟨x, σ, g, rfl, hg, k.trans hg (e.kp _ _), e.lk L, r, fun xs hx => ?_⟩
  obtain ⟨a, vs, n, e1, e2, e3, e4, e5⟩ := hl xs hx
  refine ⟨a, vs, n, e1, new_back k.live e2, (L.new e2).2, L.hideNew e e2 e3, e3, ?_, e5⟩
  exact VRs.hideNew e e2 e4
end

end Mine
end

/-! # Frame -/
section
set_option autoImplicit false
namespace Mine
open PySem PyProof.Rows

/-! ## frames -/

noncomputable def isCellKind (k : Option NameKind) : Prop := k = some .cell ∨ k = some .free

/-- the value of a name in a frame -/
noncomputable def NameIs (env : Env) (h : Heap) (x : Str) (w : Value) : Prop :=
  (env.kindOf x = some .local ∧ ∃ m, h.Ns env.locals m ∧ m x = some w) ∨ (isCellKind (env.kindOf x) ∧ ∃ c, env.cells.lookup x = some c ∧ h.IsCell c (some w))

structure FR (S : Stat) (X : List Addr) (f : List Loc) (h : Heap) (env : Env) (Γ : List Str) (sc : Scope) (ρ : List V) : Prop where
  kind : env.scope.kind = .function
  glob : env.globals = mainGlobals
  blt : env.builtins = builtinsNs
  names : ∀ x, env.kindOf x = sc.names.lookup x ∨ (sc.names.lookup x = some .free ∧ env.kindOf x = some .cell)
  loc : env.locals ∈ X ∧ ∃ m, h.Ns env.locals m
  cells : ∀ x, isCellKind (env.kindOf x) → ∃ c o, env.cells.lookup x = some c ∧ c ∈ X ∧ h.IsCell c o
  vals : ∀ x i v, isVar sc x = true → lastIdx x Γ = some i → ρ[i]? = some v → v ≠ .undef → ∃ w, NameIs env h x w ∧ VR S X f h v w
  len : ρ.length = Γ.length

/-- the frames on the stack -/
noncomputable def FrL (S : Stat) (f : List Loc) (h : Heap) (l : List Env) : Prop :=
  ∀ e ∈ l, e.scope.kind ≠ .module ∧ ∃ L o es n, e.frame = some L ∧ S.hb.get? L = none ∧ L ∉ addrs f ∧ h.get? L = some o ∧ o.data = .dict es n

structure Cx (S : Stat) (A : Around) (q : Bool) (d : Nat) (f : List Loc) (h : Heap) (fr : Option Addr) : Prop where
  depth : A.depth + 2 * d + 2 ≤ 900
  units : A.units + 5 * d + 200 ≤ 9900
  hand : q = false → A.handled = none
  frs : ∃ e0 l, A.frames = some (e0 :: l) ∧ e0.frame = fr ∧ FrL S f h (e0 :: l)

/-- where a call starts -/
structure CxC (S : Stat) (A : Around) (q : Bool) (d : Nat) (f : List Loc) (h : Heap) : Prop where
  depth : A.depth + 2 * d + 2 ≤ 900
  units : A.units + 5 * d + 200 ≤ 9900
  hand : q = false → A.handled = none
  frs : ∃ l, A.frames = some l ∧ FrL S f h l

theorem Cx.call {S : Stat} {A : Around} {q : Bool} {d : Nat} {f : List Loc} {h : Heap} {fr : Option Addr} (c : Cx S A q d f h fr) : CxC S A q d f h :=
  ⟨c.depth, c.units, c.hand, let ⟨e0, l, h1, _, h3⟩ := c.frs; ⟨e0 :: l, h1, h3⟩⟩

section
variable {S : Stat} {A : Around} {X Y : List Addr} {f g : List Loc} {s s' : Shared} {env : Env} {Γ : List Str} {sc : Scope} {ρ : List V} {q : Bool} {d : Nat} {fr : Option Addr}

theorem kp_ns {a : Addr} {m : Str → Option Value} (k : Kp f Y s s') (hf : a ∉ addrs f) (hY : a ∉ Y) (h : s.heap.Ns a m) : s'.heap.Ns a m := by
  obtain ⟨o, es, ep, ho, hd, r⟩ := h
  obtain ⟨o', ho', e⟩ := k.kept a o ho hf hY
  exact ⟨o', es, ep, ho', e.data.trans hd, r⟩
theorem kp_cell {a : Addr} {m : Option Value} (k : Kp f Y s s') (hf : a ∉ addrs f) (hY : a ∉ Y) (h : s.heap.IsCell a m) : s'.heap.IsCell a m := by
  obtain ⟨o, ho, hd⟩ := h
  obtain ⟨o', ho', e⟩ := k.kept a o ho hf hY
  exact ⟨o', ho', e.data.trans hd⟩

theorem NameIs.keep {x : Str} {w : Value} (k : Kp f Y s s') (hl : env.locals ∉ addrs f ∧ env.locals ∉ Y) (hc : ∀ x c, env.cells.lookup x = some c → isCellKind (env.kindOf x) → c ∉ addrs f ∧ c ∉ Y) (h : NameIs env s.heap x w) : NameIs env s'.heap x w := by
  rcases h with ⟨h1, m, h2, h3⟩ | ⟨h1, c, h2, h3⟩
  · exact .inl ⟨h1, m, kp_ns k hl.1 hl.2 h2, h3⟩
  · exact .inr ⟨h1, c, h2, kp_cell k (hc x c h2 h1).1 (hc x c h2 h1).2 h3⟩

/-- an expression leaves its frame as it was -/
theorem FR.keep {σ : Sto} (F : FR S X f s.heap env Γ sc ρ) (L : Lk S X f σ s.heap) (k : Kp f [] s s') (hg : Fresh g s) : FR S X (f ++ g) s'.heap env Γ sc ρ := by
  have hl : env.locals ∉ addrs f := (L.hid _ F.loc.1).2.1
  have hc : ∀ x c, env.cells.lookup x = some c → isCellKind (env.kindOf x) → c ∉ addrs f := fun x c e hk => by
    obtain ⟨c', o, e', hX, _⟩ := F.cells x hk
    rw [e] at e'; cases e'
    exact (L.hid c hX).2.1
  refine ⟨F.kind, F.glob, F.blt, F.names, ⟨F.loc.1, let ⟨m, h⟩ := F.loc.2; ⟨m, kp_ns k hl (by simp) h⟩⟩, fun x hx => ?_, fun x i v h1 h2 h3 h4 => ?_, F.len⟩
  · obtain ⟨c, o, e, hX, h⟩ := F.cells x hx
    exact ⟨c, o, e, hX, kp_cell k (hc x c e hx) (by simp) h⟩
  · obtain ⟨w, h5, h6⟩ := F.vals x i v h1 h2 h3 h4
    exact ⟨w, h5.keep k ⟨hl, by simp⟩ fun x c e hk => ⟨hc x c e hk, by simp⟩, h6.keepK k hg fun a ha => nomatch ha⟩

theorem FrL.keep {l : List Env} (F : FrL S f s.heap l) (k : Kp f Y s s') (hg : Fresh g s) : FrL S (f ++ g) s'.heap l := fun e he => by
  obtain ⟨h1, L, o, es, n, h2, h3, h4, h5, h6⟩ := F e he
  obtain ⟨o', es', n', h7, h8⟩ := k.dicts L o es n h5 h6 h4
  exact ⟨h1, L, o', es', n', h2, h3, fun h => (mem_addrs_append.mp h).elim h4 (not_mem_fresh hg h5), h7, h8⟩

theorem Cx.keep (c : Cx S A q d f s.heap fr) (k : Kp f Y s s') (hg : Fresh g s) : Cx S A q d (f ++ g) s'.heap fr :=
  ⟨c.depth, c.units, c.hand, let ⟨e0, l, h1, h2, h3⟩ := c.frs; ⟨e0, l, h1, h2, h3.keep k hg⟩⟩
end

/-! ## what is static -/

structure Facts (S : Stat) (C : Ctx) (T : Nat → Option Fn) : Prop where
  g : ∃ mg mb, S.hb.Ns mainGlobals mg ∧ S.hb.Ns builtinsNs mb ∧
    (∀ x v, C.consts.lookup x = some v → ∃ w, mg x = some w ∧ VR S [] [] S.hb v w) ∧
    (∀ x k, C.fns.lookup x = some k → mg x = some (.ref (S.fn k))) ∧
    (∀ x : Str, (x ∈ b1Names.map (·.1) ∨ x ∈ b2Names.map (·.1) ∨ x ∈ kindNames.map (·.1) ∨ x = ("isinstance" : Str) ∨ x = ("range" : Str)) → C.fns.lookup x = none → mg x = none ∧ mb x = bootBuiltins x) ∧
    (C.book = true → mg "Book" = some (.ref S.book)) ∧
    (∀ x c, C.excs.lookup x = some c → (mg x = some (S.cl c)) ∨ (mg x = none ∧ mb x = some (S.cl c)))
  nolimit : S.hb.NoLimit
  parts : PartsAt S S.hb
  pnn : S.parts ≠ .none
  fnObj : ∀ k fn, T k = some fn → ∃ o fd, S.hb.get? (S.fn k) = some o ∧ o.data = .func fd

section
variable (S : Stat) (C : Ctx) (F : Calls) (q : Bool) (d : Nat)

/-- the contract of the calls at a depth -/
noncomputable def FS : Prop := ∀ (k : Nat) (vs : List V) (σ : Sto) (f : List Loc) (X : List Addr) (A : Around) (s : Shared) (vals : List Value), CxC S A q d f s.heap → Lk S X f σ s.heap → VRs S X f s.heap vs vals →
  F k vs σ ≠ .stuck → (∃ o fd, S.hb.get? (S.fn k) = some o ∧ o.data = .func fd) ∧
    codeAny (model S.prog S.w) A (.call (.ref (S.fn k)) ⟨vals, []⟩) (fun r s' => match r with | .ok (.ret v) => QS S X [] f (PV S X) s (F k vs σ) v s' | .ok _ => False | .error e => ES S X [] f false s (F k vs σ) e s') s

/-- where an expression starts -/
structure St (Γ : List Str) (sc : Scope) (env : Env) (ρ : List V) (f : List Loc) (X : List Addr) (σ : Sto) (s : Shared) (A : Around) : Prop where
  cx : Cx S A q d f s.heap env.frame
  fr : FR S X f s.heap env Γ sc ρ
  lk : Lk S X f σ s.heap

/-- an expression and its core -/
noncomputable def EOk (Γ : List Str) (sc : Scope) (e : Expr) (c : CE) : Prop := ∀ (env : Env) (ρ : List V) (f : List Loc) (X : List Addr) (σ : Sto) (s : Shared) (A : Around), St S q d Γ sc env ρ f X σ s A →
  Sim S A X [] f (PV S X) (eval e env) (evE F q c ρ σ) s
/-- one that makes a new list -/
noncomputable def NOk (Γ : List Str) (sc : Scope) (e : Expr) (c : CE) : Prop := ∀ (env : Env) (ρ : List V) (f : List Loc) (X : List Addr) (σ : Sto) (s : Shared) (A : Around), St S q d Γ sc env ρ f X σ s A →
  evE F q c ρ σ ≠ .stuck → wpAny (model S.prog S.w) A (eval e env) (QN S X [] f s (evE F q c ρ σ)) (ES S X [] f false s (evE F q c ρ σ)) s
noncomputable def LOk (Γ : List Str) (sc : Scope) (es : List Expr) (cs : List CE) : Prop := es.any isStar = false ∧ ∀ (env : Env) (pos : Pos) (ρ : List V) (f : List Loc) (X : List Addr) (σ : Sto) (s : Shared) (A : Around), St S q d Γ sc env ρ f X σ s A →
  Sim S A X [] f (fun vs xs f s => VRs S X f s.heap xs vs) (spliced (backTo pos (starEach es env))) (evL F q cs ρ σ) s
noncomputable def TOk (Γ : List Str) (sc : Scope) (e : Expr) (c : CE) : Prop := ∀ (env : Env) (ρ : List V) (f : List Loc) (X : List Addr) (σ : Sto) (s : Shared) (A : Around), St S q d Γ sc env ρ f X σ s A →
  Sim S A X [] f (fun b t _ _ => b = t) (isTrue e env (eval e env)) ((evE F q c ρ σ).bind fun v σ => R.lift σ (truthy σ v)) s
end

theorem FR.isGlob {S : Stat} {X : List Addr} {f : List Loc} {h : Heap} {env : Env} {Γ : List Str} {sc : Scope} {ρ : List V} (fr : FR S X f h env Γ sc ρ) {x : Str} (hg : isGlob sc x = true) : env.kindOf x = some .globalImplicit := by
  have h : sc.names.lookup x = some .globalImplicit := by simpa [Mine.isGlob] using hg
  rcases fr.names x with e | ⟨e, _⟩
  · exact e.trans h
  · rw [h] at e; cases e

section
variable {S : Stat} {C : Ctx} {F : Calls} {q : Bool} {d : Nat} {Γ : List Str} {sc : Scope}

theorem St.keep {env : Env} {ρ : List V} {f g : List Loc} {X : List Addr} {σ σ' : Sto} {s s' : Shared} {A : Around} (st : St S q d Γ sc env ρ f X σ s A) (hg : Fresh g s) (k : Kp f [] s s') (L : Lk S X (f ++ g) σ' s'.heap) : St S q d Γ sc env ρ (f ++ g) X σ' s' A :=
  ⟨st.cx.keep k hg, st.fr.keep st.lk k hg, L⟩

theorem NOk.eok {e : Expr} {c : CE} (h : NOk S F q d Γ sc e c) : EOk S F q d Γ sc e c := fun env ρ f X σ s A st hne => wpAny_mono (h env ρ f X σ s A st hne) (fun _ _ x => x.qs) fun _ _ x => x
theorem NOk.trk {e : Expr} {c : CE} (h : NOk S F q d Γ sc e c) : EOk S F q d Γ sc e (.trk c) := fun env ρ f X σ s A st hne => by
  have hr : evE F q c ρ σ ≠ .stuck := fun e => hne (by rw [evE, e]; rfl)
  rw [evE] at hne ⊢
  refine wpAny_mono (h env ρ f X σ s A st hr) (fun _ _ x => x.trk hne) fun e s' x => ?_
  obtain ⟨k, σ', g, ea, e1, e2, r⟩ := x
  exact ⟨k, σ', g, ea, e1, by rw [e2]; rfl, r⟩

theorem trkAt_ok {e : Expr} {c : CE} {p : Pos} (h : NOk S F q d Γ sc e c) : EOk S F q d Γ sc e (trkAt C p c) := by
  unfold trkAt; split
  · exact h.trk
  · exact h.eok

/-! ## one after the other -/

noncomputable def Lifts {γ δ : Type} (Y : List Addr) (K : List Loc → Shared → R δ → γ → Shared → Prop) : Prop := ∀ f g s s₁ r c s', Fresh g s → Kp f Y s s₁ → K (f ++ g) s₁ r c s' → K f s r c s'

theorem QS.lifts {α β : Type} {X Y : List Addr} {P : α → β → List Loc → Shared → Prop} : Lifts Y (fun f s r a s' => QS S X Y f P s r a s') := fun f g s s₁ r c s' hg k q => by
  obtain ⟨b', σ'', g', e, hg', k', L, p⟩ := q
  rw [List.append_assoc] at L p
  exact ⟨b', σ'', g ++ g', e, hg.trans k.live hg', k.trans hg k', L, p⟩
theorem ES.lifts {β : Type} {X Y : List Addr} {tr : Bool} : Lifts (δ := β) Y (fun f s r a s' => ES S X Y f tr s r a s') := fun f g s s₁ r c s' hg k q => by
  obtain ⟨c, σ'', g', ea, e1, e2, hg', k', L, x⟩ := q
  rw [List.append_assoc] at L x
  exact ⟨c, σ'', g ++ g', ea, e1, e2, hg.trans k.live hg', k.trans hg k', L, x.back fun a h => new_back k.live h⟩
theorem QN.lifts {X Y : List Addr} : Lifts Y (fun f s r a s' => QN S X Y f s r a s') := fun f g s s₁ r c s' hg k q => by
  obtain ⟨x, σ', g', e, hg', k', L, p, hl⟩ := q
  rw [List.append_assoc] at L p
  refine ⟨x, σ', g ++ g', e, hg.trans k.live hg', k.trans hg k', L, p, fun xs hx => ?_⟩
  obtain ⟨a, vs, n, e1, e2, e3, e4, e5, e6, e7⟩ := hl xs hx
  rw [List.append_assoc] at e4 e6
  exact ⟨a, vs, n, e1, new_back k.live e2, e3, e4, e5, e6, e7⟩

theorem Sim.go {α β γ δ : Type} {A : Around} {X Y : List Addr} {f : List Loc} {P : α → β → List Loc → Shared → Prop} {K : List Loc → Shared → R δ → γ → Shared → Prop} (hK : Lifts Y K)
    {t : Sem α} {r : R β} {rk : β → Sto → R δ} {s : Shared} {W : α → Shared → Prop} {Q' : γ → Shared → Prop} {E' : Value → Shared → Prop} (h : Sim S A X Y f P t r s) (hne : r.bind rk ≠ .stuck)
    (hQ : ∀ c s'', K f s (r.bind rk) c s'' → Q' c s'') (hE : ∀ e s'', ES S X Y f false s (r.bind rk) e s'' → E' e s'')
    (hk : ∀ a b σ' g s', rk b σ' ≠ .stuck → Fresh g s → Kp f Y s s' → Lk S X (f ++ g) σ' s'.heap → P a b (f ++ g) s' → (∀ c s'', K (f ++ g) s' (rk b σ') c s'' → Q' c s'') →
      (∀ e s'', ES S X Y (f ++ g) false s' (rk b σ') e s'' → E' e s'') → W a s') : wpAny (model S.prog S.w) A t W E' s := by
  have hr : r ≠ .stuck := fun e => hne (by rw [e]; rfl)
  refine wpAny_mono (h hr) (fun a s' q => ?_) fun e s' q => hE e s' ?_
  · obtain ⟨b, σ', g, rfl, hg, k, L, p⟩ := q
    exact hk a b σ' g s' hne hg k L p (fun c s'' q => hQ c s'' (hK f g s s' _ c s'' hg k q)) fun e s'' q => hE e s'' (ES.lifts f g s s' _ e s'' hg k q)
  · obtain ⟨c, σ', g, ea, e1, rfl, hg, k, L, x⟩ := q
    exact ⟨c, σ', g, ea, e1, rfl, hg, k, L, x⟩

theorem R.bind_assoc {α β γ : Type} (r : R α) (f : α → Sto → R β) (g : β → Sto → R γ) : (r.bind f).bind g = r.bind fun a σ => (f a σ).bind g := by cases r <;> rfl

theorem PE.here {X Y : List Addr} {f : List Loc} {σ : Sto} {s s' : Shared} {x : V} {v : Value} (L : Lk S X f σ s.heap) (p : PE S X f s x v s') : QN S X Y f s (.ok x σ) v s' := by
  have := PE.qn (f := f) (g := []) (Y := Y) (.nil s) (.refl f Y s) (by rwa [List.append_nil]) (by rw [List.append_nil]; exact p)
  exact this

theorem Sim.goN {α β : Type} {A : Around} {X Y : List Addr} {f : List Loc} {P : α → β → List Loc → Shared → Prop}
    {t : Sem α} {r : R β} {rk : β → Sto → R V} {s : Shared} {W : α → Shared → Prop} {Q' : Value → Shared → Prop} {E' : Value → Shared → Prop} (h : Sim S A X Y f P t r s) (hne : r.bind rk ≠ .stuck)
    (hQ : ∀ c s'', QN S X Y f s (r.bind rk) c s'' → Q' c s'') (hE : ∀ e s'', ES S X Y f false s (r.bind rk) e s'' → E' e s'')
    (hk : ∀ a b σ' g s', rk b σ' ≠ .stuck → Fresh g s → Kp f Y s s' → Lk S X (f ++ g) σ' s'.heap → P a b (f ++ g) s' → (∀ c s'', QN S X Y (f ++ g) s' (rk b σ') c s'' → Q' c s'') →
      (∀ e s'', ES S X Y (f ++ g) false s' (rk b σ') e s'' → E' e s'') → W a s') : wpAny (model S.prog S.w) A t W E' s :=
  Sim.go (K := fun f s r a s' => QN S X Y f s r a s') QN.lifts h hne hQ hE hk
theorem Sim.goQ {α β γ δ : Type} {A : Around} {X Y : List Addr} {f : List Loc} {P : α → β → List Loc → Shared → Prop} {P' : γ → δ → List Loc → Shared → Prop}
    {t : Sem α} {r : R β} {rk : β → Sto → R δ} {s : Shared} {W : α → Shared → Prop} {Q' : γ → Shared → Prop} {E' : Value → Shared → Prop} (h : Sim S A X Y f P t r s) (hne : r.bind rk ≠ .stuck)
    (hQ : ∀ c s'', QS S X Y f P' s (r.bind rk) c s'' → Q' c s'') (hE : ∀ e s'', ES S X Y f false s (r.bind rk) e s'' → E' e s'')
    (hk : ∀ a b σ' g s', rk b σ' ≠ .stuck → Fresh g s → Kp f Y s s' → Lk S X (f ++ g) σ' s'.heap → P a b (f ++ g) s' → (∀ c s'', QS S X Y (f ++ g) P' s' (rk b σ') c s'' → Q' c s'') →
      (∀ e s'', ES S X Y (f ++ g) false s' (rk b σ') e s'' → E' e s'') → W a s') : wpAny (model S.prog S.w) A t W E' s :=
  Sim.go (K := fun f s r a s' => QS S X Y f P' s r a s') QS.lifts h hne hQ hE hk
end

end Mine
end

/-! # Expr1 -/
section
set_option autoImplicit false
namespace Mine
open PySem PyProof.Rows

section
variable {S : Stat} {C : Ctx} {T : Nat → Option Fn} {F : Calls} {q : Bool} {d : Nat} {Γ : List Str} {sc : Scope}

theorem Lk.ofBase {X : List Addr} {f : List Loc} {σ : Sto} {h : Heap} (L : Lk S X f σ h) {v : V} {w : Value} (r : VR S [] [] S.hb v w) : VR S X f h v w :=
  VR.keep (fun i l e => by simp at e) (fun a o ho _ _ => ⟨⟨fun q => (by rw [L.fresh a q] at ho; cases ho), fun q => (by rw [(L.hid a q).1] at ho; cases ho)⟩, o, L.base a o ho, .refl o⟩) v w r

theorem Lk.ns {X : List Addr} {f : List Loc} {σ : Sto} {h : Heap} {a : Addr} {m : Str → Option Value} (L : Lk S X f σ h) (n : S.hb.Ns a m) : h.Ns a m := by
  obtain ⟨o, es, ep, ho, r⟩ := n
  exact ⟨o, es, ep, L.base a o ho, r⟩

theorem ok_none {k pos} : EOk S F q d Γ sc (.Constant .none k pos) (.lit .none) := fun env ρ f X σ s A st _ => by
  rw [evE]
  exact wpAny_Constant_none (.leaf st.lk (.refl s) (by rw [VR]))
theorem ok_bool {b k pos} : EOk S F q d Γ sc (.Constant (.bool b) k pos) (.lit (.bool b)) := fun env ρ f X σ s A st _ => by
  rw [evE]
  exact wpAny_Constant_bool (.leaf st.lk (.refl s) (by rw [VR]))
theorem ok_int {i k pos} : EOk S F q d Γ sc (.Constant (.int i) k pos) (.lit (.int i)) := fun env ρ f X σ s A st _ => by
  rw [evE]
  exact wpAny_Constant_int (.leaf st.lk (.toks s _) (by rw [VR]; exact ⟨_, rfl⟩))
theorem ok_str {x : Str} {k pos} (h : (x.length ≤ 1000 && PyData.strOk x) = true) : EOk S F q d Γ sc (.Constant (.str x) k pos) (.lit (.str x)) := fun env ρ f X σ s A st _ => by
  rw [evE]
  rw [Bool.and_eq_true] at h
  have := of_decide_eq_true h.1
  exact wpAny_Constant_str (.leaf st.lk (.toks s _) (by rw [VR]; exact ⟨⟨_, rfl⟩, by unfold LIM; omega, h.2⟩))

theorem isVar_kind {env : Env} {x : Str} {X : List Addr} {f : List Loc} {h : Heap} {ρ : List V} (fr : FR S X f h env Γ sc ρ) (hv : isVar sc x = true) : env.kindOf x = some .local ∨ isCellKind (env.kindOf x) := by
  rcases fr.names x with e | ⟨_, e⟩
  · rw [e]
    unfold isVar at hv
    unfold isCellKind
    split at hv <;> simp_all
  · exact .inr (.inl e)

theorem load_name {env : Env} {x : Str} {w : Value} {s : Shared} {A : Around} {Q : Value → Shared → Prop} {E : Value → Shared → Prop} (hk : env.scope.kind = .function) (hc : (x == ("__classdict__" : Str)) = false) (n : NameIs env s.heap x w) (h : Q w s) :
    wpAny (model S.prog S.w) A (loadName env x) Q E s := by
  rcases n with ⟨h1, m, h2, h3⟩ | ⟨h1, c, h2, h3⟩
  · exact wpAny_loadName_local hk h1 h2 h3 h
  · rcases h1 with h1 | h1
    · exact wpAny_loadName_cell hk h1 h2 h3 h
    · exact wpAny_loadName_free hk h1 h2 h3 h hc

theorem readVar_some {ρ : List V} {i : Nat} {v : V} (h : readVar ρ i = some v) : ρ[i]? = some v ∧ v ≠ .undef := by
  unfold readVar at h
  split at h
  · cases h
  · cases h
  · rename_i w h1 h2
    cases h
    exact ⟨h2, fun e => h1 e⟩

theorem ok_name (fs : Facts S C T) {x : Str} {pos : Pos} {c : CE} (h : cName C Γ sc x = some c) : EOk S F q d Γ sc (.Name x pos) c := fun env ρ f X σ s A st hne => by
  unfold cName at h
  split at h
  · cases h
  rename_i hn
  simp only [Bool.or_eq_true, not_or, Bool.not_eq_true] at hn
  refine wpAny_Name ?_ hn.1
  split at h
  · rename_i hv
    simp only [Option.map_eq_some_iff] at h
    obtain ⟨i, hi, rfl⟩ := h
    rw [evE] at hne ⊢
    cases hr : readVar ρ i with
    | none => rw [hr] at hne; exact absurd rfl hne
    | some v =>
      obtain ⟨h1, h2⟩ := readVar_some hr
      obtain ⟨w, n, r⟩ := st.fr.vals x i v hv hi h1 h2
      exact load_name st.fr.kind hn.2 n (QS.leaf st.lk (.refl s) r)
  · split at h
    · rename_i hg
      simp only [Option.map_eq_some_iff] at h
      obtain ⟨v, hv, rfl⟩ := h
      rw [evE]
      obtain ⟨mg, mb, g1, g2, g3, _⟩ := fs.g
      obtain ⟨w, e1, e2⟩ := g3 x v hv
      exact load_global st.fr.kind (st.fr.isGlob hg) (by rw [st.fr.glob]; exact st.lk.ns g1) e1 (QS.leaf st.lk (.refl s) (st.lk.ofBase e2))
    · cases h

/-! operators -/

theorem lift_ok {β : Type} {σ : Sto} {o : Option β} (h : R.lift σ o ≠ .stuck) : ∃ x, o = some x := by
  cases o with
  | none => exact absurd rfl h
  | some x => exact ⟨x, rfl⟩

theorem bin_sound {X : List Addr} {f : List Loc} {σ : Sto} {s : Shared} {A : Around} {E : Value → Shared → Prop} {op : Operator} {o : P2} {a b x : V} {va vb : Value} (ho : binOf op = some o) (L : Lk S X f σ s.heap) (e : ev2 o σ a b = some x) (ra : VR S X f s.heap a va) (rb : VR S X f s.heap b vb) :
    wpAny (model S.prog S.w) A (binaryOp op va vb) (PE S X f s x) E s := by
  by_cases hop : op = .Add
  · subst hop
    cases ho
    exact add_sound L e ra rb
  · have : ∃ i j, a = .int i ∧ b = .int j := by
      cases op <;> simp [binOf] at ho hop <;> subst ho <;> cases a <;> simp [ev2] at e <;> cases b <;> simp at e <;> exact ⟨_, _, rfl, rfl⟩
    obtain ⟨i, j, rfl, rfl⟩ := this
    obtain ⟨t, rfl⟩ := vr_int ra
    obtain ⟨u, rfl⟩ := vr_int rb
    exact bin_int ho e

theorem binOf_quiet {op : Operator} {o : P2} (h : binOf op = some o) : loud2 o = false := by
  cases op <;> simp [binOf] at h <;> subst h <;> rfl
theorem cmpOf_quiet {op : CmpOp} {o : P2} (h : cmpOf op = some o) : loud2 o = false := by
  cases op <;> simp [cmpOf] at h <;> subst h <;> rfl

theorem ok_BinOp {l r : Expr} {op : Operator} {pos : Pos} {o : P2} {a b : CE} (ho : binOf op = some o) (hl : EOk S F q d Γ sc l a) (hr : EOk S F q d Γ sc r b) : NOk S F q d Γ sc (.BinOp l op r pos) (.p2 o a b) := fun env ρ f X σ s A st hne => by
  rw [evE, binOf_quiet ho, Bool.and_false, if_neg (by simp)] at hne ⊢
  refine wpAny_BinOp ?_
  refine Sim.goN (hl env ρ f X σ s A st) hne (fun _ _ x => x) (fun _ _ x => x) fun va a' σ₁ g₁ s₁ hne hg k L ra hQ hE => ?_
  have st₁ := st.keep hg k L
  refine Sim.goN (hr env ρ _ X σ₁ s₁ A st₁) hne hQ hE fun vb b' σ₂ g₂ s₂ hne hg₂ k₂ L₂ rb hQ hE => ?_
  obtain ⟨x, hx⟩ := lift_ok hne
  rw [hx] at hQ
  exact wpAny_mono (bin_sound ho L₂ hx (VR.keepK k₂ hg₂ (fun _ h => nomatch h) ra) rb) (fun v s' p => hQ v s' (p.here L₂)) fun _ _ x => x

end
end Mine
end

/-! # Expr2 -/
section
set_option autoImplicit false
namespace Mine
open PySem PyProof.Rows

section
variable {S : Stat} {C : Ctx} {T : Nat → Option Fn} {F : Calls} {q : Bool} {d : Nat} {Γ : List Str} {sc : Scope}
variable {X : List Addr} {f : List Loc} {σ : Sto} {s : Shared} {A : Around} {E : Value → Shared → Prop}

theorem Lk.parts {h : Heap} (fs : Facts S C T) (L : Lk S X f σ h) : PartsAt S h := fun hh => by
  obtain ⟨d, g, e, hd, hm, hg⟩ := fs.parts hh
  refine ⟨d, g, e, hd, ?_, hg⟩
  obtain ⟨o, es, ep, ho, r⟩ := hm
  exact ⟨o, es, ep, L.base d o ho, r⟩

theorem eq_sound {a b : V} {va vb : Value} {r : Bool} (hu : A.units + 64 < cLine) (L : Lk S X f σ s.heap) (e : eqV σ a b = some r) (ra : VR S X f s.heap a va) (rb : VR S X f s.heap b vb) :
    wpAny (model S.prog S.w) A (compareOp .Eq va vb) (PE S X f s (.bool r)) E s ∧ wpAny (model S.prog S.w) A (compareOp .NotEq va vb) (PE S X f s (.bool !r)) E s := by
  unfold eqV at e
  split at e
  · rename_i xs ys h1 h2
    split at e
    · rename_i hne
      cases e
      obtain ⟨p, vs, n, rfl, il, rs, hl⟩ := list_at L h1 ra
      obtain ⟨p2, vs2, n2, rfl, il2, rs2, hl2⟩ := list_at L h2 rb
      have hsz : (vs.size != vs2.size) = true := by rw [VRs_size rs, VRs_size rs2]; exact hne
      exact ⟨P.eq_list_lengths il il2 hsz (by omega) .bool0, SeqAt.RcNeAt.lists_lengths ⟨_, il, rfl, n, rfl⟩ ⟨_, il2, rfl, n2, rfl⟩ hsz (by omega) _ _ _ _ .bool0⟩
    · exact eqD_sound hu L e ra rb
  · exact eqD_sound hu L e ra rb

theorem cmp_sound {op : CmpOp} {o : P2} (fs : Facts S C T) (hu : A.units + 64 < cLine) (ho : cmpOf op = some o) {a b x : V} {va vb : Value} (L : Lk S X f σ s.heap) (e : ev2 o σ a b = some x) (ra : VR S X f s.heap a va) (rb : VR S X f s.heap b vb) :
    wpAny (model S.prog S.w) A (compareOp op va vb) (PE S X f s x) E s := by
  by_cases h : op ≠ .Eq ∧ op ≠ .NotEq ∧ op ≠ .In ∧ op ≠ .NotIn
  · obtain ⟨i, j, rfl, rfl⟩ := cmp_ints ho h e
    obtain ⟨t, rfl⟩ := vr_int ra
    obtain ⟨u, rfl⟩ := vr_int rb
    exact cmp_int ho h e
  · have h' : op = .Eq ∨ op = .NotEq ∨ op = .In ∨ op = .NotIn := by
      by_cases h1 : op = .Eq
      · exact .inl h1
      by_cases h2 : op = .NotEq
      · exact .inr (.inl h2)
      by_cases h3 : op = .In
      · exact .inr (.inr (.inl h3))
      by_cases h4 : op = .NotIn
      · exact .inr (.inr (.inr h4))
      exact absurd ⟨h1, h2, h3, h4⟩ h
    rcases h' with rfl | rfl | rfl | rfl <;> cases ho
    · simp only [ev2, Option.map_eq_some_iff] at e
      obtain ⟨r, h1, rfl⟩ := e
      exact (eq_sound hu L h1 ra rb).1
    · simp only [ev2, Option.map_eq_some_iff] at e
      obtain ⟨r, h1, rfl⟩ := e
      exact (eq_sound hu L h1 ra rb).2
    · simp only [ev2, Option.map_eq_some_iff] at e
      obtain ⟨r, h1, rfl⟩ := e
      exact (in_sound (L.parts fs) L h1 ra rb).1
    · simp only [ev2, Option.map_eq_some_iff] at e
      obtain ⟨r, h1, rfl⟩ := e
      exact (in_sound (L.parts fs) L h1 ra rb).2

theorem St.room {env : Env} {ρ : List V} (st : St S q d Γ sc env ρ f X σ s A) : A.units + 64 < cLine := by
  have := st.cx.units
  have : cLine = 9900 := rfl
  omega

/-- the truth of a value, as a step -/
theorem truthy_go {v : V} {w : Value} {β : Type} {rk : Bool → Sto → R β} {W : Bool → Shared → Prop} (L : Lk S X f σ s.heap) (r : VR S X f s.heap v w) (hne : (R.lift σ (truthy σ v)).bind rk ≠ .stuck)
    (hk : ∀ t s', truthy σ v = some t → Ext s s' → rk t σ ≠ .stuck → W t s') : wpAny (model S.prog S.w) A (PySem.truthy w) W E s := by
  cases h : truthy σ v with
  | none => rw [h] at hne; exact absurd rfl hne
  | some t =>
    rw [h] at hne
    exact wpAny_mono (truthy_sound L h r) (fun c s' q => by obtain ⟨rfl, e⟩ := q; exact hk c s' h e hne) fun _ _ x => x

theorem QS.moved {α β : Type} {Y : List Addr} {P : α → β → List Loc → Shared → Prop} {r : R β} {a : α} {s₁ s' : Shared} (e : Ext s s₁) (h : QS S X Y f P s₁ r a s') : QS S X Y f P s r a s' :=
  QS.lifts f [] s s₁ r a s' (.nil s) (e.kp f Y) (by rwa [List.append_nil])
theorem QN.moved {Y : List Addr} {r : R V} {a : Value} {s₁ s' : Shared} (e : Ext s s₁) (h : QN S X Y f s₁ r a s') : QN S X Y f s r a s' :=
  QN.lifts f [] s s₁ r a s' (.nil s) (e.kp f Y) (by rwa [List.append_nil])
theorem ES.moved {β : Type} {Y : List Addr} {tr : Bool} {r : R β} {a : Value} {s₁ s' : Shared} (e : Ext s s₁) (h : ES S X Y f tr s₁ r a s') : ES S X Y f tr s r a s' :=
  ES.lifts f [] s s₁ r a s' (.nil s) (e.kp f Y) (by rwa [List.append_nil])
theorem St.moved {env : Env} {ρ : List V} {s' : Shared} (st : St S q d Γ sc env ρ f X σ s A) (e : Ext s s') : St S q d Γ sc env ρ f X σ s' A := by
  have := st.keep (g := []) (.nil s) (e.kp f []) (by rw [List.append_nil]; exact e.lk st.lk)
  rwa [List.append_nil] at this

theorem QS.bool {Y : List Addr} {b : Bool} {s' : Shared} (L : Lk S X f σ s.heap) (e : Ext s s') : QS S X Y f (fun b t _ _ => b = t) s (.ok b σ) b s' :=
  ⟨b, σ, [], rfl, .nil s, e.kp f Y, by rw [List.append_nil]; exact e.lk L, rfl⟩

/-! ## one operand -/

theorem ok_p1 {e e' : Expr} {c : CE} {o : P1} {t : Value → Sem Value} (hq : (q && loud1 o) = false) (h : EOk S F q d Γ sc e c)
    (rule : ∀ (env : Env) (A : Around) (Q E : Value → Shared → Prop) (s : Shared), wpAny (model S.prog S.w) A (eval e env) (fun v s₁ => wpAny (model S.prog S.w) A (t v) Q E s₁) E s → wpAny (model S.prog S.w) A (eval e' env) Q E s)
    (op : ∀ (X : List Addr) (f : List Loc) (σ : Sto) (s : Shared) (A : Around) (E : Value → Shared → Prop) (a x : V) (va : Value), (q = false → A.handled = none) → Lk S X f σ s.heap → ev1 o σ a = some x → VR S X f s.heap a va → wpAny (model S.prog S.w) A (t va) (PE S X f s x) E s) :
    NOk S F q d Γ sc e' (.p1 o c) := fun env ρ f X σ s A st hne => by
  rw [evE, hq, if_neg (by simp)] at hne ⊢
  refine rule _ _ _ _ _ ?_
  refine Sim.goN (h env ρ f X σ s A st) hne (fun _ _ x => x) (fun _ _ x => x) fun va a' σ₁ g₁ s₁ hne hg k L ra hQ hE => ?_
  obtain ⟨x, hx⟩ := lift_ok hne
  rw [hx] at hQ
  exact wpAny_mono (op X _ σ₁ s₁ A _ a' x va st.cx.hand L hx ra) (fun v s' p => hQ v s' (p.here L)) fun _ _ x => x

theorem ok_not {e : Expr} {c : CE} {pos : Pos} (h : EOk S F q d Γ sc e c) : EOk S F q d Γ sc (.UnaryOp .Not e pos) (.p1 .not c) :=
  NOk.eok <| ok_p1 (by simp [loud1]) h (fun env A Q E s h => UnaryOp_ h) fun X f σ s A E a x va _ L hx ra => by
    simp only [ev1, Option.map_eq_some_iff] at hx
    obtain ⟨b, hb, rfl⟩ := hx
    exact not_of (wpAny_mono (truthy_sound L hb ra) (fun c s' q => by obtain ⟨rfl, e⟩ := q; exact ⟨e, by rw [VR], fun _ e => by cases e⟩) fun _ _ x => x)
theorem ok_neg {e : Expr} {c : CE} {pos : Pos} (h : EOk S F q d Γ sc e c) : EOk S F q d Γ sc (.UnaryOp .USub e pos) (.p1 .neg c) :=
  NOk.eok <| ok_p1 (by simp [loud1]) h (fun env A Q E s h => UnaryOp_ h) fun X f σ s A E a x va _ L hx ra => by
    cases a with
    | int i => cases hx; obtain ⟨t, rfl⟩ := vr_int ra; exact neg_sound
    | _ => cases hx
theorem ok_isNone {e : Expr} {c : CE} {k p pos} (fs : Facts S C T) (h : EOk S F q d Γ sc e c) : EOk S F q d Γ sc (.Compare e [.Is] [.Constant .none k p] pos) (.p1 .isNone c) :=
  NOk.eok <| ok_p1 (by simp [loud1]) h (fun env A Q E s h => wpAny_Compare1 (wpAny_mono h (fun v s₁ h₁ => wpAny_Constant_none h₁) fun _ _ x => x) rfl) fun X f σ s A E a x va _ L hx ra => isNone_sound hx ra fs.pnn
theorem ok_isNotNone {e : Expr} {c : CE} {k p pos} (fs : Facts S C T) (h : EOk S F q d Γ sc e c) : EOk S F q d Γ sc (.Compare e [.IsNot] [.Constant .none k p] pos) (.p1 .isNotNone c) :=
  NOk.eok <| ok_p1 (by simp [loud1]) h (fun env A Q E s h => wpAny_Compare1 (wpAny_mono h (fun v s₁ h₁ => wpAny_Constant_none h₁) fun _ _ x => x) rfl) fun X f σ s A E a x va _ L hx ra => isNotNone_sound hx ra fs.pnn

/-! ## two operands -/

theorem ok_p2 {l r e' : Expr} {a b : CE} {o : P2} {t : Value → Value → Sem Value} (hq : (q && loud2 o) = false) (hl : EOk S F q d Γ sc l a) (hr : EOk S F q d Γ sc r b)
    (rule : ∀ (env : Env) (A : Around) (Q E : Value → Shared → Prop) (s : Shared), wpAny (model S.prog S.w) A (eval l env) (fun v s₁ => wpAny (model S.prog S.w) A (eval r env) (fun w s₂ => wpAny (model S.prog S.w) A (t v w) Q E s₂) E s₁) E s → wpAny (model S.prog S.w) A (eval e' env) Q E s)
    (op : ∀ (X : List Addr) (f : List Loc) (σ : Sto) (s : Shared) (A : Around) (E : Value → Shared → Prop) (a b x : V) (va vb : Value), (q = false → A.handled = none) → A.units + 64 < cLine → Lk S X f σ s.heap → ev2 o σ a b = some x → VR S X f s.heap a va → VR S X f s.heap b vb → wpAny (model S.prog S.w) A (t va vb) (fun v s' => Ext s s' ∧ VR S X f s'.heap x v) E s) :
    EOk S F q d Γ sc e' (.p2 o a b) := fun env ρ f X σ s A st hne => by
  rw [evE, hq, if_neg (by simp)] at hne ⊢
  refine rule _ _ _ _ _ ?_
  refine Sim.goQ (P' := PV S X) (hl env ρ f X σ s A st) hne (fun _ _ x => x) (fun _ _ x => x) fun va a' σ₁ g₁ s₁ hne hg k L ra hQ hE => ?_
  have st₁ := st.keep hg k L
  refine Sim.goQ (P' := PV S X) (hr env ρ _ X σ₁ s₁ A st₁) hne hQ hE fun vb b' σ₂ g₂ s₂ hne hg₂ k₂ L₂ rb hQ hE => ?_
  obtain ⟨x, hx⟩ := lift_ok hne
  rw [hx] at hQ
  exact wpAny_mono (op X _ σ₂ s₂ A _ a' b' x va vb st.cx.hand st.room L₂ hx (VR.keepK k₂ hg₂ (fun _ h => nomatch h) ra) rb) (fun v s' p => hQ v s' (.leaf L₂ p.1 p.2)) fun _ _ x => x

theorem PE.weak {x : V} {v : Value} {s' : Shared} (p : PE S X f s x v s') : Ext s s' ∧ VR S X f s'.heap x v := ⟨p.1, p.2.1⟩

theorem ok_cmp {l r : Expr} {a b : CE} {op : CmpOp} {o : P2} {pos : Pos} (fs : Facts S C T) (ho : cmpOf op = some o) (hm : behindInMarks op r = false) (hl : EOk S F q d Γ sc l a) (hr : EOk S F q d Γ sc r b) :
    EOk S F q d Γ sc (.Compare l [op] [r] pos) (.p2 o a b) :=
  ok_p2 (by rw [cmpOf_quiet ho, Bool.and_false]) hl hr (fun env A Q E s h => wpAny_Compare1 h hm) fun X f σ s A E a b x va vb _ hu L hx ra rb => wpAny_mono (cmp_sound fs hu ho L hx ra rb) (fun _ _ p => p.weak) fun _ _ x => x

end
end Mine
end

/-! # Expr3 -/
section
set_option autoImplicit false
namespace Mine
open PySem PyProof.Rows

/-- a value, its truth, and what its form is not -/
structure GOk (S : Stat) (F : Calls) (q : Bool) (d : Nat) (Γ : List Str) (sc : Scope) (e : Expr) (c : CE) : Prop where
  eo : EOk S F q d Γ sc e c
  to : TOk S F q d Γ sc e c
  star : isStar e = false
  marks : ∀ op, behindInMarks op e = false
  fold : ∀ env x, foldedSetIterable e env x = pure x

inductive All2 {α β : Type} (P : α → β → Prop) : List α → List β → Prop where
  | nil : All2 P [] []
  | cons {a : α} {b : β} {as : List α} {bs : List β} : P a b → All2 P as bs → All2 P (a :: as) (b :: bs)

section
variable {S : Stat} {C : Ctx} {T : Nat → Option Fn} {F : Calls} {q : Bool} {d : Nat} {Γ : List Str} {sc : Scope}
variable {X : List Addr} {f : List Loc} {σ : Sto} {s : Shared} {A : Around} {E : Value → Shared → Prop}

/-! ## truth -/

theorem TOk.plain {e : Expr} {c : CE} (h : EOk S F q d Γ sc e c) (he : ∀ env whole, isTrue e env whole = (do let v ← whole; standAt e.pos; holding [v] (PySem.truthy v))) : TOk S F q d Γ sc e c := fun env ρ f X σ s A st hne => by
  refine isTrue_plain ?_ (he env _)
  refine Sim.goQ (P' := fun b t _ _ => b = t) (h env ρ f X σ s A st) hne (fun _ _ x => x) (fun _ _ x => x) fun va a' σ₁ g₁ s₁ hne hg k L ra hQ hE => ?_
  obtain ⟨x, hx⟩ := lift_ok hne
  rw [hx] at hQ
  exact wpAny_mono (truthy_sound L hx ra) (fun c s' p => by obtain ⟨rfl, e⟩ := p; exact hQ c s' (.bool L e)) fun _ _ x => x

theorem TOk.not {e : Expr} {c : CE} {pos : Pos} (h : TOk S F q d Γ sc e c) : TOk S F q d Γ sc (.UnaryOp .Not e pos) (.p1 .not c) := fun env ρ f X σ s A st hne => by
  have key : ((evE F q (.p1 .not c) ρ σ).bind fun v σ => R.lift σ (truthy σ v)) = ((evE F q c ρ σ).bind fun v σ => R.lift σ (truthy σ v)).bind fun b σ => .ok (!b) σ := by
    rw [evE, show loud1 .not = false from rfl, Bool.and_false, if_neg (by simp), R.bind_assoc, R.bind_assoc]
    congr 1
    funext v σ'
    simp only [ev1]
    cases truthy σ' v <;> simp [R.lift, truthy]
  rw [key] at hne ⊢
  refine isTrue_not ?_
  refine Sim.goQ (P' := fun b t _ _ => b = t) (h env ρ f X σ s A st) hne (fun _ _ x => x) (fun _ _ x => x) fun va a' σ₁ g₁ s₁ hne hg k L ra hQ hE => ?_
  have ra : va = a' := ra
  subst ra
  exact hQ _ _ (.bool L (.refl s₁))

theorem R.bind_truthy_bool (r : R Bool) : (r.bind fun b σ => (R.ok (V.bool b) σ)).bind (fun v σ => R.lift σ (truthy σ v)) = r := by cases r <;> simp [truthy]

/-! ## comparisons -/

theorem ev2_cmp_bool {op : CmpOp} {o : P2} (ho : cmpOf op = some o) {σ : Sto} {a b x : V} (h : ev2 o σ a b = some x) : ∃ t, x = .bool t := by
  cases op <;> simp [cmpOf] at ho <;> subst ho <;> simp only [ev2] at h
  all_goals first
    | (simp only [Option.map_eq_some_iff] at h; obtain ⟨r, _, rfl⟩ := h; exact ⟨_, rfl⟩)
    | (split at h <;> first | (cases h; exact ⟨_, rfl⟩) | cases h)

theorem chain_e (fs : Facts S C T) {pos : Pos} : ∀ {ops : List CmpOp} {os : List P2} {es : List Expr} {cs : List CE}, All2 (fun op o => cmpOf op = some o) ops os → All2 (GOk S F q d Γ sc) es cs → ops.length = es.length →
    ∀ (env : Env) (ρ : List V) (f : List Loc) (X : List Addr) (σ : Sto) (s : Shared) (A : Around) (a : V) (va : Value), St S q d Γ sc env ρ f X σ s A → VR S X f s.heap a va →
      Sim S A X [] f (PV S X) (compareChain pos va ops (evalEach es env)) (evChain F q os cs a ρ σ) s ∧
      Sim S A X [] f (fun b t _ _ => b = t) (testChain pos va ops (evalEach es env)) ((evChain F q os cs a ρ σ).bind fun v σ => R.lift σ (truthy σ v)) s := by
  intro ops os es cs ho
  induction ho generalizing es cs with
  | nil => intro _ hlen env ρ f X σ s A a va st ra; exact ⟨fun h => absurd (by rw [evChain] <;> simp) h, fun h => absurd (by rw [evChain] <;> simp) h⟩
  | @cons op o ops os h1 h2 ih =>
    intro hes hlen env ρ f X σ s A a va st ra
    cases hes with
    | nil => exact ⟨fun h => absurd (by rw [evChain] <;> simp) h, fun h => absurd (by rw [evChain] <;> simp) h⟩
    | @cons e c es cs he hes =>
      cases h2 with
      | nil =>
        cases hes with
        | nil =>
          constructor
          · intro hne
            rw [evChain, cmpOf_quiet h1, Bool.and_false, if_neg (by simp)] at hne ⊢
            refine chain_last ?_
            refine Sim.goQ (P' := PV S X) (he.eo env ρ f X σ s A st) hne (fun _ _ x => x) (fun _ _ x => x) fun vb b' σ₁ g₁ s₁ hne hg k L rb hQ hE => ?_
            obtain ⟨x, hx⟩ := lift_ok hne
            rw [hx] at hQ
            exact wpAny_mono (cmp_sound fs st.room h1 L hx (VR.keepK k hg (fun _ h => nomatch h) ra) rb) (fun v s' p => hQ v s' (.leaf L p.1 p.2.1)) fun _ _ x => x
          · intro hne
            rw [evChain, cmpOf_quiet h1, Bool.and_false, if_neg (by simp), R.bind_assoc] at hne ⊢
            refine test_last ?_
            refine Sim.goQ (P' := fun b t _ _ => b = t) (he.eo env ρ f X σ s A st) hne (fun _ _ x => x) (fun _ _ x => x) fun vb b' σ₁ g₁ s₁ hne hg k L rb hQ hE => ?_
            cases hx : ev2 o σ₁ a b' with
            | none => rw [hx] at hne; exact absurd rfl hne
            | some x =>
              rw [hx] at hne hQ
              obtain ⟨t, rfl⟩ := ev2_cmp_bool h1 hx
              refine wpAny_mono (cmp_sound fs st.room h1 L hx (VR.keepK k hg (fun _ h => nomatch h) ra) rb) (fun v s' p => ?_) fun _ _ x => x
              obtain rfl := vr_bool p.2.1
              exact wpAny_mono (truthy_sound (p.1.lk L) (b := t) rfl p.2.1) (fun c s'' p2 => by obtain ⟨rfl, e⟩ := p2; exact hQ c s'' (.bool L (p.1.trans e))) fun _ _ x => x
        | cons _ _ => simp at hlen
      | @cons op' o' ops os h1' h2' =>
        cases hes with
        | nil => simp at hlen
        | @cons e2 c2 es cs he2 hes2 =>
          constructor
          · intro hne
            rw [evChain, cmpOf_quiet h1, Bool.and_false, if_neg (by simp)] at hne ⊢
            rotate_left
            · simp
            · simp
            refine chain_link ?_
            refine Sim.goQ (P' := PV S X) (he.eo env ρ f X σ s A st) hne (fun _ _ x => x) (fun _ _ x => x) fun vb b' σ₁ g₁ s₁ hne hg k L rb hQ hE => ?_
            cases hx : ev2 o σ₁ a b' with
            | none => rw [hx] at hne; exact absurd rfl hne
            | some x =>
              rw [hx] at hne hQ hE
              obtain ⟨t, rfl⟩ := ev2_cmp_bool h1 hx
              refine wpAny_mono (cmp_sound fs st.room h1 L hx (VR.keepK k hg (fun _ h => nomatch h) ra) rb) (fun v s' p => ?_) fun _ _ x => x
              obtain rfl := vr_bool p.2.1
              refine wpAny_mono (truthy_sound (p.1.lk L) (b := t) rfl p.2.1) (fun c s'' p2 => ?_) fun _ _ x => x
              obtain ⟨rfl, e⟩ := p2
              have ee := p.1.trans e
              have st₂ := (st.keep hg k L).moved ee
              cases c with
              | true => exact wpAny_mono ((ih (.cons he2 hes2) (by simpa using hlen) env ρ _ X σ₁ s'' A b' vb st₂ (ee.vr rb)).1 hne) (fun v s3 q3 => hQ v s3 (.moved ee q3)) fun v s3 q3 => hE v s3 (.moved ee q3)
              | false => exact hQ _ _ (.leaf L ee (by rw [VR]))
          · intro hne
            rw [evChain, cmpOf_quiet h1, Bool.and_false, if_neg (by simp), R.bind_assoc] at hne ⊢
            rotate_left
            · simp
            · simp
            refine test_link ?_
            refine Sim.goQ (P' := fun b t _ _ => b = t) (he.eo env ρ f X σ s A st) hne (fun _ _ x => x) (fun _ _ x => x) fun vb b' σ₁ g₁ s₁ hne hg k L rb hQ hE => ?_
            cases hx : ev2 o σ₁ a b' with
            | none => rw [hx] at hne; exact absurd rfl hne
            | some x =>
              rw [hx] at hne hQ hE
              obtain ⟨t, rfl⟩ := ev2_cmp_bool h1 hx
              refine wpAny_mono (cmp_sound fs st.room h1 L hx (VR.keepK k hg (fun _ h => nomatch h) ra) rb) (fun v s' p => ?_) fun _ _ x => x
              obtain rfl := vr_bool p.2.1
              refine wpAny_mono (truthy_sound (p.1.lk L) (b := t) rfl p.2.1) (fun c s'' p2 => ?_) fun _ _ x => x
              obtain ⟨rfl, e⟩ := p2
              have ee := p.1.trans e
              have st₂ := (st.keep hg k L).moved ee
              cases c with
              | true => exact wpAny_mono ((ih (.cons he2 hes2) (by simpa using hlen) env ρ _ X σ₁ s'' A b' vb st₂ (ee.vr rb)).2 hne) (fun v s3 q3 => hQ v s3 (.moved ee q3)) fun v s3 q3 => hE v s3 (.moved ee q3)
              | false => exact hQ _ _ (.bool L ee)

theorem lastMarks_no : ∀ {ops : List CmpOp} {es : List Expr} {cs : List CE}, All2 (GOk S F q d Γ sc) es cs → lastMarks ops es = false := by
  intro ops es cs h
  induction h generalizing ops with
  | nil => cases ops <;> simp [lastMarks]
  | @cons e c es cs he hes ih =>
    cases ops with
    | nil => simp [lastMarks]
    | cons op ops =>
      cases ops with
      | nil => cases es with
        | nil => simp only [lastMarks]; exact he.marks op
        | cons _ _ => simp only [lastMarks]
      | cons op2 ops => simp only [lastMarks]; exact ih

theorem ok_chain (fs : Facts S C T) {l : Expr} {a : CE} {ops : List CmpOp} {os : List P2} {es : List Expr} {cs : List CE} {pos : Pos} (hl : EOk S F q d Γ sc l a) (ho : All2 (fun op o => cmpOf op = some o) ops os) (hes : All2 (GOk S F q d Γ sc) es cs) (hlen : ops.length = es.length) :
    EOk S F q d Γ sc (.Compare l ops es pos) (.chain a os cs) ∧ TOk S F q d Γ sc (.Compare l ops es pos) (.chain a os cs) := by
  constructor
  · intro env ρ f X σ s A st hne
    rw [evE] at hne ⊢
    show wpAny _ _ (do compareChain pos (← eval l env) ops (markedEach ops es (evalEach es env))) _ _ _
    rw [markedEach_of_false _ _ _ (lastMarks_no hes)]
    refine wpAny_bind ?_
    refine Sim.goQ (P' := PV S X) (hl env ρ f X σ s A st) hne (fun _ _ x => x) (fun _ _ x => x) fun va a' σ₁ g₁ s₁ hne hg k L ra hQ hE => ?_
    exact wpAny_mono ((chain_e fs ho hes hlen env ρ _ X σ₁ s₁ A a' va (st.keep hg k L) ra).1 hne) hQ hE
  · intro env ρ f X σ s A st hne
    rw [evE, R.bind_assoc] at hne ⊢
    show wpAny _ _ (do testChain pos (← eval l env) ops (markedEach ops es (evalEach es env))) _ _ _
    rw [markedEach_of_false _ _ _ (lastMarks_no hes)]
    refine wpAny_bind ?_
    refine Sim.goQ (P' := fun b t _ _ => b = t) (hl env ρ f X σ s A st) hne (fun _ _ x => x) (fun _ _ x => x) fun va a' σ₁ g₁ s₁ hne hg k L ra hQ hE => ?_
    exact wpAny_mono ((chain_e fs ho hes hlen env ρ _ X σ₁ s₁ A a' va (st.keep hg k L) ra).2 hne) hQ hE

/-- the truth of a single comparison: any tree of one comparison whose value is known -/
theorem TOk.cmp1 {l r : Expr} {op : CmpOp} {c : CE} {pos : Pos} (hm : behindInMarks op r = false) (h : EOk S F q d Γ sc (.Compare l [op] [r] pos) c) : TOk S F q d Γ sc (.Compare l [op] [r] pos) c := fun env ρ f X σ s A st hne => by
  rw [isTrue_Compare1, markedBehindIn_of_false hm]
  have he := h env ρ f X σ s A st
  have hr : (evE F q c ρ σ) ≠ .stuck := fun e => hne (by rw [e]; rfl)
  have key : wpAny (model S.prog S.w) A (eval (.Compare l [op] [r] pos) env >>= fun c => holding [c] (PySem.truthy c)) (QS S X [] f (fun b t _ _ => b = t) s ((evE F q c ρ σ).bind fun v σ => R.lift σ (truthy σ v))) (ES S X [] f false s ((evE F q c ρ σ).bind fun v σ => R.lift σ (truthy σ v))) s := by
    refine wpAny_bind ?_
    refine Sim.goQ (P' := fun b t _ _ => b = t) he hne (fun _ _ x => x) (fun _ _ x => x) fun va a' σ₁ g₁ s₁ hne hg k L ra hQ hE => ?_
    obtain ⟨x, hx⟩ := lift_ok hne
    rw [hx] at hQ
    exact wpAny_holding (wpAny_mono (truthy_sound L hx ra) (fun c s' p => by obtain ⟨rfl, e⟩ := p; exact hQ c s' (.bool L e)) fun _ _ x => x)
  have e2 : eval (.Compare l [op] [r] pos) env = (do let a ← eval l env; let b ← holding [a] (markedBehindIn op r (eval r env)); standAt pos; operate [a, b] (compareOp op a b)) := rfl
  rw [e2, markedBehindIn_of_false hm] at key
  simpa only [bind_assoc] using key

/-! ## and, or -/

theorem ok_bools {op : BoolOp} {pos : Pos} : ∀ {es : List Expr} {cs : List CE} {c : CE}, All2 (GOk S F q d Γ sc) es cs → foldBool (op == .And) cs = some c →
    EOk S F q d Γ sc (.BoolOp op es pos) c ∧ TOk S F q d Γ sc (.BoolOp op es pos) c := by
  intro es cs c h
  induction h generalizing c with
  | nil => intro e; simp [foldBool] at e
  | @cons x cx es cs hx hes ih =>
    intro e
    cases hes with
    | nil =>
      simp only [foldBool] at e
      cases e
      refine ⟨fun env ρ f X σ s A st hne => BoolOp_one (hx.eo env ρ f X σ s A st hne), fun env ρ f X σ s A st hne => ?_⟩
      have := hx.to env ρ f X σ s A st hne
      cases op with
      | And => exact isTrue_and (wpAny_mono this (fun c s' q => by cases c with | true => exact isTrue_and_nil q | false => exact q) fun _ _ x => x)
      | Or => exact isTrue_or (wpAny_mono this (fun c s' q => by cases c with | false => exact isTrue_or_nil q | true => exact q) fun _ _ x => x)
    | @cons y cy es cs hy hes =>
      simp only [foldBool, Option.map_eq_some_iff] at e
      obtain ⟨r, e1, rfl⟩ := e
      obtain ⟨ih1, ih2⟩ := ih e1
      cases op with
      | And =>
        constructor
        · intro env ρ f X σ s A st hne
          simp only [show (BoolOp.And == BoolOp.And) = true from rfl, if_true] at hne ⊢
          rw [evE] at hne ⊢
          refine BoolOp_and ?_
          refine Sim.goQ (P' := PV S X) (hx.eo env ρ f X σ s A st) hne (fun _ _ x => x) (fun _ _ x => x) fun va a' σ₁ g₁ s₁ hne hg k L ra hQ hE => ?_
          refine truthy_go L ra hne fun t s₂ ht e hne => ?_
          rw [ht] at hQ hE
          cases t with
          | true => exact wpAny_mono (ih1 env ρ _ X σ₁ s₂ A ((st.keep hg k L).moved e) hne) (fun v s3 q3 => hQ v s3 (.moved e q3)) fun v s3 q3 => hE v s3 (.moved e q3)
          | false => exact hQ _ _ (.leaf L e (e.vr ra))
        · intro env ρ f X σ s A st hne
          simp only [show (BoolOp.And == BoolOp.And) = true from rfl, if_true] at hne ⊢
          have key : ((evE F q (.and cx r) ρ σ).bind fun v σ => R.lift σ (truthy σ v)) = ((evE F q cx ρ σ).bind fun v σ => R.lift σ (truthy σ v)).bind fun t σ => if t then (evE F q r ρ σ).bind fun v σ => R.lift σ (truthy σ v) else .ok false σ := by
            rw [evE, R.bind_assoc, R.bind_assoc]
            congr 1
            funext v σ'
            rw [R.bind_assoc]
            cases ht : truthy σ' v with
            | none => simp
            | some t => cases t <;> simp [ht]
          rw [key] at hne ⊢
          refine isTrue_and ?_
          refine Sim.goQ (P' := fun b t _ _ => b = t) (hx.to env ρ f X σ s A st) hne (fun _ _ x => x) (fun _ _ x => x) fun va a' σ₁ g₁ s₁ hne hg k L ra hQ hE => ?_
          have ra : va = a' := ra
          subst ra
          cases va with
          | true => exact wpAny_mono (ih2 env ρ _ X σ₁ s₁ A (st.keep hg k L) hne) hQ hE
          | false => exact hQ _ _ (.bool L (.refl s₁))
      | Or =>
        constructor
        · intro env ρ f X σ s A st hne
          simp only [show (BoolOp.Or == BoolOp.And) = false from rfl, Bool.false_eq_true, if_false] at hne ⊢
          rw [evE] at hne ⊢
          refine BoolOp_or ?_
          refine Sim.goQ (P' := PV S X) (hx.eo env ρ f X σ s A st) hne (fun _ _ x => x) (fun _ _ x => x) fun va a' σ₁ g₁ s₁ hne hg k L ra hQ hE => ?_
          refine truthy_go L ra hne fun t s₂ ht e hne => ?_
          rw [ht] at hQ hE
          cases t with
          | false => exact wpAny_mono (ih1 env ρ _ X σ₁ s₂ A ((st.keep hg k L).moved e) hne) (fun v s3 q3 => hQ v s3 (.moved e q3)) fun v s3 q3 => hE v s3 (.moved e q3)
          | true => exact hQ _ _ (.leaf L e (e.vr ra))
        · intro env ρ f X σ s A st hne
          simp only [show (BoolOp.Or == BoolOp.And) = false from rfl, Bool.false_eq_true, if_false] at hne ⊢
          have key : ((evE F q (.or cx r) ρ σ).bind fun v σ => R.lift σ (truthy σ v)) = ((evE F q cx ρ σ).bind fun v σ => R.lift σ (truthy σ v)).bind fun t σ => if t then .ok true σ else (evE F q r ρ σ).bind fun v σ => R.lift σ (truthy σ v) := by
            rw [evE, R.bind_assoc, R.bind_assoc]
            congr 1
            funext v σ'
            rw [R.bind_assoc]
            cases ht : truthy σ' v with
            | none => simp
            | some t => cases t <;> simp [ht]
          rw [key] at hne ⊢
          refine isTrue_or ?_
          refine Sim.goQ (P' := fun b t _ _ => b = t) (hx.to env ρ f X σ s A st) hne (fun _ _ x => x) (fun _ _ x => x) fun va a' σ₁ g₁ s₁ hne hg k L ra hQ hE => ?_
          have ra : va = a' := ra
          subst ra
          cases va with
          | false => exact wpAny_mono (ih2 env ρ _ X σ₁ s₁ A (st.keep hg k L) hne) hQ hE
          | true => exact hQ _ _ (.bool L (.refl s₁))
end
end Mine
end

/-! # Expr4 -/
section
set_option autoImplicit false
namespace Mine
open PySem PyProof.Rows

section
variable {S : Stat} {C : Ctx} {T : Nat → Option Fn} {F : Calls} {q : Bool} {d : Nat} {Γ : List Str} {sc : Scope}
variable {X : List Addr} {f : List Loc} {σ : Sto} {s : Shared} {A : Around} {E : Value → Shared → Prop}

theorem LOk.of {es : List Expr} {cs : List CE} (h : All2 (GOk S F q d Γ sc) es cs) : LOk S F q d Γ sc es cs := by
  refine ⟨?_, ?_⟩
  · induction h with
    | nil => rfl
    | cons hx _ ih => rw [List.any_cons, hx.star, ih]; rfl
  · induction h with
    | nil =>
      intro env pos ρ f X σ s A st _
      rw [evL]
      exact wpAny_pure ⟨[], σ, [], rfl, .nil s, .refl f [] s, by rw [List.append_nil]; exact st.lk, (by show VRs S X _ s.heap [] []; rw [VRs]; trivial)⟩
    | @cons x c es cs hx _ ih =>
      intro env pos ρ f X σ s A st hne
      rw [evL] at hne ⊢
      rw [starEach_plain hx.star]
      show wpAny _ _ (spliced ((false, eval x env) :: backTo pos (starEach es env))) _ _ _
      refine Calls.spliced_cons ?_
      refine Sim.goQ (P' := fun vs xs f s => VRs S X f s.heap xs vs) (hx.eo env ρ f X σ s A st) hne (fun _ _ x => x) (fun _ _ x => x) fun va a' σ₁ g₁ s₁ hne hg k L ra hQ hE => ?_
      refine Sim.goQ (P' := fun vs xs f s => VRs S X f s.heap xs vs) (ih env pos ρ _ X σ₁ s₁ A (st.keep hg k L)) hne hQ hE fun vs xs σ₂ g₂ s₂ hne hg₂ k₂ L₂ rs hQ hE => ?_
      refine hQ _ _ (QS.here L₂ ?_)
      show VRs S X _ s₂.heap (a' :: xs) (va :: vs)
      rw [VRs]
      exact ⟨VR.keepK k₂ hg₂ (fun _ h => nomatch h) ra, rs⟩

theorem evL_len : ∀ {cs : List CE} {ρ : List V} {σ σ' : Sto} {vs : List V}, evL F q cs ρ σ = .ok vs σ' → vs.length = cs.length
  | [], ρ, σ, σ', vs, h => by rw [evL] at h; cases h; rfl
  | c :: cs, ρ, σ, σ', vs, h => by
    rw [evL] at h
    cases h1 : evE F q c ρ σ with
    | ok v σ₁ =>
      rw [h1, R.bind_ok] at h
      cases h2 : evL F q cs ρ σ₁ with
      | ok ws σ₂ => rw [h2, R.bind_ok] at h; cases h; simp [evL_len h2]
      | exc _ _ => rw [h2] at h; cases h
      | stuck => rw [h2] at h; cases h
    | exc _ _ => rw [h1] at h; cases h
    | stuck => rw [h1] at h; cases h

theorem All2.len {α β : Type} {P : α → β → Prop} {as : List α} {bs : List β} (h : All2 P as bs) : as.length = bs.length := by
  induction h with
  | nil => rfl
  | cons _ _ ih => simp [ih]

/-- the values of a list of expressions, then more -/
theorem LOk.go {es : List Expr} {cs : List CE} {env : Env} {pos : Pos} {ρ : List V} {rk : List V → Sto → R V} {W : List Value → Shared → Prop} {Q' E' : Value → Shared → Prop} (h : LOk S F q d Γ sc es cs) (st : St S q d Γ sc env ρ f X σ s A) (hne : (evL F q cs ρ σ).bind rk ≠ .stuck)
    (hQ : ∀ c s'', QN S X [] f s ((evL F q cs ρ σ).bind rk) c s'' → Q' c s'') (hE : ∀ e s'', ES S X [] f false s ((evL F q cs ρ σ).bind rk) e s'' → E' e s'')
    (hk : ∀ vs xs σ' g s', xs.length = cs.length → rk xs σ' ≠ .stuck → Fresh g s → Kp f [] s s' → Lk S X (f ++ g) σ' s'.heap → VRs S X (f ++ g) s'.heap xs vs → (∀ c s'', QN S X [] (f ++ g) s' (rk xs σ') c s'' → Q' c s'') →
      (∀ e s'', ES S X [] (f ++ g) false s' (rk xs σ') e s'' → E' e s'') → W vs s') : wpAny (model S.prog S.w) A (spliced (backTo pos (starEach es env))) W E' s := by
  have hr : evL F q cs ρ σ ≠ .stuck := fun e => hne (by rw [e]; rfl)
  refine wpAny_mono (h.2 env pos ρ f X σ s A st hr) (fun a s' p => ?_) fun e s' p => hE e s' ?_
  · obtain ⟨b, σ', g, e, hg, k, L, p⟩ := p
    have hl := evL_len e
    rw [e] at hne hQ hE
    exact hk a b σ' g s' hl hne hg k L p (fun c s'' x => hQ c s'' (QN.lifts f g s s' _ c s'' hg k x)) fun e s'' x => hE e s'' (ES.lifts f g s s' _ e s'' hg k x)
  · obtain ⟨c, σ', g, ea, e1, e2, hg, k, L, x⟩ := p
    exact ⟨c, σ', g, ea, e1, by rw [e2]; rfl, hg, k, L, x⟩

theorem ok_list {es : List Expr} {cs : List CE} {pos : Pos} (hl : es.length ≤ 1000) (h : All2 (GOk S F q d Γ sc) es cs) : NOk S F q d Γ sc (.List es pos) (.list cs) := fun env ρ f X σ s A st hne => by
  rw [evE] at hne ⊢
  refine wpAny_List ?_
  refine LOk.go (.of h) st hne (fun _ _ x => x) (fun _ _ x => x) fun vs xs σ₁ g s₁ hlen hne hg k L rs hQ hE => ?_
  have : xs.length ≤ 1000 := by rw [hlen, ← h.len]; exact hl
  have h2 : vs.length ≤ LIM := by rw [← VRs_length rs]; unfold LIM; omega
  refine ⟨Nat.le_trans h2 lim_size, hQ _ _ (PE.here L ?_)⟩
  exact newL_push (tk := s₁.toks) L rs (by unfold LIM; omega)

theorem ok_tuple {es : List Expr} {cs : List CE} {pos : Pos} {k : Nat} (hl : es.length ≤ 1000) (h : All2 (GOk S F q d Γ sc) es cs) : EOk S F q d Γ sc (.Tuple es k pos) (.tup cs) := fun env ρ f X σ s A st hne => by
  rw [evE] at hne ⊢
  refine wpAny_Tuple ?_
  refine LOk.go (.of h) st hne (fun _ _ x => x.qs) (fun _ _ x => x) fun vs xs σ₁ g s₁ hlen hne hg k L rs hQ hE => ?_
  have : xs.length ≤ 1000 := by rw [hlen, ← h.len]; exact hl
  have h2 : vs.length ≤ LIM := by rw [← VRs_length rs]; unfold LIM; omega
  refine ⟨Nat.le_trans h2 lim_size, hQ _ _ (PE.here L ?_)⟩
  exact newT_push (tk := s₁.toks) L rs (by unfold LIM; omega)

/-! ## subscripts -/

theorem sub_ops (slice : Expr) (o i : Value) : ∃ ops, subscripted slice false o i = operate ops (getItem o i) := by
  unfold subscripted
  split
  · exact ⟨_, rfl⟩
  · rename_i h; cases h
  · exact ⟨_, rfl⟩

theorem sub_tail {value slice : Expr} {o i : Value} {K id : String} {Q : Value → Shared → Prop} (hT : s.TypeIs o K)
    (hl : typeLookup (.type K) "__getitem__" = pure (some (.builtin id))) (h : wpAny (model S.prog S.w) A (getItem o i) Q E s) :
    wpAny (model S.prog S.w) A (subscriptTail value slice o i) Q E s := by
  obtain ⟨ops, hs⟩ := sub_ops slice o i
  unfold subscriptTail
  refine wpAny_bind ?_
  rw [getitemInPython_of_ne hT.not_modules]
  refine wpAny_bind (wpAny_specialOf hT hl ?_)
  have fin : wpAny (model S.prog S.w) A (subscripted slice false o i) (fun r s₃ => wpAny (model S.prog S.w) A (letTemporaryGo value o r >>= fun _ => pure r) Q E s₃) E s := by
    rw [hs]
    exact wpAny_operating (wpAny_mono h (fun r s₃ h₃ => wpAny_bind (wpAny_letTemporaryGo (wpAny_pure h₃))) fun _ _ x => x)
  first
    | exact wpAny_pure (wpAny_bind fin)
    | exact wpAny_bind (wpAny_pure (wpAny_bind fin))
    | exact wpAny_bind fin

/-- what may be subscripted -/
theorem index_type (fs : Facts S C T) {a b x : V} {va : Value} (L : Lk S X f σ s.heap) (e : ev2 .index σ a b = some x) (ra : VR S X f s.heap a va) :
    ∃ K id, s.TypeIs va K ∧ typeLookup (.type K) "__getitem__" = pure (some (.builtin id)) := by
  have seq : ∀ {xs : List V}, itemsOf σ a = some xs → ∃ K id, s.TypeIs va K ∧ typeLookup (.type K) "__getitem__" = pure (some (.builtin id)) := by
    intro xs h1
    obtain ⟨p, vs, n, rfl, il | il, _⟩ := items_at L h1 ra
    · exact ⟨"list", _, ⟨_, il, rfl⟩, slot_list_getitem.lookup⟩
    · exact ⟨"tuple", _, ⟨_, il, rfl⟩, slot_tuple_getitem.lookup⟩
  cases a with
  | str y => obtain ⟨⟨t, rfl⟩, _⟩ := vr_str ra; exact ⟨"str", _, typeIs_str s y t, F.slot_str_getitem.lookup⟩
  | parts =>
    rw [VR] at ra
    obtain ⟨hh, rfl⟩ := ra
    obtain ⟨d, g, e1, hd, hm, _⟩ := L.parts fs hh
    rw [e1]
    exact ⟨"dict", _, hm.typeIs, slot_dict_getitem.lookup⟩
  | tup xs => exact seq rfl
  | lst xs => exact seq rfl
  | ref n =>
    cases b with
    | int i =>
      simp only [ev2] at e
      split at e
      · rename_i xs ho
        exact seq (xs := xs) (by simp only [itemsOf, ho])
      · rename_i es ho
        rw [VR] at ra
        obtain ⟨l, hl, rfl⟩ := ra
        have := L.obj n l _ hl ho
        obtain ⟨p, dd⟩ := l
        cases dd with
        | none => obtain ⟨kvs, hd, _⟩ := this; exact ⟨"dict", _, hd.typeIs, slot_dict_getitem.lookup⟩
        | some dd => exact this.elim
      · cases e
    | _ => simp [ev2] at e
  | _ => cases b <;> simp [ev2, itemsOf] at e

theorem ok_index (fs : Facts S C T) {o i : Expr} {a b : CE} {pos : Pos} (ho : EOk S F q d Γ sc o a) (hi : EOk S F q d Γ sc i b) : EOk S F q d Γ sc (.Subscript o i pos) (.p2 .index a b) :=
  ok_p2 (t := fun v w => subscriptTail o i v w) (by simp [loud2]) ho hi (fun env A Q E s h => Subscript_ h) fun X f σ s A E a b x va vb _ _ L hx ra rb => by
    obtain ⟨K, id, h1, h2⟩ := index_type fs L hx ra
    exact sub_tail h1 h2 (index_sound (L.parts fs) L hx ra rb)

noncomputable def PO (x : Value) (i : Option Int) (_ : List Loc) (_ : Shared) : Prop := IsPart x i

/-- an end of a slice -/
theorem ok_part {e : Option Expr} {c : Option CE} (h : (e = none ∧ c = none) ∨ ∃ e' c', e = some e' ∧ c = some c' ∧ EOk S F q d Γ sc e' c') (env : Env) (ρ : List V) (st : St S q d Γ sc env ρ f X σ s A) :
    Sim S A X [] f PO (evalPart e env) (evO F q c ρ σ) s := fun hne => by
  rcases h with ⟨rfl, rfl⟩ | ⟨e', c', rfl, rfl, h⟩
  · rw [evalPart_none, evO]
    exact wpAny_pure (QS.here st.lk .none)
  · rw [evalPart_some]
    rw [evO] at hne ⊢
    refine Sim.goQ (P' := PO) (h env ρ f X σ s A st) hne (fun _ _ x => x) (fun _ _ x => x) fun va a' σ₁ g₁ s₁ hne hg k L ra hQ hE => ?_
    cases a' with
    | int i => obtain ⟨t, rfl⟩ := vr_int ra; exact hQ _ _ (QS.here L (.int i t))
    | _ => exact absurd rfl hne

theorem slice_tail {o slice : Expr} {x a : V} {va vl vh : Value} {sl : Addr} {l' h' : Option Int} (L : Lk S X f σ s.heap) (hx : evSlice σ a l' h' = some x) (ra : VR S X f s.heap a va) (hs : s.heap.IsSliceOf sl vl vh .none) (rl : IsPart vl l') (rh : IsPart vh h') :
    wpAny (model S.prog S.w) A (subscriptTail o slice va (.ref sl)) (PE S X f s x) E s := by
  have seq : ∀ {xs : List V}, listOf? σ a = some xs → x = .lst (sliceL xs l' h') → wpAny (model S.prog S.w) A (subscriptTail o slice va (.ref sl)) (PE S X f s x) E s := by
    intro xs h1 h2
    subst h2
    obtain ⟨p, vs, n, rfl, il, rs, hlen⟩ := list_at L h1 ra
    exact sub_tail (K := "list") ⟨_, il, rfl⟩ slot_list_getitem.lookup (list_slice_sound L il rs hlen hs rl rh)
  cases a with
  | tup xs =>
    cases hx
    obtain ⟨p, vs, n, rfl, hp, il, rs, hlen⟩ := vr_tup ra
    exact sub_tail (K := "tuple") ⟨_, il, rfl⟩ slot_tuple_getitem.lookup (tuple_slice_sound L hp il rs hlen hs rl rh)
  | lst xs => cases hx; exact seq rfl rfl
  | ref n =>
    simp only [evSlice, Option.map_eq_some_iff] at hx
    obtain ⟨xs, h1, h2⟩ := hx
    exact seq h1 h2.symm
  | _ => simp [evSlice, listOf?] at hx

theorem ok_slice {o : Expr} {lo hi : Option Expr} {a : CE} {cl ch : Option CE} {p pos : Pos} (ho : EOk S F q d Γ sc o a) (hl : (lo = none ∧ cl = none) ∨ ∃ e' c', lo = some e' ∧ cl = some c' ∧ EOk S F q d Γ sc e' c')
    (hh : (hi = none ∧ ch = none) ∨ ∃ e' c', hi = some e' ∧ ch = some c' ∧ EOk S F q d Γ sc e' c') : NOk S F q d Γ sc (.Subscript o (.Slice lo hi none p) pos) (.slice a cl ch) := fun env ρ f X σ s A st hne => by
  rw [evE] at hne ⊢
  refine Subscript_ ?_
  refine Sim.goN (ho env ρ f X σ s A st) hne (fun _ _ x => x) (fun _ _ x => x) fun va a' σ₁ g₁ s₁ hne hg k L ra hQ hE => ?_
  have st₁ := st.keep hg k L
  refine wpAny_Slice ?_
  refine Sim.goN (ok_part hl env ρ st₁) hne hQ hE fun vl l' σ₂ g₂ s₂ hne hg₂ k₂ L₂ rl hQ hE => ?_
  have st₂ := st₁.keep hg₂ k₂ L₂
  have ra₂ := VR.keepK k₂ hg₂ (fun _ h => nomatch h) ra
  refine Sim.goN (ok_part hh env ρ st₂) hne hQ hE fun vh h' σ₃ g₃ s₃ hne hg₃ k₃ L₃ rh hQ hE => ?_
  have ra₃ := VR.keepK k₃ hg₃ (fun _ h => nomatch h) ra₂
  rw [evalPart_none]
  refine wpAny_pure ?_
  obtain ⟨x, hx⟩ := lift_ok hne
  rw [hx] at hQ
  have ee := Ext.push s₃ { cls := .type "slice", data := .fields #[vl, vh, .none] }
  have L₄ := ee.lk L₃
  have ra₄ := ee.vr ra₃
  have hs := Heap.IsSliceOf.new s₃.heap vl vh .none
  exact wpAny_mono (slice_tail L₄ hx ra₄ hs rl rh) (fun v s' p => hQ v s' (QN.moved ee (p.here L₄))) fun _ _ x => x
end
end Mine
end

/-! # Expr5 -/
section
set_option autoImplicit false
namespace Mine
open PySem PyProof.Rows

theorem lookup_mem {β : Type} {x : Str} {y : β} : ∀ {l : List (Str × β)}, l.lookup x = some y → (x, y) ∈ l
  | [], h => by simp at h
  | (a, b) :: r, h => by
    rw [List.lookup_cons] at h
    split at h
    · rename_i e
      have := eq_of_beq e
      cases h; subst this
      exact List.mem_cons_self
    · exact List.mem_cons_of_mem _ (lookup_mem h)

theorem bb_len : bootBuiltins "len" = some (.builtin "len") := by kernel_rfl
theorem bb_abs : bootBuiltins "abs" = some (.builtin "abs") := by kernel_rfl
theorem bb_all : bootBuiltins "all" = some (.builtin "all") := by kernel_rfl
theorem bb_int : bootBuiltins "int" = some (.type "int") := by kernel_rfl
theorem bb_bool : bootBuiltins "bool" = some (.type "bool") := by kernel_rfl
theorem bb_str : bootBuiltins "str" = some (.type "str") := by kernel_rfl
theorem bb_list : bootBuiltins "list" = some (.type "list") := by kernel_rfl
theorem bb_tuple : bootBuiltins "tuple" = some (.type "tuple") := by kernel_rfl
theorem bb_sum : bootBuiltins "sum" = some (.builtin "sum") := by kernel_rfl
theorem bb_min : bootBuiltins "min" = some (.builtin "min") := by kernel_rfl
theorem bb_strT : bootBuiltins "str" = some (.type "str") := by kernel_rfl
theorem bb_max : bootBuiltins "max" = some (.builtin "max") := by kernel_rfl
theorem bb_isinstance : bootBuiltins "isinstance" = some (.builtin "isinstance") := by kernel_rfl
theorem bb_range : bootBuiltins "range" = some (.type "range") := by kernel_rfl

section
variable {S : Stat} {C : Ctx} {T : Nat → Option Fn} {F : Calls} {q : Bool} {d : Nat} {Γ : List Str} {sc : Scope}
variable {X : List Addr} {f : List Loc} {σ : Sto} {s : Shared} {A : Around} {E : Value → Shared → Prop}

/-- the value of a built-in name -/
theorem builtin_name (fs : Facts S C T) {x : Str} {p : Pos} {v : Value} {env : Env} {ρ : List V} {Q : Value → Shared → Prop} (st : St S q d Γ sc env ρ f X σ s A) (hg : isGlob sc x = true) (hn : C.fns.lookup x = none)
    (hx : x ∈ b1Names.map (·.1) ∨ x ∈ b2Names.map (·.1) ∨ x ∈ kindNames.map (·.1) ∨ x = ("isinstance" : Str) ∨ x = ("range" : Str)) (hv : bootBuiltins x = some v) (hd : (x == ("__debug__" : Str)) = false) (h : Q v s) : wpAny (model S.prog S.w) A (eval (.Name x p) env) Q E s := by
  obtain ⟨mg, mb, g1, g2, g3, g4, g5, _⟩ := fs.g
  obtain ⟨e1, e2⟩ := g5 x hx hn
  refine wpAny_Name ?_ hd
  exact load_builtin st.fr.kind (st.fr.isGlob hg) (by rw [st.fr.glob]; exact st.lk.ns g1) e1 (by rw [st.fr.blt]; exact st.lk.ns g2) (e2.trans hv) h

theorem lok1 {e : Expr} {c : CE} (h : GOk S F q d Γ sc e c) : All2 (GOk S F q d Γ sc) [e] [c] := .cons h .nil

theorem spliced1 {env : Env} {e : Expr} {pos : Pos} {Q : List Value → Shared → Prop} (hs : isStar e = false) (h : wpAny (model S.prog S.w) A (eval e env) (fun v s' => Q [v] s') E s) : wpAny (model S.prog S.w) A (spliced (backTo pos (starEach [e] env))) Q E s := by
  rw [starEach_plain hs]
  show wpAny _ _ (spliced ((false, eval e env) :: [])) _ _ _
  exact Calls.spliced_cons (wpAny_mono h (fun v s' q => wpAny_pure q) fun _ _ x => x)
theorem spliced2 {env : Env} {e e2 : Expr} {pos : Pos} {Q : List Value → Shared → Prop} (hs : isStar e = false) (hs2 : isStar e2 = false) (h : wpAny (model S.prog S.w) A (eval e env) (fun v s' => wpAny (model S.prog S.w) A (eval e2 env) (fun w s'' => Q [v, w] s'') E s') E s) :
    wpAny (model S.prog S.w) A (spliced (backTo pos (starEach [e, e2] env))) Q E s := by
  rw [starEach_plain hs, starEach_plain hs2]
  show wpAny _ _ (spliced ((false, eval e env) :: (false, eval e2 env) :: [])) _ _ _
  exact Calls.spliced_cons (wpAny_mono h (fun v s' q => Calls.spliced_cons (wpAny_mono q (fun w s'' q => wpAny_pure q) fun _ _ x => x)) fun _ _ x => x)

theorem plain_callable {v : Value} (h : ∀ a, v ≠ .ref a) : Callable s v := .inl h

/-- a built-in of one operand -/
theorem ok_b1_by (fs : Facts S C T) {x : Str} {p pos : Pos} {v : Value} {e : Expr} {c : CE} {o : P1} (hg : isGlob sc x = true) (hn : C.fns.lookup x = none)
    (hx : x ∈ b1Names.map (·.1)) (hv : bootBuiltins x = some v) (hd : (x == ("__debug__" : Str)) = false) (hr : ∀ a, v ≠ .ref a) (h : GOk S F q d Γ sc e c)
    (op : ∀ (X : List Addr) (f : List Loc) (σ : Sto) (s : Shared) (A : Around) (E : Value → Shared → Prop) (a x : V) (va : Value), (q && loud1 o) = false → (q = false → A.handled = none) → Lk S X f σ s.heap → ev1 o σ a = some x → VR S X f s.heap a va → wpAny (model S.prog S.w) A (call v [va]) (PE S X f s x) E s) :
    NOk S F q d Γ sc (.Call (.Name x p) [e] [] pos) (.p1 o c) := fun env ρ f X σ s A st hne => by
  rw [evE] at hne ⊢
  by_cases hq : (q && loud1 o) = true
  · rw [if_pos hq] at hne; exact absurd rfl hne
  rw [if_neg hq] at hne ⊢
  refine wpAny_Call_NameR (builtin_name fs st hg hn (.inl hx) hv hd ?_)
  refine callWith_any (spliced_noStar _ (by simp [h.star])) (spliced1 h.star ?_)
  refine Sim.goN (h.eo env ρ f X σ s A st) hne (fun _ _ x => x) (fun _ _ x => x) fun va a' σ₁ g₁ s₁ hne hg k L ra hQ hE => ?_
  obtain ⟨x, hx⟩ := lift_ok hne
  rw [hx] at hQ
  exact ⟨plain_callable hr, wpAny_mono (op X _ σ₁ s₁ A _ a' x va (by simpa using hq) st.cx.hand L hx ra) (fun v s' p => hQ v s' (p.here L)) fun _ _ x => x⟩

theorem hand_of {o : P1} (hl : loud1 o = true) (h1 : (q && loud1 o) = false) (h2 : q = false → A.handled = none) : A.handled = none := h2 (by rw [hl, Bool.and_true] at h1; exact h1)

theorem ok_b1 (fs : Facts S C T) {x : Str} {p pos : Pos} {e : Expr} {c : CE} {o : P1} (hg : isGlob sc x = true) (hn : C.fns.lookup x = none) (ho : b1Names.lookup x = some o) (h : GOk S F q d Γ sc e c) :
    NOk S F q d Γ sc (.Call (.Name x p) [e] [] pos) (.p1 o c) := by
  have hm := lookup_mem ho
  have hm' : x ∈ b1Names.map (·.1) := List.mem_map_of_mem hm
  simp only [b1Names, List.mem_cons, Prod.mk.injEq, List.not_mem_nil, or_false] at hm
  rcases hm with ⟨rfl, rfl⟩ | ⟨rfl, rfl⟩ | ⟨rfl, rfl⟩ | ⟨rfl, rfl⟩ | ⟨rfl, rfl⟩ | ⟨rfl, rfl⟩ | ⟨rfl, rfl⟩ | ⟨rfl, rfl⟩ | ⟨rfl, rfl⟩ | ⟨rfl, rfl⟩
  · exact ok_b1_by fs hg hn hm' bb_len (by decide) (by simp) h fun X f σ s A E a x va _ _ L hx ra => len_sound L hx ra
  · exact ok_b1_by fs hg hn hm' bb_abs (by decide) (by simp) h fun X f σ s A E a x va _ _ L hx ra => by
      cases a with
      | int i => cases hx; obtain ⟨t, rfl⟩ := vr_int ra; exact abs_sound
      | _ => cases hx
  · exact ok_b1_by fs hg hn hm' bb_all (by decide) (by simp) h fun X f σ s A E a x va h1 h2 L hx ra => all_sound (hand_of rfl h1 h2) L hx ra
  · exact ok_b1_by fs hg hn hm' bb_int (by decide) (by simp) h fun X f σ s A E a x va _ _ L hx ra => toInt_sound hx ra
  · exact ok_b1_by fs hg hn hm' bb_list (by decide) (by simp) h fun X f σ s A E a x va _ _ L hx ra => toList_sound L hx ra
  · exact ok_b1_by fs hg hn hm' bb_tuple (by decide) (by simp) h fun X f σ s A E a x va _ _ L hx ra => toTup_sound L hx ra
  · exact ok_b1_by fs hg hn hm' bb_sum (by decide) (by simp) h fun X f σ s A E a x va h1 h2 L hx ra => sum_sound (hand_of rfl h1 h2) L hx ra
  · exact ok_b1_by fs hg hn hm' bb_min (by decide) (by simp) h fun X f σ s A E a x va h1 h2 L hx ra => min_sound (hand_of rfl h1 h2) L hx ra
  · exact ok_b1_by fs hg hn hm' bb_max (by decide) (by simp) h fun X f σ s A E a x va h1 h2 L hx ra => max_sound (hand_of rfl h1 h2) L hx ra
  · exact ok_b1_by fs hg hn hm' bb_strT (by decide) (by simp) h fun X f σ s A E a x va _ _ L hx ra => toStr_sound hx ra

theorem ok_b2_by (fs : Facts S C T) {x : Str} {p pos : Pos} {v : Value} {e e2 : Expr} {c c2 : CE} {o : P2} (hg : isGlob sc x = true) (hn : C.fns.lookup x = none)
    (hx : x ∈ b2Names.map (·.1)) (hv : bootBuiltins x = some v) (hd : (x == ("__debug__" : Str)) = false) (hr : ∀ a, v ≠ .ref a) (s1 : isStar e = false) (s2 : isStar e2 = false) (h : EOk S F q d Γ sc e c) (h2 : EOk S F q d Γ sc e2 c2)
    (op : ∀ (X : List Addr) (f : List Loc) (σ : Sto) (s : Shared) (A : Around) (E : Value → Shared → Prop) (a b x : V) (va vb : Value), (q && loud2 o) = false → (q = false → A.handled = none) → Lk S X f σ s.heap → ev2 o σ a b = some x → VR S X f s.heap a va → VR S X f s.heap b vb → wpAny (model S.prog S.w) A (call v [va, vb]) (PE S X f s x) E s) :
    EOk S F q d Γ sc (.Call (.Name x p) [e, e2] [] pos) (.p2 o c c2) := fun env ρ f X σ s A st hne => by
  rw [evE] at hne ⊢
  by_cases hq : (q && loud2 o) = true
  · rw [if_pos hq] at hne; exact absurd rfl hne
  rw [if_neg hq] at hne ⊢
  refine wpAny_Call_NameR (builtin_name fs st hg hn (.inr (.inl hx)) hv hd ?_)
  refine callWith_any (spliced_noStar _ (by simp [s1, s2])) (spliced2 s1 s2 ?_)
  refine Sim.goN (h env ρ f X σ s A st) hne (fun _ _ x => x.qs) (fun _ _ x => x) fun va a' σ₁ g₁ s₁ hne hg k L ra hQ hE => ?_
  refine Sim.goN (h2 env ρ _ X σ₁ s₁ A (st.keep hg k L)) hne hQ hE fun vb b' σ₂ g₂ s₂ hne hg₂ k₂ L₂ rb hQ hE => ?_
  obtain ⟨x, hx⟩ := lift_ok hne
  rw [hx] at hQ
  exact ⟨plain_callable hr, wpAny_mono (op X _ σ₂ s₂ A _ a' b' x va vb (by simpa using hq) st.cx.hand L₂ hx (VR.keepK k₂ hg₂ (fun _ h => nomatch h) ra) rb) (fun v s' p => hQ v s' (p.here L₂)) fun _ _ x => x⟩

theorem ok_b2 (fs : Facts S C T) {x : Str} {p pos : Pos} {e e2 : Expr} {c c2 : CE} {o : P2} (hg : isGlob sc x = true) (hn : C.fns.lookup x = none) (ho : b2Names.lookup x = some o) (s1 : isStar e = false) (s2 : isStar e2 = false) (h : EOk S F q d Γ sc e c) (h2 : EOk S F q d Γ sc e2 c2) :
    EOk S F q d Γ sc (.Call (.Name x p) [e, e2] [] pos) (.p2 o c c2) := by
  have hm := lookup_mem ho
  have hm' : x ∈ b2Names.map (·.1) := List.mem_map_of_mem hm
  simp only [b2Names, List.mem_cons, Prod.mk.injEq, List.not_mem_nil, or_false] at hm
  rcases hm with ⟨rfl, rfl⟩ | ⟨rfl, rfl⟩
  · exact ok_b2_by fs hg hn hm' bb_min (by decide) (by simp) s1 s2 h h2 fun X f σ s A E a b x va vb h1 h2 L hx ra rb => by
      have hh : A.handled = none := h2 (by simpa [loud2] using h1)
      cases a <;> cases b <;> simp [ev2] at hx
      subst hx
      obtain ⟨t, rfl⟩ := vr_int ra
      obtain ⟨u, rfl⟩ := vr_int rb
      exact min2_sound hh
  · exact ok_b2_by fs hg hn hm' bb_max (by decide) (by simp) s1 s2 h h2 fun X f σ s A E a b x va vb h1 h2 L hx ra rb => by
      have hh : A.handled = none := h2 (by simpa [loud2] using h1)
      cases a <;> cases b <;> simp [ev2] at hx
      subst hx
      obtain ⟨t, rfl⟩ := vr_int ra
      obtain ⟨u, rfl⟩ := vr_int rb
      exact max2_sound hh

theorem ok_isinst (fs : Facts S C T) {k : Str} {p pk pos : Pos} {e : Expr} {c : CE} {kd : Kd} (hg : isGlob sc "isinstance" = true) (hn : C.fns.lookup ("isinstance" : Str) = none) (hk : kindOf? C k = some kd) (hgk : isGlob sc k = true) (hs : isStar e = false) (h : EOk S F q d Γ sc e c) :
    EOk S F q d Γ sc (.Call (.Name ("isinstance" : Str) p) [e, .Name k pk] [] pos) (.p1 (.isInst kd) c) := fun env ρ f X σ s A st hne => by
  rw [evE, show loud1 (.isInst kd) = false from rfl, Bool.and_false, if_neg (by simp)] at hne ⊢
  unfold kindOf? at hk
  split at hk
  · cases hk
  rename_i hnk
  have hnk : C.fns.lookup k = none := Option.not_isSome_iff_eq_none.mp hnk
  have hm := lookup_mem hk
  have hm' : k ∈ kindNames.map (·.1) := List.mem_map_of_mem hm
  have hv : bootBuiltins k = some (.type (tyName kd)) ∧ (k == ("__debug__" : Str)) = false ∧ ∀ c, kd ≠ .exc c := by
    simp only [kindNames, List.mem_cons, Prod.mk.injEq, List.not_mem_nil, or_false] at hm
    rcases hm with ⟨rfl, rfl⟩ | ⟨rfl, rfl⟩ | ⟨rfl, rfl⟩ | ⟨rfl, rfl⟩ | ⟨rfl, rfl⟩
    · exact ⟨bb_int, by decide, by simp⟩
    · exact ⟨bb_bool, by decide, by simp⟩
    · exact ⟨bb_str, by decide, by simp⟩
    · exact ⟨bb_list, by decide, by simp⟩
    · exact ⟨bb_tuple, by decide, by simp⟩
  refine wpAny_Call_NameR (builtin_name fs st hg hn (.inr (.inr (.inr (.inl rfl)))) bb_isinstance (by decide) ?_)
  refine callWith_any (spliced_noStar _ (by rw [List.any_cons, hs]; rfl)) (spliced2 hs rfl ?_)
  refine Sim.goN (h env ρ f X σ s A st) hne (fun _ _ x => x.qs) (fun _ _ x => x) fun va a' σ₁ g₁ s₁ hne hg k L ra hQ hE => ?_
  refine builtin_name fs (st.keep hg k L) hgk hnk (.inr (.inr (.inl hm'))) hv.1 hv.2.1 ?_
  obtain ⟨x, hx⟩ := lift_ok hne
  rw [hx] at hQ
  exact ⟨plain_callable (by simp), wpAny_mono (isInst_sound hv.2.2 L hx ra) (fun v s' p => hQ v s' (p.here L)) fun _ _ x => x⟩

/-- a def of the text is called -/
theorem ok_call (fs : Facts S C T) (FSs : FS S F q d) {x : Str} {n : Nat} {p pos : Pos} {es : List Expr} {cs : List CE} (hg : isGlob sc x = true) (hd : (x == ("__debug__" : Str)) = false) (hn : C.fns.lookup x = some n) (h : All2 (GOk S F q d Γ sc) es cs) :
    EOk S F q d Γ sc (.Call (.Name x p) es [] pos) (.call n cs) := fun env ρ f X σ s A st hne => by
  rw [evE] at hne ⊢
  have hr : evL F q cs ρ σ ≠ .stuck := fun e => hne (by rw [e]; rfl)
  obtain ⟨mg, mb, g1, g2, g3, g4, _⟩ := fs.g
  refine wpAny_Call_NameR (wpAny_Name (load_global st.fr.kind (st.fr.isGlob hg) (by rw [st.fr.glob]; exact st.lk.ns g1) (g4 x n hn) ?_) hd)
  have hl := LOk.of h
  refine callWith_any (spliced_noStar _ hl.1) ?_
  refine Sim.goQ (P' := PV S X) (hl.2 env pos ρ f X σ s A st) hne (fun _ _ x => x) (fun _ _ x => x) fun vs xs σ₁ g₁ s₁ hne hg k L rs hQ hE => ?_
  obtain ⟨⟨o, fd, h1, h2⟩, h3⟩ := FSs n xs σ₁ _ X A s₁ vs (st.keep hg k L).cx.call L rs hne
  refine ⟨.inr ⟨_, o, fd, rfl, L.base _ _ h1, h2⟩, wpAny_call ?_⟩
  refine codeAny_mono h3 fun r s' hq => ?_
  match r, hq with
  | .ok (.ret v), hq => exact hQ v s' hq
  | .error e, hq => exact hE e s' hq
end
end Mine
end

/-! # Loop -/
section
set_option autoImplicit false
namespace Mine
open PySem PyProof.Rows

section
variable {S : Stat} {C : Ctx} {T : Nat → Option Fn} {F : Calls} {q : Bool} {d : Nat} {Γ : List Str} {sc : Scope}
variable {X X' Y Z : List Addr} {f g : List Loc} {σ : Sto} {s s' : Shared} {A : Around} {E : Value → Shared → Prop} {I a : Addr} {its : Items} {i : Nat}

/-- one hidden object changes -/
structure Mv (I : Addr) (s s' : Shared) : Prop where
  rest : s' = { s with heap := s'.heap, toks := s'.toks }
  keep : ∀ b o, b ≠ I → s.heap.get? b = some o → s'.heap.get? b = some o
  live : ∃ o, s'.heap.get? I = some o
  dic : ∀ o es n, s.heap.get? I = some o → o.data = .dict es n → ∃ o' es' n', s'.heap.get? I = some o' ∧ o'.data = .dict es' n'

theorem Mv.kp (m : Mv I s s') (hI : I ∈ Y) : Kp f Y s s' :=
  ⟨m.rest, fun a o e => (by by_cases h : a = I
                            · rw [h]; exact m.live
                            · exact ⟨o, m.keep a o h e⟩), fun a o e _ h => ⟨o, m.keep a o (fun q => h (q ▸ hI)) e, .refl o⟩,
    fun a o es n e d _ => (by by_cases h : a = I
                              · subst h; exact m.dic o es n e d
                              · exact ⟨o, es, n, m.keep a o h e, d⟩)⟩

theorem Mv.vr (m : Mv I s s') (hI : I ∈ X) {x : V} {v : Value} (r : VR S X f s.heap x v) : VR S X f s'.heap x v :=
  VR.keep (fun _ _ e => e) (fun a o h h1 h2 => ⟨⟨h1, h2⟩, o, m.keep a o (fun q => h2 (q ▸ hI)) h, .refl o⟩) x v r
theorem Mv.vrs (m : Mv I s s') (hI : I ∈ X) {x : List V} {v : List Value} (r : VRs S X f s.heap x v) : VRs S X f s'.heap x v :=
  VRs.keep (fun _ _ e => e) (fun a o h h1 h2 => ⟨⟨h1, h2⟩, o, m.keep a o (fun q => h2 (q ▸ hI)) h, .refl o⟩) x v r

theorem Mv.lk (m : Mv I s s') (hI : I ∈ X) (L : Lk S X f σ s.heap) : Lk S X f σ s'.heap where
  base b o h := m.keep b o (fun q => by rw [q, (L.hid I hI).1] at h; cases h) (L.base b o h)
  len := L.len
  nodup := L.nodup
  fresh := L.fresh
  hid a ha := ⟨(L.hid a ha).1, (L.hid a ha).2.1, (by
    by_cases h : a = I
    · rw [h]; exact m.live
    · obtain ⟨o, e⟩ := (L.hid a ha).2.2; exact ⟨o, m.keep a o h e⟩)⟩
  obj i l o hi ho := (L.obj i l o hi ho).keep (fun _ _ => m.vr hI) (fun _ _ => m.vrs hI) fun a ha => by
    obtain ⟨ob, h⟩ := L.live (addrs_of hi ha)
    rw [h]; exact m.keep a ob (fun q => (L.hid I hI).2.1 (q ▸ addrs_of hi ha)) h

/-- hidden objects go, or change as they like -/
theorem VR.drop {h h' : Heap} (hX : ∀ a ∈ X', a ∈ X) (hZ : ∀ a ∈ Z, a ∈ X) (k : ∀ b o, b ∉ Z → h.get? b = some o → h'.get? b = some o) {x : V} {v : Value} (r : VR S X f h x v) : VR S X' f h' x v :=
  VR.keep (fun _ _ e => e) (fun a o h h1 h2 => ⟨⟨h1, fun q => h2 (hX a q)⟩, o, k a o (fun q => h2 (hZ a q)) h, .refl o⟩) x v r
theorem VRs.drop {h h' : Heap} (hX : ∀ a ∈ X', a ∈ X) (hZ : ∀ a ∈ Z, a ∈ X) (k : ∀ b o, b ∉ Z → h.get? b = some o → h'.get? b = some o) {x : List V} {v : List Value} (r : VRs S X f h x v) : VRs S X' f h' x v :=
  VRs.keep (fun _ _ e => e) (fun a o h h1 h2 => ⟨⟨h1, fun q => h2 (hX a q)⟩, o, k a o (fun q => h2 (hZ a q)) h, .refl o⟩) x v r
theorem Lk.drop {h h' : Heap} (L : Lk S X f σ h) (hX : ∀ a ∈ X', a ∈ X ∧ a ∉ Z) (hZ : ∀ a ∈ Z, a ∈ X) (k : ∀ b o, b ∉ Z → h.get? b = some o → h'.get? b = some o) : Lk S X' f σ h' where
  base b o q := k b o (fun z => by rw [(L.hid b (hZ b z)).1] at q; cases q) (L.base b o q)
  len := L.len
  nodup := L.nodup
  fresh := L.fresh
  hid a ha := ⟨(L.hid a (hX a ha).1).1, (L.hid a (hX a ha).1).2.1, let ⟨o, e⟩ := (L.hid a (hX a ha).1).2.2; ⟨o, k a o (hX a ha).2 e⟩⟩
  obj i l o hi ho := (L.obj i l o hi ho).keep (fun _ _ => VR.drop (fun a ha => (hX a ha).1) hZ k) (fun _ _ => VRs.drop (fun a ha => (hX a ha).1) hZ k) fun a ha => by
    obtain ⟨ob, h⟩ := L.live (addrs_of hi ha)
    rw [h]; exact k a ob (fun z => (L.hid a (hZ a z)).2.1 (addrs_of hi ha)) h

theorem Kp.drop {s₁ : Shared} (k : Kp f [] s s₁) (hg : Fresh g s) (k' : Kp (f ++ g) Y s₁ s') (hY : ∀ a ∈ Y, s.heap.get? a = none) : Kp f [] s s' where
  rest := by rw [k'.rest, k.rest]
  live a o e := let ⟨o₁, e₁⟩ := k.live a o e; k'.live a o₁ e₁
  kept a o e h1 h2 := by
    obtain ⟨o₁, e₁, q₁⟩ := k.kept a o e h1 h2
    obtain ⟨o₂, e₂, q₂⟩ := k'.kept a o₁ e₁ (fun h => (mem_addrs_append.mp h).elim h1 (not_mem_fresh hg e)) (fun h => by rw [hY a h] at e; cases e)
    exact ⟨o₂, e₂, q₁.trans q₂⟩
  dicts a o es n e d h1 := by
    obtain ⟨o₁, es₁, n₁, e₁, d₁⟩ := k.dicts a o es n e d h1
    exact k'.dicts a o₁ es₁ n₁ e₁ d₁ (fun h => (mem_addrs_append.mp h).elim h1 (not_mem_fresh hg e))
/-- what was not there before may end as it likes -/
theorem Kp.ends {s₁ : Shared} (k : Kp f Y s s₁) (hr : s' = { s₁ with heap := s'.heap, toks := s'.toks }) (hk : ∀ b o, b ∉ Z → s₁.heap.get? b = some o → s'.heap.get? b = some o) (hZ : ∀ a ∈ Z, s.heap.get? a = none) : Kp f Y s s' where
  rest := by rw [hr, k.rest]
  live a o e := let ⟨o₁, e₁⟩ := k.live a o e; ⟨o₁, hk a o₁ (fun h => by rw [hZ a h] at e; cases e) e₁⟩
  kept a o e h1 h2 := by
    obtain ⟨o₁, e₁, q₁⟩ := k.kept a o e h1 h2
    exact ⟨o₁, hk a o₁ (fun h => by rw [hZ a h] at e; cases e) e₁, q₁⟩
  dicts a o es n e d h1 := by
    obtain ⟨o₁, es₁, n₁, e₁, d₁⟩ := k.dicts a o es n e d h1
    exact ⟨o₁, es₁, n₁, hk a o₁ (fun h => by rw [hZ a h] at e; cases e) e₁, d₁⟩

/-! ## iterators -/

noncomputable def ItAt (S : Stat) (X : List Addr) (f : List Loc) (h : Heap) (I : Addr) : Items → Nat → Prop
  | .now xs, i => (∃ ax items n, h.IsListIter I ax i ∧ (ax ∉ addrs f ∧ ax ∉ X) ∧ IsL h ax items n ∧ VRs S X f h xs items.toList) ∨
      (∃ ax items n, h.IsTupleIter I ax i ∧ (ax ∉ addrs f ∧ ax ∉ X) ∧ IsT h ax items n ∧ VRs S X f h xs items.toList) ∨
      (∃ lo hi : Int, xs = rangeL lo hi ∧ IsRangeIter h I (lo + i) (((hi - lo).toNat : Int) - i) 1) ∨
      (∃ y t, xs = charsOf y ∧ y.cps.all (· < 128) = true ∧ h.IsStrIter I "str_ascii_iterator" y t i)
  | .live n, i => ∃ ax, f[n]? = some (ax, none) ∧ h.IsListIter I ax i
  | .keys _ _, _ => False

theorem rangeL_get {lo hi : Int} {x : V} (h : (rangeL lo hi)[i]? = some x) : x = .int (lo + i) ∧ i < (hi - lo).toNat := by
  simp only [rangeL, List.getElem?_map, Option.map_eq_some_iff] at h
  obtain ⟨k, hk, rfl⟩ := h
  have := List.getElem?_range (n := (hi - lo).toNat) (i := i)
  by_cases hlt : i < (hi - lo).toNat
  · rw [this hlt] at hk; cases hk; exact ⟨rfl, hlt⟩
  · rw [List.getElem?_eq_none (by simp; omega)] at hk; cases hk
theorem rangeL_end {lo hi : Int} (h : (rangeL lo hi)[i]? = none) : (hi - lo).toNat ≤ i := by
  simp only [rangeL, List.getElem?_map, Option.map_eq_none_iff] at h
  simpa using h

theorem listIter_kept {h h' : Heap} {ax : Addr} (x : h.IsListIter I ax i) (k : ∀ o, h.get? I = some o → ∃ o', h'.get? I = some o' ∧ SameObj o o') : h'.IsListIter I ax i := by
  obtain ⟨o, e, c, dt⟩ := x
  obtain ⟨o', e', q⟩ := k o e
  exact ⟨o', e', q.cls.trans c, q.data.trans dt⟩
theorem tupIter_kept {h h' : Heap} {ax : Addr} (x : h.IsTupleIter I ax i) (k : ∀ o, h.get? I = some o → ∃ o', h'.get? I = some o' ∧ SameObj o o') : h'.IsTupleIter I ax i := by
  obtain ⟨o, e, c, dt⟩ := x
  obtain ⟨o', e', q⟩ := k o e
  exact ⟨o', e', q.cls.trans c, q.data.trans dt⟩

theorem strIter_kept {h h' : Heap} {c : String} {y : Str} {t : Tok} (x : h.IsStrIter I c y t i) (k : ∀ o, h.get? I = some o → ∃ o', h'.get? I = some o' ∧ SameObj o o') : h'.IsStrIter I c y t i := by
  obtain ⟨o, e, c, dt⟩ := x
  obtain ⟨o', e', q⟩ := k o e
  exact ⟨o', e', q.cls.trans c, q.data.trans dt⟩

theorem charsOf_get {y : Str} {x : V} (h : (charsOf y)[i]? = some x) : ∃ c, y.cps[i]? = some c ∧ x = .str ⟨#[c]⟩ := by
  unfold charsOf codes at h
  rw [List.getElem?_map] at h
  cases e : y.cps.toList[i]? with
  | none => rw [e] at h; cases h
  | some c => rw [e] at h; cases h; exact ⟨c, by rw [← Array.getElem?_toList]; exact e, rfl⟩
theorem charsOf_end {y : Str} (h : (charsOf y)[i]? = none) : y.cps[i]? = none := by
  unfold charsOf codes at h
  rw [List.getElem?_map] at h
  cases e : y.cps.toList[i]? with
  | none => rw [← Array.getElem?_toList]; exact e
  | some c => rw [e] at h; cases h

/-- what an iterator stands on is kept -/
theorem ItAt.keep {h h' : Heap} {f' : List Loc} (kf : ∀ (i : Nat) (l : Loc), f[i]? = some l → f'[i]? = some l)
    (kh : ∀ a o, h.get? a = some o → a ∉ addrs f → a ∉ X → (a ∉ addrs f' ∧ a ∉ X') ∧ ∃ o', h'.get? a = some o' ∧ SameObj o o')
    (kI : ∀ o, h.get? I = some o → ∃ o', h'.get? I = some o' ∧ SameObj o o') (x : ItAt S X f h I its i) : ItAt S X' f' h' I its i := by
  cases its with
  | now xs =>
    rcases x with ⟨ax, items, n, h1, h2, h3, h4⟩ | ⟨ax, items, n, h1, h2, h3, h4⟩ | ⟨lo, hi, h1, h2⟩ | ⟨y, t, h1, h2, h3⟩
    · obtain ⟨q1, o', q2, q3⟩ := kh ax _ h3 h2.1 h2.2
      exact .inl ⟨ax, items, n, listIter_kept h1 kI, q1, q2.trans (congrArg some (q3.exact fun _ _ q => by cases q)), VRs.keep kf kh _ _ h4⟩
    · obtain ⟨q1, o', q2, q3⟩ := kh ax _ h3 h2.1 h2.2
      exact .inr (.inl ⟨ax, items, n, tupIter_kept h1 kI, q1, q2.trans (congrArg some (q3.exact fun _ _ q => by cases q)), VRs.keep kf kh _ _ h4⟩)
    · obtain ⟨o', q2, q3⟩ := kI _ h2
      exact .inr (.inr (.inl ⟨lo, hi, h1, q2.trans (congrArg some (q3.exact fun _ _ q => by cases q))⟩))
    · exact .inr (.inr (.inr ⟨y, t, h1, h2, strIter_kept h3 kI⟩))
  | live n =>
    obtain ⟨ax, h1, h2⟩ := x
    exact ⟨ax, kf _ _ h1, listIter_kept h2 kI⟩
  | keys _ _ => exact x.elim

theorem ItAt.keepK (k : Kp f [] s s') (hg : Fresh g s) (hI : I ∈ X) (hXf : ∀ a ∈ X, a ∉ addrs f) (x : ItAt S X f s.heap I its i) : ItAt S X (f ++ g) s'.heap I its i :=
  ItAt.keep (f := f) (f' := f ++ g) (X := X) (X' := X) (h := s.heap) (fun _ _ e => List.getElem?_append_left (List.getElem?_eq_some_iff.mp e).1 ▸ e)
    (fun a o ho h1 h2 => ⟨⟨fun h => (mem_addrs_append.mp h).elim h1 (not_mem_fresh hg ho), h2⟩, k.kept a o ho h1 fun h => nomatch h⟩) (fun o ho => k.kept I o ho (hXf I hI) fun h => nomatch h) x

/-- another hidden object changes -/
theorem ItAt.mv (m : Mv a s s') (ha : a ∈ X) (hne : I ≠ a) (x : ItAt S X f s.heap I its i) : ItAt S X f s'.heap I its i :=
  ItAt.keep (fun _ _ e => e) (fun b o ho h1 h2 => ⟨⟨h1, h2⟩, o, m.keep b o (fun q => h2 (q ▸ ha)) ho, .refl o⟩) (fun o ho => ⟨o, m.keep I o hne ho, .refl o⟩) x
theorem ItAt.hideNew (e : Ext s s') (hn : s.heap.get? a = none) (x : ItAt S X f s.heap I its i) : ItAt S (a :: X) f s'.heap I its i :=
  ItAt.keep (fun _ _ e => e) (fun b ob q h1 h2 => ⟨⟨h1, fun h => (List.mem_cons.mp h).elim (fun h => by subst h; rw [hn] at q; cases q) h2⟩, ob, e.keep b ob q, .refl ob⟩) (fun o ho => ⟨o, e.keep I o ho, .refl o⟩) x

theorem mv_same {h' : Heap} {t : Nat} {o : Obj} (hs : Heap.SameBut I s.heap h') (hl : h'.get? I = some o) (hd : ∀ o es n, s.heap.get? I = some o → o.data ≠ .dict es n) : Mv I s { s with heap := h', toks := t } :=
  ⟨rfl, fun b o hb e => (hs.2 b hb).trans e, ⟨o, hl⟩, fun o es n e d => absurd d (hd o es n e)⟩

/-- the next item of an iterator -/
theorem next_item {x : V} (hI : I ∈ X) (L : Lk S X f σ s.heap) (it : ItAt S X f s.heap I its i) (hn : nextIt σ its i = some (some x)) :
    wpAny (model S.prog S.w) A (pyNext (.ref I)) (fun r s' => ∃ v, r = some v ∧ Mv I s s' ∧ ItAt S X f s'.heap I its (i + 1) ∧ VR S X f s'.heap x v) E s := by
  cases its with
  | now xs =>
    have hx : xs[i]? = some x := by simpa [nextIt] using hn
    rcases it with ⟨ax, items, n, h1, h2, h3, h4⟩ | ⟨ax, items, n, h1, h2, h3, h4⟩ | ⟨lo, hi, rfl, h2⟩ | ⟨y, t, rfl, h2, h3⟩
    · obtain ⟨v, hv, rv⟩ := VRs_get h4 hx
      refine wpAny_pyNext_list_item h1 (IsL.isList h3) (by simpa using hv) fun h' hit' hs' => ?_
      obtain ⟨o1, e1, _, d1⟩ := id h1
      obtain ⟨o2, e2, _⟩ := id hit'
      have m : Mv I s { s with heap := h' } := mv_same (t := s.toks) hs' e2 fun o es n e d => by rw [e1] at e; cases e; rw [d1] at d; cases d
      have hne : ax ≠ I := fun q => h2.2 (q ▸ hI)
      exact ⟨v, rfl, m, .inl ⟨ax, items, n, hit', h2, m.keep ax _ hne h3, m.vrs hI h4⟩, m.vr hI rv⟩
    · obtain ⟨v, hv, rv⟩ := VRs_get h4 hx
      refine wpAny_pyNext_tuple_item h1 ⟨_, h3, rfl, n, rfl⟩ (by simpa using hv) fun h' hit' hs' => ?_
      obtain ⟨o1, e1, _, d1⟩ := id h1
      obtain ⟨o2, e2, _⟩ := id hit'
      have m : Mv I s { s with heap := h' } := mv_same (t := s.toks) hs' e2 fun o es n e d => by rw [e1] at e; cases e; rw [d1] at d; cases d
      have hne : ax ≠ I := fun q => h2.2 (q ▸ hI)
      exact ⟨v, rfl, m, .inr (.inl ⟨ax, items, n, hit', h2, m.keep ax _ hne h3, m.vrs hI h4⟩), m.vr hI rv⟩
    · obtain ⟨rfl, hlt⟩ := rangeL_get hx
      refine wpAny_pyNext_range_item h2 (by omega) fun h' hit' hs' => ?_
      have m : Mv I s { s with heap := h', toks := s.toks + 1 } := mv_same hs' hit' fun o es n e d => by rw [h2] at e; cases e; cases d
      refine ⟨_, rfl, m, .inr (.inr (.inl ⟨lo, hi, rfl, ?_⟩)), by rw [VR]; exact ⟨_, rfl⟩⟩
      have e1 : lo + ((i + 1 : Nat) : Int) = lo + i + 1 := by omega
      have e2 : (((hi - lo).toNat : Int) - ((i + 1 : Nat) : Int)) = ((hi - lo).toNat : Int) - i - 1 := by omega
      rw [e1, e2]; exact hit'
    · obtain ⟨c, hc, rfl⟩ := charsOf_get hx
      refine wpAny_pyNext_ascii_item h3 hc fun h' hit' hs' => ?_
      obtain ⟨o1, e1, _, d1⟩ := id h3
      obtain ⟨o2, e2, _⟩ := id hit'
      have m : Mv I s { s with heap := h', toks := s.toks + 1 } := mv_same hs' e2 fun o es n e d => by rw [e1] at e; cases e; rw [d1] at d; cases d
      have hlt : c < 128 := by
        have := (Array.all_eq_true'.mp h2) c (Array.mem_of_getElem? hc)
        simpa using this
      refine ⟨_, rfl, m, .inr (.inr (.inr ⟨y, t, rfl, h2, hit'⟩)), ?_⟩
      rw [VR]
      refine ⟨⟨_, rfl⟩, by show 1 ≤ LIM; decide, ?_⟩
      show (#[c] : Array Nat).all (· < 0x110000) = true
      simp; omega
  | live n =>
    obtain ⟨ax, h1, h2⟩ := it
    simp only [nextIt] at hn
    split at hn
    · rename_i xs ho
      have hx : xs[i]? = some x := by simpa using hn
      obtain ⟨vs, k, il, rs, hl⟩ := L.obj n (ax, none) _ h1 ho
      obtain ⟨v, hv, rv⟩ := VRs_get rs hx
      refine wpAny_pyNext_list_item h2 (IsL.isList il) (by simpa using hv) fun h' hit' hs' => ?_
      obtain ⟨o1, e1, _, d1⟩ := id h2
      obtain ⟨o2, e2, _⟩ := id hit'
      have m : Mv I s { s with heap := h' } := mv_same (t := s.toks) hs' e2 fun o es n e d => by rw [e1] at e; cases e; rw [d1] at d; cases d
      exact ⟨v, rfl, m, ⟨ax, h1, hit'⟩, m.vr hI rv⟩
    · cases hn
  | keys _ _ => exact it.elim

/-- the end of an iterator -/
theorem next_end (hh : A.handled = none) (L : Lk S X f σ s.heap) (it : ItAt S X f s.heap I its i) (hn : nextIt σ its i = some none) :
    wpAny (model S.prog S.w) A (pyNext (.ref I)) (fun r s' => r = none ∧ s' = { s with heap := s'.heap, toks := s'.toks } ∧ ∀ b o, b ≠ I → s.heap.get? b = some o → s'.heap.get? b = some o) E s := by
  cases its with
  | now xs =>
    have hx : xs[i]? = none := by simpa [nextIt] using hn
    rcases it with ⟨ax, items, n, h1, h2, h3, h4⟩ | ⟨ax, items, n, h1, h2, h3, h4⟩ | ⟨lo, hi, rfl, h2⟩ | ⟨y, t, rfl, h2, h3⟩
    · have : items[i]? = none := by
        have z := VRs_size h4
        rw [List.getElem?_eq_none_iff] at hx
        exact Array.getElem?_eq_none_iff.mpr (by omega)
      exact wpAny_pyNext_list_end hh h1 (IsL.isList h3) this fun h' he => ⟨rfl, rfl, he⟩
    · have : items[i]? = none := by
        have z := VRs_size h4
        rw [List.getElem?_eq_none_iff] at hx
        exact Array.getElem?_eq_none_iff.mpr (by omega)
      exact wpAny_pyNext_tuple_end hh h1 ⟨_, h3, rfl, n, rfl⟩ this fun h' he => ⟨rfl, rfl, he⟩
    · have := rangeL_end hx
      exact wpAny_pyNext_range_end hh h2 (by omega) fun h' he => ⟨rfl, rfl, he⟩
    · exact wpAny_pyNext_ascii_end hh h3 (charsOf_end hx) fun h' he => ⟨rfl, rfl, he⟩
  | live n =>
    obtain ⟨ax, h1, h2⟩ := it
    simp only [nextIt] at hn
    split at hn
    · rename_i xs ho
      have hx : xs[i]? = none := by simpa using hn
      obtain ⟨vs, k, il, rs, hl⟩ := L.obj n (ax, none) _ h1 ho
      have : vs[i]? = none := by
        have z := VRs_size rs
        rw [List.getElem?_eq_none_iff] at hx
        exact Array.getElem?_eq_none_iff.mpr (by omega)
      exact wpAny_pyNext_list_end hh h2 (IsL.isList il) this fun h' he => ⟨rfl, rfl, he⟩
    · cases hn
  | keys _ _ => exact it.elim
end
end Mine
end

/-! # Src -/
section
set_option autoImplicit false
namespace Mine
open PySem PyProof.Rows

/-- an iterator has been made -/
noncomputable def QI (S : Stat) (X : List Addr) (f : List Loc) (s : Shared) (r : R Items) (it : Value) (s' : Shared) : Prop :=
  ∃ its σ' g I, r = .ok its σ' ∧ it = .ref I ∧ s.heap.get? I = none ∧ I ∉ X ∧ Fresh g s ∧ Kp f [] s s' ∧ Lk S (I :: X) (f ++ g) σ' s'.heap ∧ ItAt S (I :: X) (f ++ g) s'.heap I its 0

section
variable {S : Stat} {C : Ctx} {T : Nat → Option Fn} {F : Calls} {q : Bool} {d : Nat} {Γ : List Str} {sc : Scope}
variable {X X' Y Z : List Addr} {f g : List Loc} {σ : Sto} {s s' : Shared} {A : Around} {E : Value → Shared → Prop} {I a : Addr} {its : Items} {i : Nat}

theorem QI.lifts : Lifts [] (fun f s r a s' => QI S X f s r a s') := fun f g s s₁ r c s' hg k q => by
  obtain ⟨its, σ', g', I, e1, e2, e3, e4, hg', k', L, x⟩ := q
  rw [List.append_assoc] at L x
  exact ⟨its, σ', g ++ g', I, e1, e2, new_back k.live e3, e4, hg.trans k.live hg', k.trans hg k', L, x⟩

/-- from a step that only makes new things -/
theorem QI.made {o : Obj} {t : Nat} (L : Lk S X f σ s.heap) (x : ItAt S (s.heap.objs.size :: X) f (s.heap.push o) s.heap.objs.size its 0) (hl : (s.heap.push o).get? s.heap.objs.size = some o) :
    QI S X f s (.ok its σ) (.ref s.heap.objs.size) { s with heap := s.heap.push o, toks := t } := by
  have ex : Ext s { s with heap := s.heap.push o, toks := t } := .heap fun _ _ e => Heap.get?_push_of_some _ e
  refine ⟨its, σ, [], s.heap.objs.size, rfl, rfl, size_new _, (L.new (size_new _)).2, .nil s, ex.kp f [], ?_, ?_⟩
  · rw [List.append_nil]; exact L.hideNew ex (size_new _) hl
  · rw [List.append_nil]; exact x
theorem QI.moved {r : R Items} {v : Value} {s₁ : Shared} (e : Ext s s₁) (h : QI S X f s₁ r v s') : QI S X f s r v s' :=
  QI.lifts f [] s s₁ r v s' (.nil s) (e.kp f []) (by rwa [List.append_nil])

theorem vrs_hide {o : Obj} {xs : List V} {vs : List Value} (r : VRs S X f s.heap xs vs) : VRs S (s.heap.objs.size :: X) f (s.heap.push o) xs vs :=
  VRs.hideNew (s' := { s with heap := s.heap.push o }) (Ext.push s o) (size_new _) r

/-- what a value gives when it is walked -/
theorem iter_sound {v : V} {w : Value} (L : Lk S X f σ s.heap) (hi : itemsBy σ .val [v] = some its) (r : VR S X f s.heap v w) : wpAny (model S.prog S.w) A (pyIter w) (QI S X f s (.ok its σ)) E s := by
  cases v with
  | tup xs =>
    cases hi
    obtain ⟨p, vs, n, rfl, hp, il, rs, hlen⟩ := vr_tup r
    refine wpAny_pyIter_tuple ⟨_, il, rfl, n, rfl⟩ (QI.made (t := s.toks) L (.inr (.inl ⟨p, vs, n, ⟨_, Heap.get?_push_size _ rfl, rfl, rfl⟩, ⟨hp.1, ?_⟩, Heap.get?_push_of_some _ il, vrs_hide rs⟩)) (Heap.get?_push_size _ rfl))
    exact fun h => (List.mem_cons.mp h).elim (fun h => by have := size_new s.heap; rw [← h, il] at this; cases this) hp.2
  | lst xs =>
    cases hi
    rw [VR] at r
    obtain ⟨p, vs, n, rfl, hp, il, rs, hlen⟩ := r
    refine wpAny_pyIter_list (IsL.isList il) (QI.made (t := s.toks) L (.inl ⟨p, vs, n, ⟨_, Heap.get?_push_size _ rfl, rfl, rfl⟩, ⟨hp.1, ?_⟩, Heap.get?_push_of_some _ il, vrs_hide rs⟩) (Heap.get?_push_size _ rfl))
    exact fun h => (List.mem_cons.mp h).elim (fun h => by have := size_new s.heap; rw [← h, il] at this; cases this) hp.2
  | ref n =>
    have hi : refItems n σ[n]? = some its := hi
    unfold refItems at hi
    split at hi
    · rename_i xs ho
      cases hi
      rw [VR] at r
      obtain ⟨l, hl, rfl⟩ := r
      have := L.obj n l _ hl ho
      obtain ⟨p, dd⟩ := l
      cases dd with
      | none =>
        obtain ⟨vs, k, il, rs, hlen⟩ := this
        exact wpAny_pyIter_list (IsL.isList il) (QI.made (t := s.toks) L ⟨p, hl, ⟨_, Heap.get?_push_size _ rfl, rfl, rfl⟩⟩ (Heap.get?_push_size _ rfl))
      | some dd => exact this.elim
    · cases hi
  | str y =>
    obtain ⟨⟨t, rfl⟩, _⟩ := vr_str r
    have hi : (if y.cps.all (· < 128) = true then some (Items.now (charsOf y)) else none) = some its := hi
    split at hi
    · rename_i ha
      cases hi
      exact wpAny_pyIter_ascii ha (QI.made (t := s.toks) L (.inr (.inr (.inr ⟨y, t, rfl, ha, ⟨_, Heap.get?_push_size _ rfl, rfl, rfl⟩⟩))) (Heap.get?_push_size _ rfl))
    · cases hi
  | _ => cases hi

noncomputable def SrcOk (S : Stat) (F : Calls) (q : Bool) (d : Nat) (Γ : List Str) (sc : Scope) (e : Expr) (k : SK) (cs : List CE) : Prop := (∀ env x, foldedSetIterable e env x = pure x) ∧
  ∀ (env : Env) (ρ : List V) (f : List Loc) (X : List Addr) (σ : Sto) (s : Shared) (A : Around), St S q d Γ sc env ρ f X σ s A →
    ((evL F q cs ρ σ).bind fun vs σ => R.lift σ (itemsBy σ k vs)) ≠ .stuck →
    wpAny (model S.prog S.w) A (eval e env) (fun x s₁ => wpAny (model S.prog S.w) A (pyIter x) (QI S X f s ((evL F q cs ρ σ).bind fun vs σ => R.lift σ (itemsBy σ k vs))) (ES S X [] f false s ((evL F q cs ρ σ).bind fun vs σ => R.lift σ (itemsBy σ k vs))) s₁)
      (ES S X [] f false s ((evL F q cs ρ σ).bind fun vs σ => R.lift σ (itemsBy σ k vs))) s

theorem src_val {e : Expr} {c : CE} (h : GOk S F q d Γ sc e c) : SrcOk S F q d Γ sc e .val [c] := by
  refine ⟨h.fold, fun env ρ f X σ s A st hne => ?_⟩
  have key : ((evL F q [c] ρ σ).bind fun vs σ => R.lift σ (itemsBy σ .val vs)) = (evE F q c ρ σ).bind fun v σ => R.lift σ (itemsBy σ .val [v]) := by
    rw [evL, R.bind_assoc]
    congr 1
  rw [key] at hne ⊢
  refine Sim.go (K := fun f s r a s' => QI S X f s r a s') QI.lifts (h.eo env ρ f X σ s A st) hne (fun _ _ x => x) (fun _ _ x => x) fun va a' σ₁ g₁ s₁ hne hg k L ra hQ hE => ?_
  obtain ⟨its, hi⟩ := lift_ok hne
  rw [hi] at hQ
  exact wpAny_mono (iter_sound L hi ra) hQ fun _ _ x => x

theorem range_iter {lo hi : Int} {t u v : Tok} (L : Lk S X f σ s.heap) (h0 : 0 ≤ lo) (h1 : lo ≤ LIM) (h2 : hi.natAbs ≤ LIM) :
    wpAny (model S.prog S.w) A (pyIter (.ref s.heap.objs.size)) (QI S X f s (.ok (.now (rangeL lo hi)) σ)) E { s with heap := s.heap.push { cls := .type "range", data := .fields #[.int lo t, .int hi u, .int 1 v] }, toks := s.toks } := by
  have hL : LIM = 1048576 := rfl
  have ex : Ext s { s with heap := s.heap.push { cls := .type "range", data := .fields #[.int lo t, .int hi u, .int 1 v] }, toks := s.toks } := .heap fun _ _ e => Heap.get?_push_of_some _ e
  refine wpAny_pyIter_range (IsRange.new ..) (small_one (by omega) (by omega) (by omega) (by omega)) (QI.moved ex (QI.made (t := s.toks) (ex.lk L) (.inr (.inr (.inl ⟨lo, hi, rfl, ?_⟩))) (Heap.get?_push_size _ rfl)))
  have e1 : Builtin.Range.rangeSize lo hi 1 = ((hi - lo).toNat : Int) - ((0 : Nat) : Int) := by rw [rangeSize_one]; split <;> omega
  have e2 : lo + ((0 : Nat) : Int) = lo := by simp
  show IsRangeIter _ _ (lo + ((0 : Nat) : Int)) _ 1
  rw [← e1, e2]
  exact Heap.get?_push_size _ rfl

theorem src_range (fs : Facts S C T) {p pos : Pos} {es : List Expr} {cs : List CE} {k : SK} (hg : isGlob sc "range" = true) (hn : C.fns.lookup ("range" : Str) = none) (h : All2 (GOk S F q d Γ sc) es cs)
    (hk : (k = .range1 ∧ cs.length = 1) ∨ (k = .range2 ∧ cs.length = 2)) : SrcOk S F q d Γ sc (.Call (.Name ("range" : Str) p) es [] pos) k cs := by
  refine ⟨fun _ _ => rfl, fun env ρ f X σ s A st hne => ?_⟩
  have hl := LOk.of h
  refine wpAny_Call_NameR (builtin_name fs st hg hn (.inr (.inr (.inr (.inr rfl)))) bb_range (by decide) ?_)
  refine callWith_any (spliced_noStar _ hl.1) ?_
  refine Sim.go (K := fun f s r a s' => QI S X f s r a s') QI.lifts (hl.2 env pos ρ f X σ s A st) hne (fun _ _ x => x) (fun _ _ x => x) fun vs xs σ₁ g₁ s₁ hne hg k L rs hQ hE => ?_
  refine ⟨plain_callable (by simp), ?_⟩
  obtain ⟨its, hi⟩ := lift_ok hne
  rw [hi] at hQ
  have hL : LIM = 1048576 := rfl
  rcases hk with ⟨rfl, _⟩ | ⟨rfl, _⟩
  · obtain ⟨n, rfl⟩ : ∃ n, xs = [.int n] := by
      rcases xs with _ | ⟨x, _ | ⟨y, _ | ⟨z, r⟩⟩⟩
      · cases hi
      · cases x <;> first | exact ⟨_, rfl⟩ | cases hi
      · cases hi
      · cases hi
    match vs, rs with
    | [w], rs =>
      rw [VRs] at rs
      obtain ⟨t, rfl⟩ := vr_int rs.1
      have hi : (if n.natAbs ≤ LIM then some (Items.now (rangeL 0 n)) else none) = some its := hi
      split at hi
      · rename_i hb
        cases hi
        refine call_range_1 ?_
        have ex : Ext s₁ { s₁ with toks := s₁.toks + 1 + 1 } := .toks s₁ _
        exact wpAny_mono (range_iter (s := { s₁ with toks := s₁.toks + 1 + 1 }) L (by omega) (by omega) hb) (fun v s'' x => hQ v s'' (QI.moved ex x)) fun _ _ x => x
      · cases hi
    | [], rs => rw [VRs] at rs; exact rs.elim
    | _ :: _ :: _, rs => rw [VRs, VRs] at rs; exact rs.2.elim
  · obtain ⟨n, m, rfl⟩ : ∃ n m, xs = [.int n, .int m] := by
      rcases xs with _ | ⟨x, _ | ⟨y, _ | ⟨z, r⟩⟩⟩
      · cases hi
      · cases hi
      · cases x <;> first | (cases hi; done) | (cases y <;> first | exact ⟨_, _, rfl⟩ | cases hi)
      · cases hi
    match vs, rs with
    | [w, w'], rs =>
      rw [VRs, VRs] at rs
      obtain ⟨t, rfl⟩ := vr_int rs.1
      obtain ⟨u, rfl⟩ := vr_int rs.2.1
      have hi : (if (decide (0 ≤ n) && decide (n ≤ LIM) && decide (m.natAbs ≤ LIM)) = true then some (Items.now (rangeL n m)) else none) = some its := hi
      split at hi
      · rename_i hb
        cases hi
        simp only [Bool.and_eq_true, decide_eq_true_eq] at hb
        refine call_range_2 ?_
        have ex : Ext s₁ { s₁ with toks := s₁.toks + 1 } := .toks s₁ _
        exact wpAny_mono (range_iter (s := { s₁ with toks := s₁.toks + 1 }) L hb.1.1 hb.1.2 hb.2) (fun v s'' x => hQ v s'' (QI.moved ex x)) fun _ _ x => x
      · cases hi
    | [], rs => rw [VRs] at rs; exact rs.elim
    | [_], rs => rw [VRs, VRs] at rs; exact rs.2.elim
    | _ :: _ :: _ :: _, rs => rw [VRs, VRs, VRs] at rs; exact rs.2.2.elim
end
end Mine
end

/-! # CompS -/
section
set_option autoImplicit false
namespace Mine
open PySem PyProof.Rows

section
variable {S : Stat} {C : Ctx} {T : Nat → Option Fn} {F : Calls} {q : Bool} {d : Nat} {Γ : List Str} {sc : Scope}
variable {X X' Y Z : List Addr} {f g : List Loc} {σ : Sto} {s s' : Shared} {A : Around} {E : Value → Shared → Prop} {I a : Addr} {its : Items} {i : Nat} {env : Env} {ρ : List V}

theorem append_raw {l : Addr} {items : Array Value} {n : Nat} {x : Value} {Q : Value → Shared → Prop} (hl : IsL s.heap l items n) (h : Q .none { s with heap := s.heap.update l (Obj.mapSeq (·.push x)) }) (hsz : items.size ≤ sizeLine) :
    wpAny (model S.prog S.w) A (call (.builtin "list.append") [.ref l, x]) Q E s := by
  refine wpAny_call_entry slot_list_append (IsL.isList hl).typeIs entry_list_append ?_ (args_list_append _ _)
  show wpAny _ _ (updateSeq l (·.push x) >>= fun _ => ret .none) _ _ s
  refine wpAny_bind ?_
  have hz' : (items.push x).size ≤ sizeLine + 1 := by rw [Array.size_push]; omega
  exact wpAny_updateSeq hl rfl (wpAny_pure ⟨.none, rfl, h⟩) (hz := hsz) (_hz' := hz')

theorem IsL.appended {h : Heap} {l : Addr} {items : Array Value} {n : Nat} {x : Value} (hl : IsL h l items n) : ∃ n', IsL (h.update l (Obj.mapSeq (·.push x))) l (items.push x) n' := ⟨_, IsL.update hl _⟩

/-! ## the closure of a comprehension -/

theorem closure_at : ∀ (names : List (Str × NameKind)) (cs : List (Str × Addr)), (∀ n, (n, NameKind.free) ∈ names → ∃ c, env.cells.lookup n = some c) → (∀ y c, cs.lookup y = some c → env.cells.lookup y = some c) →
    ∃ cl, (forIn names cs (fun x r => do
        let __x ← pure PUnit.unit
        match x with
        | (name, kind) => if (kind == .free) = true then do let y ← cellOf env name; pure (ForInStep.yield ((name, y) :: r)) else pure (ForInStep.yield r)) : Sem (List (Str × Addr))) = pure cl ∧ (∀ y c, cl.lookup y = some c → env.cells.lookup y = some c) ∧
      (∀ y, (cs.lookup y).isSome = true → (cl.lookup y).isSome = true) ∧ ∀ y, (y, NameKind.free) ∈ names → (cl.lookup y).isSome = true
  | [], cs, _, h2 => ⟨cs, rfl, h2, fun _ h => h, fun _ h => nomatch h⟩
  | (n, k) :: r, cs, h1, h2 => by
    have h1' : ∀ n, (n, NameKind.free) ∈ r → ∃ c, env.cells.lookup n = some c := fun n hn => h1 n (List.mem_cons_of_mem _ hn)
    by_cases hk : k = .free
    · subst hk
      obtain ⟨c, hc⟩ := h1 n List.mem_cons_self
      obtain ⟨cl, e1, e2, e3, e4⟩ := closure_at r ((n, c) :: cs) h1' (fun y c' e => by
        rw [List.lookup_cons] at e
        split at e
        · rename_i hy; rw [eq_of_beq hy]; cases e; exact hc
        · exact h2 y c' e)
      refine ⟨cl, ?_, e2, fun y hy => e3 y ?_, fun y hy => ?_⟩
      · rw [List.forIn_cons]
        simp only [cellOf, hc]
        exact e1
      · rw [List.lookup_cons]; split
        · rfl
        · exact hy
      · rcases List.mem_cons.mp hy with e | hy
        · cases e; exact e3 n (by simp)
        · exact e4 y hy
    · obtain ⟨cl, e1, e2, e3, e4⟩ := closure_at r cs h1' h2
      refine ⟨cl, ?_, e2, e3, fun y hy => ?_⟩
      · rw [List.forIn_cons]
        have : (k == NameKind.free) = false := by simpa using hk
        simp only [this]
        exact e1
      · rcases List.mem_cons.mp hy with e | hy
        · cases e; exact absurd rfl hk
        · exact e4 y hy

theorem closure_of {scope : Scope} (h : ∀ n, (n, NameKind.free) ∈ scope.names → ∃ c, env.cells.lookup n = some c) : ∃ cl, closureFor scope env = pure cl ∧ ∀ y, (y, NameKind.free) ∈ scope.names → ∃ c, cl.lookup y = some c ∧ env.cells.lookup y = some c := by
  obtain ⟨cl, e1, e2, _, e4⟩ := closure_at (env := env) scope.names [] h (fun y c e => by simp at e)
  refine ⟨cl, ?_, fun y hy => ?_⟩
  · simp only [closureFor]
    have := e1
    simp only [pure_bind, bind_pure] at this ⊢
    exact this
  · obtain ⟨c, hc⟩ := Option.isSome_iff_exists.mp (e4 y hy)
    exact ⟨c, hc, e2 y c hc⟩
end
end Mine
end

/-! # CompS2 -/
section
set_option autoImplicit false
namespace Mine
open PySem PyProof.Rows

theorem lookup_mem' {β : Type} {x : Str} {y : β} : ∀ {l : List (Str × β)}, l.lookup x = some y → (x, y) ∈ l := lookup_mem

theorem relabel_lookup {env : Env} {scope : Scope} (x : Str) : (relabel scope env).names.lookup x = scope.names.lookup x ∨ (scope.names.lookup x = some .free ∧ (relabel scope env).names.lookup x = some .cell) := by
  show (scope.names.map fun (n, k) => if (k == NameKind.free && env.scope.kind == .function && env.kindOf n == some .cell) then (n, NameKind.cell) else (n, k)).lookup x = _ ∨ (_ ∧ (scope.names.map fun (n, k) => if (k == NameKind.free && env.scope.kind == .function && env.kindOf n == some .cell) then (n, NameKind.cell) else (n, k)).lookup x = some .cell)
  generalize scope.names = names
  induction names with
  | nil => exact .inl rfl
  | cons p r ih =>
    obtain ⟨n, k⟩ := p
    simp only [List.map_cons]
    by_cases hc : (k == NameKind.free && env.scope.kind == .function && env.kindOf n == some .cell) = true
    · rw [if_pos hc]
      rw [List.lookup_cons, List.lookup_cons]
      have hk : k = .free := by simp only [Bool.and_eq_true] at hc; exact eq_of_beq hc.1.1
      split
      · exact .inr ⟨by rw [hk], rfl⟩
      · exact ih
    · rw [if_neg hc]
      rw [List.lookup_cons, List.lookup_cons]
      split
      · exact .inl rfl
      · exact ih

section
variable {S : Stat} {C : Ctx} {T : Nat → Option Fn} {F : Calls} {q : Bool} {d : Nat} {Γ : List Str} {sc : Scope}
variable {X X' Y Z : List Addr} {f g : List Loc} {σ : Sto} {s s' : Shared} {A : Around} {E : Value → Shared → Prop} {I a : Addr} {its : Items} {i : Nat} {env : Env} {ρ : List V}

theorem lastIdx_append (x y : Str) : ∀ (Γ : List Str), lastIdx y (Γ ++ [x]) = if x == y then some Γ.length else lastIdx y Γ
  | [] => by simp [lastIdx]
  | z :: Γ => by
    simp only [List.cons_append, lastIdx, lastIdx_append x y Γ]
    by_cases h : (x == y) = true
    · simp [h]
    · simp [h]

theorem lastIdx_lt {y : Str} : ∀ {Γ : List Str} {i : Nat}, lastIdx y Γ = some i → i < Γ.length
  | [], i, h => by simp [lastIdx] at h
  | z :: Γ, i, h => by
    simp only [lastIdx] at h
    split at h
    · rename_i j hj; cases h; have := lastIdx_lt hj; simp; omega
    · split at h
      · cases h; simp
      · cases h
theorem lastIdx_mem {y : Str} : ∀ {Γ : List Str} {i : Nat}, lastIdx y Γ = some i → y ∈ Γ
  | [], i, h => by simp [lastIdx] at h
  | z :: Γ, i, h => by
    simp only [lastIdx] at h
    split at h
    · rename_i j hj; exact List.mem_cons_of_mem _ (lastIdx_mem hj)
    · split at h
      · rename_i e; rw [eq_of_beq e]; exact List.mem_cons_self
      · cases h

structure CompOk (Γ : List Str) (sc scope : Scope) (x : Str) : Prop where
  kind : scope.kind = .function
  self : scope.names.lookup x = some .local
  cell : ∀ p ∈ scope.names, p.2 ≠ .cell
  loc : ∀ p ∈ scope.names, p.2 = .local → (p.1 = x ∨ p.1 ∉ Γ) ∧ scope.names.lookup p.1 = some .local
  free : ∀ p ∈ scope.names, p.2 = .free → sc.names.lookup p.1 = some .cell ∨ sc.names.lookup p.1 = some .free

theorem compOk_of {scope : Scope} {x : Str} (h : compOk Γ sc scope x = true) : CompOk Γ sc scope x := by
  unfold compOk at h
  simp only [Bool.and_eq_true, List.all_eq_true, Bool.not_eq_true'] at h
  obtain ⟨⟨⟨⟨h1, h2⟩, h3⟩, h4⟩, h5⟩ := h
  refine ⟨eq_of_beq h1, eq_of_beq h2, fun p hp e => ?_, fun p hp e => ?_, fun p hp e => ?_⟩
  · have := h5 p hp
    rw [e] at this; cases this
  · have := h5 p hp
    rw [e] at this
    simp only [Bool.and_eq_true, Bool.or_eq_true] at this
    refine ⟨this.1.elim (fun q => .inl (eq_of_beq q)) fun q => .inr ?_, eq_of_beq this.2⟩
    rw [eq_of_beq q]
    intro hm
    rw [List.contains_iff_mem.mpr hm] at h3
    cases h3
  · have := h5 p hp
    rw [e] at this
    simp only [Bool.or_eq_true] at this
    exact this.elim (fun q => .inl (eq_of_beq q)) fun q => .inr (eq_of_beq q)

theorem FR.cellKind {h : Heap} (fr : FR S X f h env Γ sc ρ) {y : Str} (hy : sc.names.lookup y = some .cell ∨ sc.names.lookup y = some .free) : isCellKind (env.kindOf y) := by
  rcases fr.names y with e | ⟨_, e⟩
  · rw [e]; exact hy
  · exact .inl e

/-- the frame of a comprehension, its variable bound -/
theorem FR.comp {h : Heap} {scope : Scope} {x : Str} {cl : List (Str × Addr)} {D : Addr} {m : Str → Option Value} {v : V} {w : Value} (fr : FR S X f h env Γ sc ρ) (ok : CompOk Γ sc scope x)
    (hcl : ∀ y, (y, NameKind.free) ∈ scope.names → ∃ c, cl.lookup y = some c ∧ env.cells.lookup y = some c) (hD : D ∈ X) (hn : h.Ns D m) (hm : m x = some w) (r : VR S X f h v w) :
    FR S X f h (compEnvC scope cl D env) (Γ ++ [x]) scope (ρ ++ [v]) := by
  have names : ∀ y, (compEnvC scope cl D env).kindOf y = scope.names.lookup y ∨ (scope.names.lookup y = some .free ∧ (compEnvC scope cl D env).kindOf y = some .cell) := fun y => relabel_lookup y
  have freeOf : ∀ y, isCellKind ((compEnvC scope cl D env).kindOf y) → (y, NameKind.free) ∈ scope.names := fun y hy => by
    rcases names y with e | ⟨e, _⟩
    · rw [e] at hy
      rcases hy with e' | e'
      · exact absurd rfl (ok.cell _ (lookup_mem e'))
      · exact lookup_mem e'
    · exact lookup_mem e
  refine ⟨ok.kind, fr.glob, fr.blt, names, ⟨hD, m, hn⟩, fun y hy => ?_, fun y i v' hv hi hv' hne => ?_, by simp [fr.len]⟩
  · obtain ⟨c, e1, e2⟩ := hcl y (freeOf y hy)
    obtain ⟨c', o, e3, e4, e5⟩ := fr.cells y (fr.cellKind (ok.free _ (freeOf y hy) rfl))
    rw [e2] at e3; cases e3
    exact ⟨c, o, e1, e4, e5⟩
  · rw [lastIdx_append] at hi
    by_cases hxy : (x == y) = true
    · rw [if_pos hxy] at hi
      cases hi
      have e := eq_of_beq hxy
      subst e
      rw [← fr.len, List.getElem?_append_right (Nat.le_refl _)] at hv'
      simp at hv'
      subst hv'
      refine ⟨w, .inl ⟨?_, m, hn, hm⟩, r⟩
      rcases names x with e | ⟨e, _⟩
      · exact e.trans ok.self
      · rw [ok.self] at e; cases e
    · rw [if_neg hxy] at hi
      have hlt := lastIdx_lt hi
      rw [List.getElem?_append_left (by rw [fr.len]; exact hlt)] at hv'
      have hfree : (y, NameKind.free) ∈ scope.names := by
        unfold isVar at hv
        split at hv
        · rename_i e
          rcases (ok.loc _ (lookup_mem e) rfl).1 with e' | e'
          · exact absurd (by rw [show x = y from e'.symm]; simp) hxy
          · exact absurd (lastIdx_mem hi) e'
        · rename_i e; exact absurd rfl (ok.cell _ (lookup_mem e))
        · rename_i e; exact lookup_mem e
        · cases hv
      have hsc := ok.free _ hfree rfl
      have hv2 : isVar sc y = true := by
        unfold isVar
        rcases hsc with e | e <;> simp only at e <;> rw [e]
      obtain ⟨w', n, r'⟩ := fr.vals y i v' hv2 hi hv' hne
      obtain ⟨c, e1, e2⟩ := hcl y hfree
      refine ⟨w', .inr ⟨?_, c, e1, ?_⟩, r'⟩
      · rcases names y with e | ⟨_, e⟩
        · rw [e]
          unfold isVar at hv
          split at hv
          · rename_i e'
            rcases (ok.loc _ (lookup_mem e') rfl).1 with e'' | e''
            · exact absurd (by rw [show x = y from e''.symm]; simp) hxy
            · exact absurd (lastIdx_mem hi) e''
          · rename_i e'; exact .inl e'
          · rename_i e'; exact .inr e'
          · cases hv
        · exact .inl e
      · rcases n with ⟨k1, _⟩ | ⟨_, c', e3, e4⟩
        · have := fr.cellKind hsc
          rw [k1] at this
          rcases this with h | h <;> cases h
        · rw [e2] at e3; cases e3; exact e4

/-- the frame stays where what it stands on stays -/
theorem FR.keepY (fr : FR S X f s.heap env Γ sc ρ) (hXf : ∀ a ∈ X, a ∉ addrs f) (k : Kp f Y s s') (hg : Fresh g s) (hYX : ∀ a ∈ Y, a ∈ X) (hl : env.locals ∉ Y) (hc : ∀ x c, isCellKind (env.kindOf x) → env.cells.lookup x = some c → c ∉ Y) : FR S X (f ++ g) s'.heap env Γ sc ρ := by
  have hcf : ∀ x c, env.cells.lookup x = some c → isCellKind (env.kindOf x) → c ∉ addrs f := fun x c e hk => by
    obtain ⟨c', o, e', hX, _⟩ := fr.cells x hk
    rw [e] at e'; cases e'
    exact hXf c hX
  refine ⟨fr.kind, fr.glob, fr.blt, fr.names, ⟨fr.loc.1, let ⟨m, h⟩ := fr.loc.2; ⟨m, kp_ns k (hXf _ fr.loc.1) hl h⟩⟩, fun x hx => ?_, fun x i v h1 h2 h3 h4 => ?_, fr.len⟩
  · obtain ⟨c, o, e, hX, h⟩ := fr.cells x hx
    exact ⟨c, o, e, hX, kp_cell k (hcf x c e hx) (hc x c hx e) h⟩
  · obtain ⟨w, h5, h6⟩ := fr.vals x i v h1 h2 h3 h4
    exact ⟨w, h5.keep k ⟨hXf _ fr.loc.1, hl⟩ fun x c e hk => ⟨hcf x c e hk, hc x c hk e⟩, h6.keepK k hg hYX⟩

theorem FR.hideNew (fr : FR S X f s.heap env Γ sc ρ) (e : Ext s s') (hn : s.heap.get? a = none) : FR S (a :: X) f s'.heap env Γ sc ρ := by
  have ns : ∀ {b : Addr} {m : Str → Option Value}, s.heap.Ns b m → s'.heap.Ns b m := fun h => by
    obtain ⟨o, es, ep, ho, r⟩ := h
    exact ⟨o, es, ep, e.keep _ _ ho, r⟩
  have cl : ∀ {b : Addr} {m : Option Value}, s.heap.IsCell b m → s'.heap.IsCell b m := fun h => by
    obtain ⟨o, ho, r⟩ := h
    exact ⟨o, e.keep _ _ ho, r⟩
  refine ⟨fr.kind, fr.glob, fr.blt, fr.names, ⟨List.mem_cons_of_mem _ fr.loc.1, let ⟨m, h⟩ := fr.loc.2; ⟨m, ns h⟩⟩, fun x hx => ?_, fun x i v h1 h2 h3 h4 => ?_, fr.len⟩
  · obtain ⟨c, o, e1, hX, h⟩ := fr.cells x hx
    exact ⟨c, o, e1, List.mem_cons_of_mem _ hX, cl h⟩
  · obtain ⟨w, h5, h6⟩ := fr.vals x i v h1 h2 h3 h4
    refine ⟨w, ?_, VR.keep (fun _ _ e => e) (fun b ob q h1 h2 => ⟨⟨h1, fun h => (List.mem_cons.mp h).elim (fun h => by subst h; rw [hn] at q; cases q) h2⟩, ob, e.keep b ob q, .refl ob⟩) v w h6⟩
    rcases h5 with ⟨k, m, h7, h8⟩ | ⟨k, c, h7, h8⟩
    · exact .inl ⟨k, m, ns h7, h8⟩
    · exact .inr ⟨k, c, h7, cl h8⟩

theorem Cx.ext {fr : Option Addr} (c : Cx S A q d f s.heap fr) (e : Ext s s') : Cx S A q d f s'.heap fr := by
  have := c.keep (g := []) (Y := []) (e.kp f []) (.nil s)
  rwa [List.append_nil] at this

theorem St.hide {o : Obj} (st : St S q d Γ sc env ρ f X σ s A) (e : Ext s s') (hn : s.heap.get? a = none) (hl : s'.heap.get? a = some o) : St S q d Γ sc env ρ f (a :: X) σ s' A :=
  ⟨st.cx.ext e, st.fr.hideNew e hn, st.lk.hideNew e hn hl⟩

/-- a calm step -/
theorem Sim.calm {α β γ : Type} {P : α → β → List Loc → Shared → Prop} {t : Sem α} {r : R β} {rk : β → Sto → R γ} (h : Sim S A X Y f P t r s) (hne : r.calm.bind rk ≠ .stuck) :
    ∃ b σ', r = .ok b σ' ∧ r.calm.bind rk = rk b σ' ∧ rk b σ' ≠ .stuck ∧ ∀ E, wpAny (model S.prog S.w) A t (fun a s' => ∃ g, Fresh g s ∧ Kp f Y s s' ∧ Lk S X (f ++ g) σ' s'.heap ∧ P a b (f ++ g) s') E s := by
  cases r with
  | ok b σ' =>
    refine ⟨b, σ', rfl, rfl, hne, fun E => wpAny_mono (h (by simp)) (fun a s' q => ?_) fun e s' q => ?_⟩
    · obtain ⟨b', σ'', g, e, hg, k, L, p⟩ := q
      cases e
      exact ⟨g, hg, k, L, p⟩
    · obtain ⟨_, _, _, _, _, e, _⟩ := q; cases e
  | exc _ _ => exact absurd rfl hne
  | stuck => exact absurd rfl hne
end
end Mine
end

/-! # CompS3 -/
section
set_option autoImplicit false
namespace Mine
open PySem PyProof.Rows

section
variable {S : Stat} {C : Ctx} {T : Nat → Option Fn} {F : Calls} {q : Bool} {d : Nat} {Γ : List Str} {sc : Scope}
variable {X X' Y Z : List Addr} {f g : List Loc} {σ : Sto} {s s' : Shared} {A : Around} {E : Value → Shared → Prop} {I a : Addr} {its : Items} {i : Nat} {env : Env} {ρ : List V}

/-- the frame at a later state, with new things hidden -/
theorem FR.later (fr : FR S X f s.heap env Γ sc ρ) (L : Lk S X f σ s.heap) (k : Kp f [] s s') (hg : Fresh g s) (hX' : ∀ a ∈ X', a ∈ X ∨ s.heap.get? a = none) (hXX : ∀ a ∈ X, a ∈ X') : FR S X' (f ++ g) s'.heap env Γ sc ρ := by
  have fr' : FR S X' f s.heap env Γ sc ρ := ⟨fr.kind, fr.glob, fr.blt, fr.names, ⟨hXX _ fr.loc.1, fr.loc.2⟩, fun x hx => (by obtain ⟨c, o, e, hX, h⟩ := fr.cells x hx; exact ⟨c, o, e, hXX c hX, h⟩),
    fun x i v h1 h2 h3 h4 => (by obtain ⟨w, h5, h6⟩ := fr.vals x i v h1 h2 h3 h4; exact ⟨w, h5, h6.more hX'⟩), fr.len⟩
  exact fr'.keepY (fun a ha => (hX' a ha).elim (fun h => (L.hid a h).2.1) fun h => (L.new h).1) k hg (fun a h => nomatch h) (fun h => nomatch h) fun _ _ _ _ h => nomatch h

theorem iter_self {Q : Value → Shared → Prop} (x : ItAt S X f s.heap I its i) (h : Q (.ref I) s) : wpAny (model S.prog S.w) A (pyIter (.ref I)) Q E s := by
  cases its with
  | now xs =>
    rcases x with ⟨ax, items, n, h1, h2, h3, h4⟩ | ⟨ax, items, n, h1, h2, h3, h4⟩ | ⟨lo, hi, rfl, h2⟩ | ⟨y, t, rfl, h2, h3⟩
    · exact wpAny_pyIter_listiter h1 h
    · exact wpAny_pyIter_tupleiter h1 h
    · exact wpAny_pyIter_rangeiter h2 h
    · exact wpAny_pyIter_striter_ascii h3 h
  | live n => obtain ⟨ax, h1, h2⟩ := x; exact wpAny_pyIter_listiter h2 h
  | keys _ _ => exact x.elim

theorem Kp.mv {s₁ : Shared} (k : Kp f Y s s₁) (m : Mv a s₁ s') (hn : s.heap.get? a = none) : Kp f Y s s' :=
  k.ends (Z := [a]) m.rest (fun b o hb e => m.keep b o (fun q => hb (q ▸ List.mem_singleton.mpr rfl)) e) fun b hb => List.mem_singleton.mp hb ▸ hn

/-- one turn of a comprehension, in the core -/
noncomputable def compStep (F : Calls) (q : Bool) (elt : CE) (cond : Option CE) (ρ : List V) (x : V) (acc : List V) (σ : Sto) : R (List V) :=
  (evC F q cond (ρ ++ [x]) σ).calm.bind fun t σ => if t then (evE F q elt (ρ ++ [x]) σ).calm.bind fun y σ => (if acc.length < LIM then .ok (acc ++ [y]) σ else .stuck) else .ok acc σ

/-- what holds at a turn -/
structure Turn (S : Stat) (s : Shared) (X : List Addr) (f : List Loc) (N D I : Addr) (its : Items) (i : Nat) (acc : List V) (σ' : Sto) (g : List Loc) (m : Str → Option Value) (ys : Array Value) (n : Nat) (s' : Shared) : Prop where
  fresh : Fresh g s
  kp : Kp f [] s s'
  lk : Lk S (N :: D :: I :: X) (f ++ g) σ' s'.heap
  it : ItAt S (N :: D :: I :: X) (f ++ g) s'.heap I its i
  ns : s'.heap.Ns N m
  il : IsL s'.heap D ys n
  vs : VRs S (N :: D :: I :: X) (f ++ g) s'.heap acc ys.toList
  len : acc.length ≤ LIM

theorem comp_loop {scope : Scope} {x : Str} {px pos : Pos} {elt iter : Expr} {ifs : List Expr} {ce : CE} {cond : Option CE} {cl : List (Str × Addr)} {N D : Addr} {R' : Result → Shared → Prop} {s₄ : Shared}
    (st : St S q d Γ sc env ρ f X σ s A) (hh : A.handled = none) (ok : CompOk Γ sc scope x) (hcl : ∀ y, (y, NameKind.free) ∈ scope.names → ∃ c, cl.lookup y = some c ∧ env.cells.lookup y = some c)
    (hcond : (ifs = [] ∧ cond = none) ∨ ∃ e c, ifs = [e] ∧ cond = some c ∧ TOk S F q d (Γ ++ [x]) scope e c) (helt : EOk S F q d (Γ ++ [x]) scope elt ce)
    (hN : s.heap.get? N = none) (hD : s.heap.get? D = none) (hI : s.heap.get? I = none) (hND : N ≠ D) (hNI : N ≠ I) (hDI : D ≠ I)
    {total : R (List V)} (hne : total ≠ .stuck) {fuel : Nat} {acc₀ : List V} {σ₀ : Sto} (h0 : foldIt its (compStep F q ce cond ρ) fuel 0 acc₀ σ₀ = total) {g₀ : List Loc} {m₀ : Str → Option Value} {ys₀ : Array Value} {n₀ : Nat} (t0 : Turn S s X f N D I its 0 acc₀ σ₀ g₀ m₀ ys₀ n₀ s₄)
    (hR : ∀ acc σ' g m ys n s', total = .ok acc σ' → Fresh g s → Kp f [] s s' → Lk S (N :: D :: X) (f ++ g) σ' s'.heap → s'.heap.Ns N m → IsL s'.heap D ys n → VRs S (N :: D :: X) (f ++ g) s'.heap acc ys.toList → acc.length ≤ LIM → R' (.ok .next) s') :
    codeAny (model S.prog S.w) A (.compLoop (.ListComp elt [⟨.Name x px, iter, ifs, 0⟩] scope pos) 0 (.ref I) (.ref D) (compEnvC scope cl N env)) R' s₄ := by
  refine codeAny_compLoop_tests (fun k s' => ∃ i acc σ' g m ys n, foldIt its (compStep F q ce cond ρ) k i acc σ' = total ∧ Turn S s X f N D I its i acc σ' g m ys n s') ?_ fuel ⟨0, acc₀, σ₀, g₀, m₀, ys₀, n₀, h0, t0⟩
  rintro k s' ⟨i, acc, σ', g, m, ys, n, hf, t⟩
  cases k with
  | zero => rw [foldIt] at hf; exact absurd hf.symm hne
  | succ k =>
  rw [foldIt] at hf
  have hIX : I ∈ N :: D :: I :: X := by simp
  have hNX : N ∈ N :: D :: I :: X := by simp
  have hDX : D ∈ N :: D :: I :: X := by simp
  cases hnx : nextIt σ' its i with
  | none => rw [hnx] at hf; exact absurd hf.symm hne
  | some o =>
  rw [hnx] at hf
  cases o with
  | none =>
    refine wpAny_mono (next_end hh t.lk t.it hnx) (fun r s₁ h₁ => ?_) fun _ _ x => x
    obtain ⟨rfl, hr, hk⟩ := h₁
    have hk' : ∀ b o, b ∉ [I] → s'.heap.get? b = some o → s₁.heap.get? b = some o := fun b o hb e => hk b o (fun q => hb (q ▸ List.mem_singleton.mpr rfl)) e
    obtain ⟨on, es, ep, e1, e2⟩ := t.ns
    have hXd : ∀ a ∈ N :: D :: X, a ∈ N :: D :: I :: X := fun a ha => by simp at ha ⊢; rcases ha with h | h | h <;> simp [h]
    have hIn : I ∉ X := fun h => by obtain ⟨o, e⟩ := (st.lk.hid I h).2.2; rw [hI] at e; cases e
    have hf : R.ok acc σ' = total := hf
    refine hR acc σ' g m ys n s₁ hf.symm t.fresh (t.kp.ends (Z := [I]) hr hk' fun b hb => List.mem_singleton.mp hb ▸ hI) (t.lk.drop (Z := [I]) (fun a ha => ⟨hXd a ha, fun h => ?_⟩) (fun a ha => List.mem_singleton.mp ha ▸ hIX) hk') ⟨on, es, ep, hk N on hNI e1, e2⟩ (hk D _ hDI t.il) (VRs.drop (Z := [I]) hXd (fun a ha => List.mem_singleton.mp ha ▸ hIX) hk' t.vs) t.len
    have := List.mem_singleton.mp h
    subst this
    simp at ha
    rcases ha with h | h | h
    · exact hNI h.symm
    · exact hDI h.symm
    · exact hIn h
  | some x' =>
  have hf : (compStep F q ce cond ρ x' acc σ').bind (fun b σ => foldIt its (compStep F q ce cond ρ) k (i + 1) b σ) = total := hf
  refine wpAny_mono (next_item hIX t.lk t.it hnx) (fun r s₁ h₁ => ?_) fun _ _ x => x
  obtain ⟨v, rfl, m1, it1, rv⟩ := h₁
  obtain ⟨on, es, ep, e1, e2⟩ := t.ns
  have ns1 : s₁.heap.Ns N m := ⟨on, es, ep, m1.keep N on hNI e1, e2⟩
  have hxk : (compEnvC scope cl N env).kindOf x = some .local := by
    rcases relabel_lookup (env := env) (scope := scope) x with e | ⟨e, _⟩
    · exact e.trans ok.self
    · rw [ok.self] at e; cases e
  refine wpAny_assign_Name (wpAny_storeName_local hxk ns1 (fun h₂ hn₂ hs₂ => ?_) (by simp [compEnvC, relabel, ok.kind]))
  have m2 : Mv N s₁ { s₁ with heap := h₂, toks := s₁.toks + 1 } := by
    obtain ⟨o2, es2, ep2, e3, e4, _⟩ := id hn₂
    exact ⟨rfl, fun b o hb e => (hs₂.2 b hb).trans e, ⟨o2, e3⟩, fun _ _ _ _ _ => ⟨o2, es2, ep2, e3, e4⟩⟩
  generalize hs₂' : ({ s₁ with heap := h₂, toks := s₁.toks + 1 } : Shared) = s₂ at m2 ⊢
  have hh₂ : s₂.heap = h₂ := by rw [← hs₂']
  rw [← hh₂] at hn₂
  have lk2 := m2.lk hNX (m1.lk hIX t.lk)
  have it2 := it1.mv m2 hNX (Ne.symm hNI)
  have kp2 : Kp f [] s s₂ := (t.kp.mv m1 hI).mv m2 hN
  have hX' : ∀ a ∈ N :: D :: I :: X, a ∈ X ∨ s.heap.get? a = none := fun a ha => by
    simp at ha
    rcases ha with rfl | rfl | rfl | h
    · exact .inr hN
    · exact .inr hD
    · exact .inr hI
    · exact .inl h
  have fr2 := (st.fr.later st.lk kp2 t.fresh hX' fun a ha => by simp [ha]).comp ok hcl hNX hn₂ (by simp) (m2.vr hNX rv)
  have cx2 : Cx S A q d (f ++ g) s₂.heap env.frame := st.cx.keep kp2 t.fresh
  have st2 : St S q d (Γ ++ [x]) scope (compEnvC scope cl N env) (ρ ++ [x']) (f ++ g) (N :: D :: I :: X) σ' s₂ A := ⟨cx2, fr2, lk2⟩
  have il2 : IsL s₂.heap D ys n := m2.keep D _ (Ne.symm hND) (m1.keep D _ hDI t.il)
  have vs2 := m2.vrs hNX (m1.vrs hIX t.vs)
  have hns : compStep F q ce cond ρ x' acc σ' ≠ .stuck := fun e => hne (by rw [← hf, e]; rfl)
  -- the tests
  have tests : Sim S A (N :: D :: I :: X) [] (f ++ g) (fun b t _ _ => b = t) (forIn ifs true fun c r => if r = true then do let ok ← isTrue c (compEnvC scope cl N env) (eval c (compEnvC scope cl N env)); pure (ForInStep.yield ok) else pure (ForInStep.yield r)) (evC F q cond (ρ ++ [x']) σ') s₂ := by
    rcases hcond with ⟨rfl, rfl⟩ | ⟨e, c, rfl, rfl, ht⟩
    · intro _
      rw [evC]
      exact wpAny_tests_nil (QS.bool lk2 (.refl s₂))
    · intro hn
      rw [evC] at hn ⊢
      exact wpAny_tests_one (ht _ _ _ _ _ _ _ st2 hn)
  unfold compStep at hns hf
  obtain ⟨b, σ₃, hb, hbk, hns2, wt⟩ := Sim.calm tests hns
  rw [hbk] at hf
  refine wpAny_mono (wt _) (fun ok' s₃ h₃ => ?_) fun _ _ x => x
  obtain ⟨g3, hg3, k3, lk3, hbe⟩ := h₃
  have hbe : ok' = b := hbe
  subst hbe
  have hXf : ∀ a ∈ N :: D :: I :: X, a ∉ addrs (f ++ g) := fun a ha => (lk2.hid a ha).2.1
  have it3 := it2.keepK k3 hg3 hIX hXf
  have kp3 : Kp f [] s s₃ := kp2.trans t.fresh k3
  have fg3 : Fresh (g ++ g3) s := t.fresh.trans kp2.live hg3
  have keepO : ∀ {s s' : Shared} {f : List Loc} {a : Addr} {o : Obj}, Kp f [] s s' → a ∉ addrs f → (∀ es n, o.data ≠ .dict es n) → s.heap.get? a = some o → s'.heap.get? a = some o := fun k h1 h2 e => by
    obtain ⟨o', e', q⟩ := k.kept _ _ e h1 (fun h => nomatch h)
    rw [e', q.exact h2]
  have il3 : IsL s₃.heap D ys n := keepO k3 (hXf D hDX) (fun _ _ h => by cases h) il2
  have ns3 := kp_ns k3 (hXf N hNX) (fun h => nomatch h) hn₂
  have vs3 := VRs.keepK k3 hg3 (fun _ h => nomatch h) vs2
  rw [List.append_assoc] at lk3 it3 vs3
  cases ok' with
  | false => exact ⟨k, Nat.lt_succ_self k, i + 1, acc, σ₃, g ++ g3, _, ys, n, hf, fg3, kp3, lk3, it3, ns3, il3, vs3, t.len⟩
  | true =>
    have hns2 : ((evE F q ce (ρ ++ [x']) σ₃).calm.bind fun y σ => (if acc.length < LIM then R.ok (acc ++ [y]) σ else .stuck)) ≠ .stuck := hns2
    have hf : (((evE F q ce (ρ ++ [x']) σ₃).calm.bind fun y σ => (if acc.length < LIM then R.ok (acc ++ [y]) σ else .stuck)).bind fun b σ => foldIt its (compStep F q ce cond ρ) k (i + 1) b σ) = total := hf
    have st3 : St S q d (Γ ++ [x]) scope (compEnvC scope cl N env) (ρ ++ [x']) ((f ++ g) ++ g3) (N :: D :: I :: X) σ₃ s₃ A := st2.keep hg3 k3 (by rw [List.append_assoc]; exact lk3)
    rw [List.append_assoc] at st3
    obtain ⟨y, σ₄, hy, hyk, hns3, we⟩ := Sim.calm (helt _ _ _ _ _ _ _ st3) hns2
    rw [hyk] at hf
    by_cases hlen : acc.length < LIM
    · rw [if_pos hlen] at hf
      show wpAny _ _ _ _ _ _
      refine wpAny_mono (we _) (fun yv s₄' h₄ => ?_) fun _ _ x => x
      obtain ⟨g4, hg4, k4, lk4, ry⟩ := h₄
      have ry : VR S (N :: D :: I :: X) ((f ++ (g ++ g3)) ++ g4) s₄'.heap y yv := ry
      have hXf3 : ∀ a ∈ N :: D :: I :: X, a ∉ addrs (f ++ (g ++ g3)) := fun a ha => (lk3.hid a ha).2.1
      have it4 := it3.keepK k4 hg4 hIX hXf3
      have kp4 : Kp f [] s s₄' := kp3.trans fg3 k4
      have fg4 : Fresh ((g ++ g3) ++ g4) s := fg3.trans kp3.live hg4
      have il4 : IsL s₄'.heap D ys n := keepO k4 (hXf3 D hDX) (fun _ _ h => by cases h) il3
      have ns4 := kp_ns k4 (hXf3 N hNX) (fun h => nomatch h) ns3
      have vs4 := VRs.keepK k4 hg4 (fun _ h => nomatch h) vs3
      rw [List.append_assoc] at lk4 it4 vs4 ry
      have hsz : ys.size ≤ sizeLine := by rw [VRs_size vs4]; exact Nat.le_trans t.len lim_size
      refine append_raw il4 ?_ hsz
      obtain ⟨n', il5⟩ := IsL.appended (x := yv) il4
      have m5 : Mv D s₄' { s₄' with heap := s₄'.heap.update D (Obj.mapSeq (·.push yv)) } :=
        ⟨rfl, fun b o hb e => (Heap.get?_update_other _ _ (Ne.symm hb)).trans e, ⟨_, il5⟩, fun o es n e dd => by rw [il4] at e; cases e; cases dd⟩
      obtain ⟨on4, es4, ep4, e5, e6⟩ := ns4
      refine ⟨k, Nat.lt_succ_self k, i + 1, acc ++ [y], σ₄, (g ++ g3) ++ g4, _, ys.push yv, n', hf, fg4, kp4.mv m5 hD, m5.lk hDX lk4, it4.mv m5 hDX (Ne.symm hDI), ⟨on4, es4, ep4, m5.keep N on4 hND e5, e6⟩, il5, ?_, ?_⟩
      · rw [Array.toList_push]
        exact VRs_append (m5.vrs hDX vs4) (by rw [VRs, VRs]; exact ⟨m5.vr hDX ry, trivial⟩)
      · rw [List.length_append]; exact hlen
    · rw [if_neg hlen] at hns3; exact absurd rfl hns3
end
end Mine
end

/-! # CompS4 -/
section
set_option autoImplicit false
namespace Mine
open PySem PyProof.Rows

section
variable {S : Stat} {C : Ctx} {T : Nat → Option Fn} {F : Calls} {q : Bool} {d : Nat} {Γ : List Str} {sc : Scope}
variable {X X' Y Z : List Addr} {f g : List Loc} {σ : Sto} {s s' : Shared} {A : Around} {E : Value → Shared → Prop} {I a : Addr} {its : Items} {i : Nat} {env : Env} {ρ : List V}

/-- a comprehension, from its iterator on -/
theorem comp_block {scope : Scope} {x : Str} {px pos : Pos} {elt iter : Expr} {ifs : List Expr} {ce : CE} {cond : Option CE} {cl : List (Str × Addr)} {RR : Value → Addr → Result → Shared → Prop} {s₂ : Shared} {σ₁ : Sto}
    (st : St S q d Γ sc env ρ f X σ s A) (hh : A.handled = none) (ok : CompOk Γ sc scope x) (hcl : ∀ y, (y, NameKind.free) ∈ scope.names → ∃ c, cl.lookup y = some c ∧ env.cells.lookup y = some c)
    (hcond : (ifs = [] ∧ cond = none) ∨ ∃ e c, ifs = [e] ∧ cond = some c ∧ TOk S F q d (Γ ++ [x]) scope e c) (helt : EOk S F q d (Γ ++ [x]) scope elt ce)
    (hI : s.heap.get? I = none) (hg : Fresh g s) (k : Kp f [] s s₂) (L : Lk S (I :: X) (f ++ g) σ₁ s₂.heap) (x0 : ItAt S (I :: X) (f ++ g) s₂.heap I its 0)
    (hne : foldItems its (compStep F q ce cond ρ) [] σ₁ ≠ .stuck)
    (hR : ∀ N D acc σ' g m ys n s', s.heap.get? N = none → s.heap.get? D = none → N ≠ D → foldItems its (compStep F q ce cond ρ) [] σ₁ = .ok acc σ' → Fresh g s → Kp f [] s s' → Lk S (N :: D :: X) (f ++ g) σ' s'.heap → s'.heap.Ns N m → IsL s'.heap D ys n → VRs S (N :: D :: X) (f ++ g) s'.heap acc ys.toList → acc.length ≤ LIM → RR (.ref D) N (.ok .next) s') :
    wpAny (model S.prog S.w) A (newList []) (fun acc s₃ => wpAny (model S.prog S.w) A (newFunctionEnv scope env.globals cl [] env.qual none .none (some env)) (fun cenv s₄ =>
      codeAny (model S.prog S.w) A (.compStart (.ListComp elt [⟨.Name x px, iter, ifs, 0⟩] scope pos) 0 (.ref I) acc { cenv with scope := relabel scope env }) (RR acc cenv.locals) s₄) E s₃) E s₂ := by
  refine wpAny_newObj_type (wpAny_newFunctionEnv ok.cell (by intro y hy; simp at hy) (fun h₁ hns₁ hsb₁ => ?_) ok.kind)
  dsimp only at hns₁ hsb₁ ⊢
  generalize hH2 : s₂.heap.push { cls := .type "list", dict := none, data := .seq ([] : List Value).toArray } = H2 at hns₁ hsb₁ ⊢
  have hsz : H2.objs.size = s₂.heap.objs.size + 1 := by rw [← hH2, Heap.size_push]
  have hND : H2.objs.size ≠ s₂.heap.objs.size := by rw [hsz]; omega
  -- the two steps
  have ex1 : Ext s₂ { s₂ with heap := H2 } := ⟨rfl, fun b o e => hH2 ▸ Heap.get?_push_of_some _ e⟩
  have nD : s₂.heap.get? s₂.heap.objs.size = none := size_new _
  have lD : H2.get? s₂.heap.objs.size = some { cls := .type "list", dict := none, data := .seq ([] : List Value).toArray } := hH2 ▸ Heap.get?_push_size _ rfl
  have nN : H2.get? H2.objs.size = none := size_new _
  have ex2 : Ext { s₂ with heap := H2 } { s₂ with heap := h₁, toks := s₂.toks + ([] : List (Str × Value)).length } := ⟨rfl, fun b o e => (hsb₁.2 b (fun q => by subst q; rw [nN] at e; cases e)).trans (Heap.get?_push_of_some _ e)⟩
  obtain ⟨oN, esN, epN, eN, _⟩ := id hns₁
  have L1 : Lk S (s₂.heap.objs.size :: I :: X) (f ++ g) σ₁ H2 := L.hideNew ex1 nD lD
  have it1 := x0.hideNew (s' := { s₂ with heap := H2 }) ex1 nD
  have L2 : Lk S (H2.objs.size :: s₂.heap.objs.size :: I :: X) (f ++ g) σ₁ h₁ := Lk.hideNew (s := { s₂ with heap := H2 }) (s' := { s₂ with heap := h₁, toks := s₂.toks + ([] : List (Str × Value)).length }) L1 ex2 nN eN
  have it2 := ItAt.hideNew (s := { s₂ with heap := H2 }) (s' := { s₂ with heap := h₁, toks := s₂.toks + ([] : List (Str × Value)).length }) ex2 nN it1
  have k2 : Kp f [] s { s₂ with heap := h₁, toks := s₂.toks + ([] : List (Str × Value)).length } := k.trans hg ((ex1.trans ex2).kp _ _)
  have hD : s.heap.get? s₂.heap.objs.size = none := new_back k.live nD
  have hN : s.heap.get? H2.objs.size = none := new_back k.live (Heap.get?_none_of_le (by rw [hsz]; omega))
  have lI : ∃ o, s₂.heap.get? I = some o := (L.hid I (by simp)).2.2
  have hDI : s₂.heap.objs.size ≠ I := fun q => by obtain ⟨o, e⟩ := lI; rw [← q, nD] at e; cases e
  have hNI : H2.objs.size ≠ I := fun q => by obtain ⟨o, e⟩ := lI; rw [← q, Heap.get?_none_of_le (by rw [hsz]; omega)] at e; cases e
  have turn : Turn S s X f H2.objs.size s₂.heap.objs.size I its 0 [] σ₁ g (fun x => ([] : List (Str × Value)).reverse.lookup x) #[] 0 { s₂ with heap := h₁, toks := s₂.toks + ([] : List (Str × Value)).length } :=
    ⟨hg, k2, L2, it2, hns₁, ex2.keep _ _ lD, (by show VRs S _ _ h₁ [] []; rw [VRs]; trivial), by simp⟩
  have loop : codeAny (model S.prog S.w) A (.compLoop (.ListComp elt [⟨.Name x px, iter, ifs, 0⟩] scope pos) 0 (.ref I) (.ref s₂.heap.objs.size) (compEnvC scope cl H2.objs.size env)) (RR (.ref s₂.heap.objs.size) H2.objs.size) { s₂ with heap := h₁, toks := s₂.toks + ([] : List (Str × Value)).length } :=
    comp_loop st hh ok hcl hcond helt hN hD hI hND hNI hDI hne rfl turn fun acc σ' g m ys n s' e1 e2 e3 e4 e5 e6 e7 e8 => hR _ _ acc σ' g m ys n s' hN hD hND e1 e2 e3 e4 e5 e6 e7 e8
  exact codeAny_compStart_list loop (iter_self it2 loop)

theorem FR.closure {scope : Scope} {x : Str} {h : Heap} (fr : FR S X f h env Γ sc ρ) (ok : CompOk Γ sc scope x) : ∃ cl, closureFor scope env = pure cl ∧ ∀ y, (y, NameKind.free) ∈ scope.names → ∃ c, cl.lookup y = some c ∧ env.cells.lookup y = some c :=
  closure_of fun n hn => by
    obtain ⟨c, o, e, _⟩ := fr.cells n (fr.cellKind (ok.free _ hn rfl))
    exact ⟨c, e⟩

theorem comp_value {elt : CE} {k : SK} {cs : List CE} {cond : Option CE} (hq : q = false) : evE F q (.comp elt k cs cond) ρ σ = ((evL F q cs ρ σ).bind fun vs σ => R.lift σ (itemsBy σ k vs)).bind fun its σ => (foldItems its (compStep F q elt cond ρ) [] σ).bind fun acc σ => .ok (.lst acc) σ := by
  subst hq
  rw [evE, if_neg (by simp), R.bind_assoc]
  rfl

theorem ok_comp {scope : Scope} {x : Str} {px pos : Pos} {elt iter : Expr} {ifs : List Expr} {ce : CE} {cond : Option CE} {k : SK} {cs : List CE} (ok : CompOk Γ sc scope x) (hsrc : SrcOk S F q d Γ sc iter k cs)
    (hcond : (ifs = [] ∧ cond = none) ∨ ∃ e c, ifs = [e] ∧ cond = some c ∧ TOk S F q d (Γ ++ [x]) scope e c) (helt : EOk S F q d (Γ ++ [x]) scope elt ce) :
    NOk S F q d Γ sc (.ListComp elt [⟨.Name x px, iter, ifs, 0⟩] scope pos) (.comp ce k cs cond) := fun env ρ f X σ s A st hne => by
  have hq : q = false := by
    cases q with
    | false => rfl
    | true => rw [evE] at hne; simp at hne
  rw [comp_value hq] at hne ⊢
  obtain ⟨cl, hclos, hcl⟩ := st.fr.closure ok
  rw [eval_ListComp]
  refine wpAny_comprehension_free (g := ⟨.Name x px, iter, ifs, 0⟩) (gs := []) rfl (hsrc.1 env) hclos ok.kind (fun p hp e => (ok.loc p hp e).2) ?_
  have hr : ((evL F q cs ρ σ).bind fun vs σ => R.lift σ (itemsBy σ k vs)) ≠ .stuck := fun e => hne (by rw [e]; rfl)
  refine wpAny_mono (hsrc.2 env ρ f X σ s A st hr) (fun xv s₁ h₁ => wpAny_mono h₁ (fun it s₂ h₂ => ?_) fun e s' h => ?_) fun e s' h => ?_
  · obtain ⟨its, σ₁, g, I, e1, rfl, hI, hIX, hg, kk, L, x0⟩ := h₂
    rw [e1, R.bind_ok] at hne ⊢
    have hne2 : foldItems its (compStep F q ce cond ρ) [] σ₁ ≠ .stuck := fun e => hne (by rw [e]; rfl)
    refine comp_block st (st.cx.hand hq) ok hcl hcond helt hI hg kk L x0 hne2 fun N D acc σ' g' m ys n s' hN hD hND e2 hg' k' L' hns il vs hlen => ?_
    rw [e2]
    refine ⟨m, hns, fun h' hs => ?_⟩
    have hkk : ∀ b o, b ∉ [N] → s'.heap.get? b = some o → h'.get? b = some o := fun b o hb e => (hs.2 b (fun q => hb (q ▸ List.mem_singleton.mpr rfl))).trans e
    have hNX : N ∉ X := (st.lk.new hN).2
    have hDX : D ∉ X := (st.lk.new hD).2
    have LD : Lk S (D :: X) (f ++ g') σ' h' := L'.drop (Z := [N]) (fun a ha => ⟨List.mem_cons_of_mem _ ha, fun h => by
      have := List.mem_singleton.mp h
      subst this
      exact (List.mem_cons.mp ha).elim hND hNX⟩) (fun a ha => List.mem_singleton.mp ha ▸ List.mem_cons_self) hkk
    have vD : VRs S (D :: X) (f ++ g') h' acc ys.toList := VRs.drop (Z := [N]) (fun a ha => List.mem_cons_of_mem _ ha) (fun a ha => List.mem_singleton.mp ha ▸ List.mem_cons_self) hkk vs
    have iD : IsL h' D ys n := (hs.2 D (Ne.symm hND)).trans il
    refine ⟨.lst acc, σ', g', rfl, hg', k'.ends (Z := [N]) rfl hkk (fun b hb => List.mem_singleton.mp hb ▸ hN), LD.less fun a ha => List.mem_cons_of_mem _ ha, ?_, fun xs hxs => ?_⟩
    · rw [VR]
      exact ⟨D, ys, n, rfl, ⟨(LD.hid D List.mem_cons_self).2.1, hDX⟩, iD, vD.less fun a ha => List.mem_cons_of_mem _ ha, hlen⟩
    · cases hxs
      exact ⟨D, ys, n, rfl, hD, hDX, LD, iD, vD, hlen⟩
  · obtain ⟨c, σ', g, ea, e1, e2, r⟩ := h
    exact ⟨c, σ', g, ea, e1, by rw [e2]; rfl, r⟩
  · obtain ⟨c, σ', g, ea, e1, e2, r⟩ := h
    exact ⟨c, σ', g, ea, e1, by rw [e2]; rfl, r⟩
end
end Mine
end

/-! # Expr6 -/
section
set_option autoImplicit false
namespace Mine
open PySem PyProof.Rows

section
variable {S : Stat} {C : Ctx} {T : Nat → Option Fn} {F : Calls} {q : Bool} {d : Nat} {Γ : List Str} {sc : Scope}
variable {X X' Y Z : List Addr} {f g : List Loc} {σ : Sto} {s s' : Shared} {A : Around} {E : Value → Shared → Prop} {env : Env} {ρ : List V}

theorem few1 {e : Expr} {pos : Pos} (hs : isStar e = false) : ((backTo pos (starEach [e] env)).all (fun x => !x.1) && (backToKw pos (keywordEach [] env)).all (fun x => x.1.isSome)
      && decide ([e].length + ([] : List Keyword).length + (if ([] : List Keyword).isEmpty then 0 else 1) < 30)) = true := by
  rw [starEach_plain hs]; rfl
theorem few0 {pos : Pos} : ((backTo pos (starEach [] env)).all (fun x => !x.1) && (backToKw pos (keywordEach [] env)).all (fun x => x.1.isSome)
      && decide (([] : List Expr).length + ([] : List Keyword).length + (if ([] : List Keyword).isEmpty then 0 else 1) < 30)) = true := rfl

/-- a tracked list changes -/
theorem upd_list {n : Nat} {ax : Addr} {xs : List V} {vs : Array Value} {k : Nat} {fn : Array Value → Array Value} (L : Lk S X f σ s.heap) (hn : f[n]? = some (ax, none)) (il : IsL s.heap ax vs k) (rs : VRs S X f s.heap xs (fn vs).toList) (hl : xs.length ≤ LIM) :
    Lk S X f (σ.set n (.list xs)) (s.heap.update ax (Obj.mapSeq fn)) ∧ Kp f [] s { s with heap := s.heap.update ax (Obj.mapSeq fn) } := by
  have hs : ∀ b, b ∉ Loc.addrs (ax, none) → (s.heap.update ax (Obj.mapSeq fn)).get? b = s.heap.get? b := fun b hb => Heap.get?_update_other _ _ (fun q => hb (q ▸ List.mem_singleton.mpr rfl))
  have il' := IsL.update il fn
  have hax : ax ∈ addrs f := addrs_of hn (List.mem_singleton.mpr rfl)
  refine ⟨L.upd hn hs ⟨_, _, il', ?_, hl⟩, Kp.upd (t := s.toks) hn hs fun a ha => ⟨_, by have := List.mem_singleton.mp ha; subst this; exact il'⟩⟩
  exact VRs.keep (fun _ _ e => e) (fun b ob q h1 h2 => ⟨⟨h1, h2⟩, ob, (hs b fun z => h1 (List.mem_singleton.mp z ▸ hax)).trans q, .refl ob⟩) _ _ rs

theorem tracked_list {n : Nat} {v : Value} {xs : List V} (L : Lk S X f σ s.heap) (r : VR S X f s.heap (.ref n) v) (ho : σ[n]? = some (.list xs)) : ∃ ax vs k, v = .ref ax ∧ f[n]? = some (ax, none) ∧ IsL s.heap ax vs k ∧ VRs S X f s.heap xs vs.toList ∧ xs.length ≤ LIM := by
  rw [VR] at r
  obtain ⟨⟨ax, dd⟩, hl, rfl⟩ := r
  have := L.obj n _ _ hl ho
  cases dd with
  | none => obtain ⟨vs, k, il, rs, h⟩ := this; exact ⟨ax, vs, k, rfl, hl, il, rs, h⟩
  | some dd => exact this.elim

theorem ok_append {o x : Expr} {a b : CE} {apos pos : Pos} (hb : noSuper o = true) (hp : (apos.endLine == pos.line) = true) (hs : isStar x = false) (ho : EOk S F q d Γ sc o a) (hx : EOk S F q d Γ sc x b) :
    EOk S F q d Γ sc (.Call (.Attribute o ("append" : Str) apos) [x] [] pos) (.append a b) := fun env ρ f X σ s A st hne => by
  rw [evE] at hne ⊢
  refine wpAny_Call_method (base_plain hb) (few1 hs) hp PySem.F.plainAttrs_list slot_list_append type_list_append ?_
  refine Sim.goQ (P' := PV S X) (ho env ρ f X σ s A st) hne (fun _ _ x => x) (fun _ _ x => x) fun va a' σ₁ g₁ s₁ hne hg k L ra hQ hE => ?_
  by_cases hil : isListV σ₁ a' = true
  · rw [if_pos hil] at hne hQ hE
    obtain ⟨xs₁, hxs₁⟩ := Option.isSome_iff_exists.mp hil
    obtain ⟨p, vs, n, rfl, il, rs, hlen⟩ := list_at L hxs₁ ra
    refine ⟨⟨_, il, rfl⟩, fun b hb => ⟨_, by cases hb; exact il, rfl⟩, ?_⟩
    rw [starEach_plain hs]
    show wpAny _ _ (callWith pos (.builtin "list.append") [.ref p] [(false, eval x env)] []) _ _ _
    refine P.append_list ?_
    refine Sim.goQ (P' := PV S X) (hx env ρ _ X σ₁ s₁ A (st.keep hg k L)) hne hQ hE fun vb b' σ₂ g₂ s₂ hne hg₂ k₂ L₂ rb hQ hE => ?_
    have ra₂ := VR.keepK k₂ hg₂ (fun _ h => nomatch h) ra
    cases a' with
    | ref m =>
      simp only [doAppend] at hne hQ
      split at hne
      · rename_i xs hσ
        split at hne
        · rename_i hlt
          rw [hσ] at hQ
          simp only [if_pos hlt] at hQ
          obtain ⟨ax, vs', k', e, hf, il', rs', hlen'⟩ := tracked_list L₂ ra₂ hσ
          cases e
          refine ⟨vs', k', by rw [VRs_size rs']; exact Nat.le_trans hlen' lim_size, il', hQ _ _ ?_⟩
          obtain ⟨L3, k3⟩ := upd_list (fn := fun xs => xs.push vb) (xs := xs ++ [b']) L₂ hf il' (by rw [Array.toList_push]; exact VRs_append rs' (by rw [VRs, VRs]; exact ⟨rb, trivial⟩)) (by rw [List.length_append]; exact hlt)
          exact ⟨.none, _, [], rfl, .nil _, k3, by rw [List.append_nil]; exact L3, (by show VR S X _ _ .none .none; rw [VR])⟩
        · exact absurd rfl hne
      · exact absurd rfl hne
    | _ => exact absurd rfl hne
  · rw [if_neg hil] at hne; exact absurd rfl hne

/-- a method of a text, of one operand -/
theorem ok_sm_by {o x : Expr} {a b : CE} {apos pos : Pos} {m : Str} {id : String} {p : P2} (slot : Slot "str" m id) (hty : typeOf (.builtin id) = pure (.type "method_descriptor"))
    (op : ∀ (X : List Addr) (f : List Loc) (σ : Sto) (s : Shared) (A : Around) (E : Value → Shared → Prop) (a b x : V) (va vb : Value), Lk S X f σ s.heap → ev2 p σ a b = some x → VR S X f s.heap a va → VR S X f s.heap b vb → wpAny (model S.prog S.w) A (call (.builtin id) [va, vb]) (PE S X f s x) E s)
    (hb : noSuper o = true) (hp : (apos.endLine == pos.line) = true) (hs : isStar x = false) (ho : EOk S F q d Γ sc o a) (hx : EOk S F q d Γ sc x b) :
    EOk S F q d Γ sc (.Call (.Attribute o m apos) [x] [] pos) (.sm p a b) := fun env ρ f X σ s A st hne => by
  rw [evE] at hne ⊢
  refine wpAny_Call_method (base_plain hb) (few1 hs) hp PySem.F.plainAttrs_str slot hty ?_
  refine Sim.goN (ho env ρ f X σ s A st) hne (fun _ _ x => x.qs) (fun _ _ x => x) fun va a' σ₁ g₁ s₁ hne hg k L ra hQ hE => ?_
  by_cases hil : (strOf? a').isSome = true
  · rw [if_pos hil] at hne hQ hE
    obtain ⟨y, hy⟩ := Option.isSome_iff_exists.mp hil
    cases a' <;> cases hy
    obtain ⟨⟨t, rfl⟩, _⟩ := vr_str ra
    refine ⟨typeIs_str _ _ _, (fun _ e => nomatch e), callWith_any (spliced_noStar _ (by rw [List.any_cons, hs]; rfl)) (spliced1 hs ?_)⟩
    refine Sim.goN (hx env ρ _ X σ₁ s₁ A (st.keep hg k L)) hne hQ hE fun vb b' σ₂ g₂ s₂ hne hg₂ k₂ L₂ rb hQ hE => ?_
    obtain ⟨x, hx⟩ := lift_ok hne
    rw [hx] at hQ
    exact ⟨plain_callable (by simp), wpAny_mono (op X _ σ₂ s₂ A _ _ b' x _ vb L₂ hx (VR.keepK k₂ hg₂ (fun _ h => nomatch h) ra) rb) (fun v s' p => hQ v s' (p.here L₂)) fun _ _ x => x⟩
  · rw [if_neg hil] at hne; exact absurd rfl hne

theorem ok_sm {o x : Expr} {a b : CE} {apos pos : Pos} {m : Str} {p : P2} (hm : m1Names.lookup m = some p) (hb : noSuper o = true) (hp : (apos.endLine == pos.line) = true) (hs : isStar x = false) (ho : EOk S F q d Γ sc o a) (hx : EOk S F q d Γ sc x b) :
    EOk S F q d Γ sc (.Call (.Attribute o m apos) [x] [] pos) (.sm p a b) := by
  have hm := lookup_mem hm
  simp only [m1Names, List.mem_cons, Prod.mk.injEq, List.not_mem_nil, or_false] at hm
  rcases hm with ⟨rfl, rfl⟩ | ⟨rfl, rfl⟩ | ⟨rfl, rfl⟩
  · exact ok_sm_by PySem.F.slot_str_join PySem.F.type_str_join (fun _ _ _ _ _ _ _ _ _ _ _ L e ra rb => join_sound L e ra rb) hb hp hs ho hx
  · exact ok_sm_by PySem.F.slot_str_split PySem.F.type_str_split (fun _ _ _ _ _ _ _ _ _ _ _ L e ra rb => split_sound L e ra rb) hb hp hs ho hx
  · exact ok_sm_by PySem.F.slot_str_partition PySem.F.type_str_partition (fun _ _ _ _ _ _ _ _ _ _ _ L e ra rb => part_sound L e ra rb) hb hp hs ho hx
end
end Mine
end

/-! # Stmt1 -/
section
set_option autoImplicit false
namespace Mine
open PySem PyProof.Rows

/-- the addresses of a frame -/
noncomputable def ya (env : Env) : List Addr := env.locals :: env.cells.map (·.2)

structure FW (env : Env) (X : List Addr) : Prop where
  loc : env.locals ∈ X
  mem : ∀ p ∈ env.cells, p.2 ∈ X
  inj : ∀ x y c, env.cells.lookup x = some c → env.cells.lookup y = some c → x = y

theorem FW.cellX {env : Env} {X : List Addr} (fw : FW env X) (x : Str) (c : Addr) (h : env.cells.lookup x = some c) : c ∈ X := fw.mem _ (lookup_mem h)

theorem mem_lookup {β : Type} {x : Str} {y : β} : ∀ {l : List (Str × β)}, l.lookup x = some y → y ∈ l.map (·.2) := fun h => List.mem_map_of_mem (f := (·.2)) (lookup_mem h)

noncomputable def FlR (S : Stat) (X : List Addr) (f : List Loc) (h : Heap) (env : Env) (Γ : List Str) (sc : Scope) : Fl → Flow → Prop
  | .next ρ, fl => fl = .next ∧ FR S X f h env Γ sc ρ
  | .ret v, fl => ∃ w, fl = .ret w ∧ VR S X f h v w

noncomputable def QF (S : Stat) (X : List Addr) (env : Env) (Γ : List Str) (sc : Scope) (f : List Loc) (s : Shared) (r : R Fl) (fl : Flow) (s' : Shared) : Prop :=
  ∃ x σ' g, r = .ok x σ' ∧ Fresh g s ∧ Kp f (ya env) s s' ∧ Lk S X (f ++ g) σ' s'.heap ∧ FlR S X (f ++ g) s'.heap env Γ sc x fl

section
variable (S : Stat) (F Fq : Calls) (q : Bool) (d : Nat)
noncomputable def SOk (Γ : List Str) (sc : Scope) (st : Stmt) (c : CS) : Prop := ∀ (env : Env) (ρ : List V) (f : List Loc) (X : List Addr) (σ : Sto) (s : Shared) (A : Around), St S q d Γ sc env ρ f X σ s A → FW env X →
  exS F Fq q c ρ σ ≠ .stuck → wpAny (model S.prog S.w) A (exec st env) (QF S X env Γ sc f s (exS F Fq q c ρ σ)) (ES S X (ya env) f false s (exS F Fq q c ρ σ)) s
noncomputable def LSOk (Γ : List Str) (sc : Scope) (st : List Stmt) (c : List CS) : Prop := ∀ (env : Env) (ρ : List V) (f : List Loc) (X : List Addr) (σ : Sto) (s : Shared) (A : Around), St S q d Γ sc env ρ f X σ s A → FW env X →
  exL F Fq q c ρ σ ≠ .stuck → wpAny (model S.prog S.w) A (execs st env) (QF S X env Γ sc f s (exL F Fq q c ρ σ)) (ES S X (ya env) f false s (exL F Fq q c ρ σ)) s
end

section
variable {S : Stat} {C : Ctx} {T : Nat → Option Fn} {F Fq : Calls} {q : Bool} {d : Nat} {Γ : List Str} {sc : Scope}
variable {X X' Y Z : List Addr} {f g : List Loc} {σ : Sto} {s s' : Shared} {A : Around} {E : Value → Shared → Prop} {I a : Addr} {its : Items} {i : Nat} {env : Env} {ρ : List V}

theorem QF.lifts : Lifts (ya env) (fun f s r a s' => QF S X env Γ sc f s r a s') := fun f g s s₁ r c s' hg k q => by
  obtain ⟨b', σ'', g', e, hg', k', L, p⟩ := q
  rw [List.append_assoc] at L p
  exact ⟨b', σ'', g ++ g', e, hg.trans k.live hg', k.trans hg k', L, p⟩

theorem Sim.goS {α β : Type} {P : α → β → List Loc → Shared → Prop}
    {t : Sem α} {r : R β} {rk : β → Sto → R Fl} {W : α → Shared → Prop} {Q' : Flow → Shared → Prop} {E' : Value → Shared → Prop} (h : Sim S A X [] f P t r s) (hne : r.bind rk ≠ .stuck)
    (hQ : ∀ c s'', QF S X env Γ sc f s (r.bind rk) c s'' → Q' c s'') (hE : ∀ e s'', ES S X (ya env) f false s (r.bind rk) e s'' → E' e s'')
    (hk : ∀ a b σ' g s', rk b σ' ≠ .stuck → Fresh g s → Kp f [] s s' → Lk S X (f ++ g) σ' s'.heap → P a b (f ++ g) s' → (∀ c s'', QF S X env Γ sc (f ++ g) s' (rk b σ') c s'' → Q' c s'') →
      (∀ e s'', ES S X (ya env) (f ++ g) false s' (rk b σ') e s'' → E' e s'') → W a s') : wpAny (model S.prog S.w) A t W E' s := by
  have hr : r ≠ .stuck := fun e => hne (by rw [e]; rfl)
  refine wpAny_mono (h hr) (fun a s' q => ?_) fun e s' q => hE e s' ?_
  · obtain ⟨b, σ', g, rfl, hg, k, L, p⟩ := q
    have ky : Kp f (ya env) s s' := k.mono fun a h => nomatch h
    exact hk a b σ' g s' hne hg k L p (fun c s'' q => hQ c s'' (QF.lifts f g s s' _ c s'' hg ky q)) fun e s'' q => hE e s'' (ES.lifts f g s s' _ e s'' hg ky q)
  · obtain ⟨c, σ', g, ea, e1, rfl, hg, k, L, x⟩ := q
    exact ⟨c, σ', g, ea, e1, rfl, hg, (k.mono fun a h => nomatch h), L, x⟩

theorem lastIdx_get {y : Str} : ∀ {Γ : List Str} {i : Nat}, lastIdx y Γ = some i → Γ[i]? = some y
  | [], i, h => by simp [lastIdx] at h
  | z :: Γ, i, h => by
    simp only [lastIdx] at h
    split at h
    · rename_i j hj; cases h; simpa using lastIdx_get hj
    · split at h
      · rename_i e; cases h; rw [eq_of_beq e]; rfl
      · cases h

theorem slotOf_some {x : Str} (h : slotOf Γ sc x = some i) : (sc.names.lookup x = some .local ∨ sc.names.lookup x = some .cell) ∧ lastIdx x Γ = some i := by
  unfold slotOf at h
  split at h
  · rename_i e
    simp only [Bool.or_eq_true] at e
    exact ⟨e.imp (fun q => eq_of_beq q) fun q => eq_of_beq q, h⟩
  · cases h

/-- a frame whose own things stay -/
theorem FR.mv (m : Mv a s s') (ha : a ∈ X) (hl : env.locals ≠ a) (hc : ∀ x c, env.cells.lookup x = some c → c ≠ a) (fr : FR S X f s.heap env Γ sc ρ) : FR S X f s'.heap env Γ sc ρ := by
  have ns : ∀ {b : Addr} {m' : Str → Option Value}, b ≠ a → s.heap.Ns b m' → s'.heap.Ns b m' := fun hb h => by
    obtain ⟨o, es, ep, ho, r⟩ := h
    exact ⟨o, es, ep, m.keep _ _ hb ho, r⟩
  have cl : ∀ {b : Addr} {m' : Option Value}, b ≠ a → s.heap.IsCell b m' → s'.heap.IsCell b m' := fun hb h => by
    obtain ⟨o, ho, r⟩ := h
    exact ⟨o, m.keep _ _ hb ho, r⟩
  refine ⟨fr.kind, fr.glob, fr.blt, fr.names, ⟨fr.loc.1, let ⟨m', h⟩ := fr.loc.2; ⟨m', ns hl h⟩⟩, fun x hx => ?_, fun x i v h1 h2 h3 h4 => ?_, fr.len⟩
  · obtain ⟨c, o, e1, hX, h⟩ := fr.cells x hx
    exact ⟨c, o, e1, hX, cl (hc x c e1) h⟩
  · obtain ⟨w, h5, h6⟩ := fr.vals x i v h1 h2 h3 h4
    refine ⟨w, ?_, m.vr ha h6⟩
    rcases h5 with ⟨k, m', h7, h8⟩ | ⟨k, c, h7, h8⟩
    · exact .inl ⟨k, m', ns hl h7, h8⟩
    · exact .inr ⟨k, c, h7, cl (hc x c h7) h8⟩

/-- a name is bound -/
theorem store_sound {x : Str} {v : V} {w : Value} {Q : Unit → Shared → Prop} (fr : FR S X f s.heap env Γ sc ρ) (fw : FW env X) (hx : slotOf Γ sc x = some i) (r : VR S X f s.heap v w)
    (h : ∀ a s', a ∈ ya env → a ∈ X → Mv a s s' → FR S X f s'.heap env Γ sc (ρ.set i v) → Q () s') : wpAny (model S.prog S.w) A (storeName env x w) Q E s := by
  obtain ⟨hk, hi⟩ := slotOf_some hx
  have hkind : env.kindOf x = some .local ∨ env.kindOf x = some .cell := by
    rcases fr.names x with e | ⟨e, _⟩
    · rw [e]; exact hk
    · rcases hk with h | h <;> rw [h] at e <;> cases e
  have hvx : isVar sc x = true := by unfold isVar; rcases hk with h | h <;> rw [h]
  have hil : i < ρ.length := by rw [fr.len]; exact lastIdx_lt hi
  obtain ⟨m, hm⟩ := fr.loc.2
  have same : ∀ y, lastIdx y Γ = some i → y = x := fun y hy => by
    have h1 := lastIdx_get hy
    rw [lastIdx_get hi] at h1; cases h1; rfl
  have setv : ∀ {j : Nat} {v' : V}, (ρ.set i v)[j]? = some v' → j ≠ i → ρ[j]? = some v' := fun h hne => by rwa [List.getElem?_set_ne (fun q => hne q.symm)] at h
  have cellNe : ∀ x c, isCellKind (env.kindOf x) → env.cells.lookup x = some c → c ≠ env.locals := fun x c hk e q => by
    obtain ⟨c', o, e', _, ⟨ob, h1, h2⟩⟩ := fr.cells x hk
    rw [e] at e'; cases e'
    obtain ⟨ob', es, ep, h3, h4, _⟩ := hm
    rw [q, h3] at h1; cases h1; rw [h4] at h2; cases h2
  rcases hkind with hl | hc
  · refine wpAny_storeName_local hl hm (fun h' hn' hs' => ?_) (by simp [fr.kind])
    obtain ⟨o2, es2, ep2, e3, e4, _⟩ := id hn'
    have mv : Mv env.locals s { s with heap := h', toks := s.toks + 1 } := ⟨rfl, fun b o hb e => (hs'.2 b hb).trans e, ⟨o2, e3⟩, fun _ _ _ _ _ => ⟨o2, es2, ep2, e3, e4⟩⟩
    refine h env.locals _ List.mem_cons_self fw.loc mv ?_
    have cl : ∀ {b : Addr} {m' : Option Value}, b ≠ env.locals → s.heap.IsCell b m' → h'.IsCell b m' := fun hb h => by
      obtain ⟨o, ho, r⟩ := h
      exact ⟨o, mv.keep _ _ hb ho, r⟩
    refine ⟨fr.kind, fr.glob, fr.blt, fr.names, ⟨fr.loc.1, _, hn'⟩, fun y hy => ?_, fun y j v' h1 h2 h3 h4 => ?_, by rw [List.length_set]; exact fr.len⟩
    · obtain ⟨c, o, e1, hX, h5⟩ := fr.cells y hy
      exact ⟨c, o, e1, hX, cl (cellNe y c hy e1) h5⟩
    · by_cases hj : j = i
      · subst hj
        have hy := same y h2
        subst hy
        rw [List.getElem?_set_self hil] at h3; cases h3
        exact ⟨w, .inl ⟨hl, _, hn', by simp⟩, mv.vr fw.loc r⟩
      · obtain ⟨w', h5, h6⟩ := fr.vals y j v' h1 h2 (setv h3 hj) h4
        refine ⟨w', ?_, mv.vr fw.loc h6⟩
        rcases h5 with ⟨k, m', h7, h8⟩ | ⟨k, c, h7, h8⟩
        · refine .inl ⟨k, _, hn', ?_⟩
          have hyx : y ≠ x := fun q => by rw [q, hi] at h2; cases h2; exact hj rfl
          obtain ⟨ob, es, ep, q1, q2, q3, q4⟩ := h7
          obtain ⟨ob', es', ep', p1, p2, p3, p4⟩ := hm
          rw [q1] at p1; cases p1; rw [q2] at p2; cases p2
          show (if y = x then some w else m y) = some w'
          rw [if_neg hyx, ← p4 y, q4 y, h8]
        · exact .inr ⟨k, c, h7, cl (cellNe y c k h7) h8⟩
  · obtain ⟨c, o, e1, hX, hcell⟩ := fr.cells x (.inl hc)
    refine wpAny_storeName_cell fr.kind hc e1 hcell fun h' hc' hs' => ?_
    obtain ⟨o2, e3, e4⟩ := id hc'
    have mv : Mv c s { s with heap := h' } := ⟨rfl, fun b o hb e => (hs'.2 b hb).trans e, ⟨o2, e3⟩, fun ob es n q1 q2 => by
      obtain ⟨ob', q3, q4⟩ := hcell
      rw [q3] at q1; cases q1; rw [q4] at q2; cases q2⟩
    refine h c _ (List.mem_cons_of_mem _ (mem_lookup e1)) hX mv ?_
    have hlne : env.locals ≠ c := fun q => cellNe x c (.inl hc) e1 q.symm
    have ns : ∀ {m' : Str → Option Value}, s.heap.Ns env.locals m' → h'.Ns env.locals m' := fun h => by
      obtain ⟨o, es, ep, ho, r⟩ := h
      exact ⟨o, es, ep, mv.keep _ _ hlne ho, r⟩
    have cl : ∀ {b : Addr} {m' : Option Value}, b ≠ c → s.heap.IsCell b m' → h'.IsCell b m' := fun hb h => by
      obtain ⟨o, ho, r⟩ := h
      exact ⟨o, mv.keep _ _ hb ho, r⟩
    refine ⟨fr.kind, fr.glob, fr.blt, fr.names, ⟨fr.loc.1, _, ns hm⟩, fun y hy => ?_, fun y j v' h1 h2 h3 h4 => ?_, by rw [List.length_set]; exact fr.len⟩
    · obtain ⟨c', o', e1', hX', h5⟩ := fr.cells y hy
      by_cases hcc : c' = c
      · subst hcc; exact ⟨c', _, e1', hX, hc'⟩
      · exact ⟨c', o', e1', hX', cl hcc h5⟩
    · by_cases hj : j = i
      · subst hj
        have hy := same y h2
        subst hy
        rw [List.getElem?_set_self hil] at h3; cases h3
        exact ⟨w, .inr ⟨.inl hc, c, e1, hc'⟩, mv.vr hX r⟩
      · obtain ⟨w', h5, h6⟩ := fr.vals y j v' h1 h2 (setv h3 hj) h4
        refine ⟨w', ?_, mv.vr hX h6⟩
        have hyx : y ≠ x := fun q => by rw [q, hi] at h2; cases h2; exact hj rfl
        rcases h5 with ⟨k, m', h7, h8⟩ | ⟨k, c', h7, h8⟩
        · exact .inl ⟨k, m', ns h7, h8⟩
        · exact .inr ⟨k, c', h7, cl (fun q => hyx (fw.inj y x c (q ▸ h7) e1)) h8⟩

theorem mv_qf {v : Fl} {fl : Flow} (hY : a ∈ ya env) (hX : a ∈ X) (L : Lk S X f σ s.heap) (m : Mv a s s') (h : FlR S X f s'.heap env Γ sc v fl) : QF S X env Γ sc f s (.ok v σ) fl s' :=
  ⟨v, σ, [], rfl, .nil s, m.kp hY, by rw [List.append_nil]; exact m.lk hX L, by rw [List.append_nil]; exact h⟩
theorem here_qf {v : Fl} {fl : Flow} (L : Lk S X f σ s.heap) (h : FlR S X f s.heap env Γ sc v fl) : QF S X env Γ sc f s (.ok v σ) fl s :=
  ⟨v, σ, [], rfl, .nil s, .refl f _ s, by rw [List.append_nil]; exact L, by rw [List.append_nil]; exact h⟩

theorem swaps_no {e : Expr} {t : Option Expr} {n : Nat} (h : isComp e = false) (h2 : ∀ el gs sc p, e ≠ .SetComp el gs sc p) (h3 : ∀ k v gs sc p, e ≠ .DictComp k v gs sc p) : swapsWith e t n env = pure false := by
  cases e <;> first | rfl | (simp [isComp] at h; done) | exact absurd rfl (h2 _ _ _ _) | exact absurd rfl (h3 _ _ _ _ _)

/-! ## statements -/

theorem ok_ret {e : Expr} {c : CE} {pos : Pos} (h : EOk S F q d Γ sc e c) : SOk S F Fq q d Γ sc (.Return (some e) pos) (.ret c) := fun env ρ f X σ s A st fw hne => by
  rw [exS] at hne ⊢
  refine wpAny_Return_some ?_
  refine Sim.goS (Γ := Γ) (sc := sc) (h env ρ f X σ s A st) hne (fun _ _ x => x) (fun _ _ x => x) fun va a' σ₁ g₁ s₁ hne hg k L ra hQ hE => hQ _ _ (here_qf L ⟨va, rfl, ra⟩)

theorem ok_pass {pos : Pos} : SOk S F Fq q d Γ sc (.Pass pos) .pass := fun env ρ f X σ s A st fw hne => by
  rw [exS]
  exact wpAny_Pass (here_qf st.lk ⟨rfl, st.fr⟩)

theorem ok_exp {e : Expr} {c : CE} {pos : Pos} (h : EOk S F q d Γ sc e c) (hs : ∀ env n t, swapsWith e t n env = pure false) : SOk S F Fq q d Γ sc (.Expr e pos) (.exp c) := fun env ρ f X σ s A st fw hne => by
  rw [exS] at hne ⊢
  refine wpAny_Expr_any ?_ (by simp [interactive, st.fr.kind]) (hs _ _ _)
  refine Sim.goS (Γ := Γ) (sc := sc) (h env ρ f X σ s A st) hne (fun _ _ x => x) (fun _ _ x => x) fun va a' σ₁ g₁ s₁ hne hg k L ra hQ hE => hQ _ _ (here_qf L ⟨rfl, (st.keep hg k L).fr⟩)

theorem asg_at {x : Str} {px pos : Pos} {e : Expr} {c : CE} (hx : slotOf Γ sc x = some i) (h : EOk S F q d Γ sc e c) (st : St S q d Γ sc env ρ f X σ s A) (fw : FW env X) (hs : swapsWith e (some (.Name x px)) pos.line env = pure false) (hne : exS F Fq q (.asg i c) ρ σ ≠ .stuck) :
    wpAny (model S.prog S.w) A (exec (.Assign [.Name x px] e pos) env) (QF S X env Γ sc f s (exS F Fq q (.asg i c) ρ σ)) (ES S X (ya env) f false s (exS F Fq q (.asg i c) ρ σ)) s := by
  rw [exS] at hne ⊢
  refine wpAny_Assign_Name ?_ hs
  refine Sim.goS (Γ := Γ) (sc := sc) (h env ρ f X σ s A st) hne (fun _ _ x => x) (fun _ _ x => x) fun va a' σ₁ g₁ s₁ hne hg k L ra hQ hE => ?_
  exact store_sound (st.keep hg k L).fr fw hx ra fun b s' hY hX m fr => hQ _ _ (mv_qf hY hX L m ⟨rfl, fr⟩)

theorem ok_asg {x : Str} {px pos : Pos} {e : Expr} {c : CE} (hx : slotOf Γ sc x = some i) (h : EOk S F q d Γ sc e c) (hs : ∀ env n t, swapsWith e t n env = pure false) : SOk S F Fq q d Γ sc (.Assign [.Name x px] e pos) (.asg i c) := fun env ρ f X σ s A st fw hne =>
  asg_at hx h st fw (hs _ _ _) hne

theorem ok_if {t : Expr} {c : CE} {a b : List Stmt} {ca cb : List CS} {pos : Pos} (ht : TOk S F q d Γ sc t c) (ha : LSOk S F Fq q d Γ sc a ca) (hb : LSOk S F Fq q d Γ sc b cb) : SOk S F Fq q d Γ sc (.If t a b pos) (.ite c ca cb) := fun env ρ f X σ s A st fw hne => by
  have key : exS F Fq q (.ite c ca cb) ρ σ = ((evE F q c ρ σ).bind fun v σ => R.lift σ (truthy σ v)).bind fun t σ => if t then exL F Fq q ca ρ σ else exL F Fq q cb ρ σ := by rw [exS, R.bind_assoc]
  rw [key] at hne ⊢
  refine wpAny_If ?_
  refine Sim.goS (Γ := Γ) (sc := sc) (ht env ρ f X σ s A st) hne (fun _ _ x => x) (fun _ _ x => x) fun va a' σ₁ g₁ s₁ hne hg k L ra hQ hE => ?_
  have ra : va = a' := ra
  subst ra
  cases va with
  | true => exact wpAny_mono (ha env ρ _ X σ₁ s₁ A (st.keep hg k L) fw hne) hQ hE
  | false => exact wpAny_mono (hb env ρ _ X σ₁ s₁ A (st.keep hg k L) fw hne) hQ hE

theorem ok_nil : LSOk S F Fq q d Γ sc [] [] := fun env ρ f X σ s A st fw hne => by
  rw [exL]
  exact wpAny_execs_nil (here_qf st.lk ⟨rfl, st.fr⟩)

theorem ok_cons {a : Stmt} {b : List Stmt} {ca : CS} {cb : List CS} (ha : SOk S F Fq q d Γ sc a ca) (hb : LSOk S F Fq q d Γ sc b cb) : LSOk S F Fq q d Γ sc (a :: b) (ca :: cb) := fun env ρ f X σ s A st fw hne => by
  rw [exL] at hne ⊢
  have hr : exS F Fq q ca ρ σ ≠ .stuck := fun e => hne (by rw [e]; rfl)
  refine wpAny_execs_cons (wpAny_mono (ha env ρ f X σ s A st fw hr) (fun fl s₁ h₁ => ?_) fun e s₁ h₁ => ?_)
  · obtain ⟨x, σ₁, g, e, hg, k, L, p⟩ := h₁
    rw [e, R.bind_ok] at hne ⊢
    cases x with
    | next ρ' =>
      obtain ⟨rfl, fr⟩ := p
      have st₁ : St S q d Γ sc env ρ' (f ++ g) X σ₁ s₁ A := ⟨st.cx.keep k hg, fr, L⟩
      exact wpAny_mono (hb env ρ' _ X σ₁ s₁ A st₁ fw hne) (fun c s'' q => QF.lifts f g s s₁ _ c s'' hg k q) fun c s'' q => ES.lifts f g s s₁ _ c s'' hg k q
    | ret v =>
      obtain ⟨w, rfl, r⟩ := p
      exact ⟨.ret v, σ₁, g, rfl, hg, k, L, w, rfl, r⟩
  · obtain ⟨c, σ', g, ea, e1, e2, r⟩ := h₁
    exact ⟨c, σ', g, ea, e1, by rw [e2]; rfl, r⟩
end
end Mine
end

/-! # Stmt2 -/
section
set_option autoImplicit false
namespace Mine
open PySem PyProof.Rows

section
variable {S : Stat} {C : Ctx} {T : Nat → Option Fn} {F Fq : Calls} {q : Bool} {d : Nat} {Γ : List Str} {sc : Scope}
variable {X X' Y Z : List Addr} {f g : List Loc} {σ : Sto} {s s' : Shared} {A : Around} {E : Value → Shared → Prop} {I a : Addr} {its : Items} {i : Nat} {env : Env} {ρ : List V}

set_option maxRecDepth 100000 in
theorem setItem_raw {l : Addr} {items : Array Value} {n : Nat} {k : Int} {t : Tok} {v : Value} {Q : Unit → Shared → Prop} (hl : IsL s.heap l items n) (h0 : 0 ≤ k) (hfit : k < 2 ^ 63) (hn : k < items.size)
    (hQ : Q () { s with heap := s.heap.update l (Obj.mapSeq (·.setIfInBounds k.toNat v)) }) : wpAny (model S.prog S.w) A (setItem (.ref l) (.int k t) v) Q E s := by
  have il := IsL.isList hl
  unfold setItem
  try with_reducible refine wpAny_holding ?_
  first | refine wpAny_bind (wpAny_pure ?_) | skip
  refine wpAny_bind (wpAny_sequenceKey il.typeIs (by decide) ?_)
  refine wpAny_bind (wpAny_callSpecial?_slot (name := Str.ofString "__setitem__") il.typeIs slot_list_setitem
    (wpAny_call_entry slot_list_setitem il.typeIs entry_list_setitem ?_ (args_list_setitem _ _ _)))
  show wpAny _ _ (Builtin.List.listSubscript? (.int k t) >>= _) _ _ s
  refine wpAny_bind (wpAny_listSubscript_int (fitsIndex_of h0 hfit) ?_)
  clear hfit
  obtain ⟨j, rfl⟩ := Int.eq_ofNat_of_zero_le h0
  have hj : j < items.size := by omega
  have hx' : items[j]? = some items[j] := Array.getElem?_eq_getElem hj
  show wpAny _ _ ((seqItemAt l j >>= fun r => pure (r.map (j, ·))) >>= _) _ _ s
  refine wpAny_bind (wpAny_bind (wpAny_seqItemAt hl rfl (wpAny_pure ?_)))
  rw [hx']
  show wpAny _ _ (setSeqItemAt l j v >>= _) _ _ s
  refine wpAny_bind (wpAny_setSeqItemAt hl rfl ?_)
  first
    | exact wpAny_bind (wpAny_pure (wpAny_pure ⟨.none, rfl, wpAny_pure hQ⟩))
    | exact wpAny_pure ⟨.none, rfl, wpAny_pure hQ⟩

theorem ok_setItem {o ix e : Expr} {a b c : CE} {p' pos : Pos} (ho : EOk S F q d Γ sc o a) (hi : EOk S F q d Γ sc ix b) (h : EOk S F q d Γ sc e c) (hs : ∀ env n t, swapsWith e t n env = pure false)
    (nd : ∀ (n : Nat) (k : Int) (v : V) (σ : Sto) (es : List (Int × V)), σ[n]? = some (.dict es) → doSetItem σ (.ref n) (.int k) v = .stuck) : SOk S F Fq q d Γ sc (.Assign [.Subscript o ix p'] e pos) (.setItem a b c) := fun env ρ f X σ s A st fw hne => by
  rw [exS] at hne ⊢
  refine wpAny_Assign_Subscript ?_ (hs _ _ _)
  refine Sim.goS (Γ := Γ) (sc := sc) (h env ρ f X σ s A st) hne (fun _ _ x => x) (fun _ _ x => x) fun vv v' σ₁ g₁ s₁ hne hg k L rv hQ hE => ?_
  have st₁ := st.keep hg k L
  refine Sim.goS (Γ := Γ) (sc := sc) (ho env ρ _ X σ₁ s₁ A st₁) hne hQ hE fun vo o' σ₂ g₂ s₂ hne hg₂ k₂ L₂ ro hQ hE => ?_
  have st₂ := st₁.keep hg₂ k₂ L₂
  have rv₂ := VR.keepK k₂ hg₂ (fun _ h => nomatch h) rv
  refine Sim.goS (Γ := Γ) (sc := sc) (hi env ρ _ X σ₂ s₂ A st₂) hne hQ hE fun vi i' σ₃ g₃ s₃ hne hg₃ k₃ L₃ ri hQ hE => ?_
  have st₃ := st₂.keep hg₃ k₃ L₃
  have rv₃ := VR.keepK k₃ hg₃ (fun _ h => nomatch h) rv₂
  have ro₃ := VR.keepK k₃ hg₃ (fun _ h => nomatch h) ro
  cases o' with
  | ref n =>
    cases i' with
    | int k' =>
      cases hσ : σ₃[n]? with
      | none => simp [doSetItem, hσ] at hne
      | some ob =>
        cases ob with
        | list xs =>
          by_cases hk : 0 ≤ k' ∧ k'.toNat < xs.length
          · have hd : doSetItem σ₃ (.ref n) (.int k') v' = .ok () (σ₃.set n (.list (xs.set k'.toNat v'))) := by simp only [doSetItem, hσ, if_pos hk]
            rw [hd] at hQ
            obtain ⟨ax, vs, kk, rfl, hf, il, rs, hlen⟩ := tracked_list L₃ ro₃ hσ
            obtain ⟨t, rfl⟩ := vr_int ri
            obtain ⟨j, rfl⟩ := Int.eq_ofNat_of_zero_le hk.1
            have hj : j < vs.size := by rw [VRs_size rs]; simpa using hk.2
            have hfit : (j : Int) < 2 ^ 63 := by have := VRs_size rs; have hL : LIM = 1048576 := rfl; omega
            obtain ⟨L4, k4⟩ := upd_list (fn := fun xs => xs.setIfInBounds j vv) (xs := xs.set j v') L₃ hf il (by rw [Array.toList_setIfInBounds]; exact VRs_set rs rv₃) (by rw [List.length_set]; exact hlen)
            refine setItem_raw il (by omega) hfit (by omega) (hQ _ _ ⟨.next ρ, _, [], rfl, .nil _, k4.mono (fun a h => nomatch h), by rw [List.append_nil]; exact L4, rfl, ?_⟩)
            rw [List.append_nil]
            have := st₃.fr.keep (g := []) L₃ k4 (.nil _)
            rwa [List.append_nil] at this
          · simp only [doSetItem, hσ, if_neg hk] at hne; exact absurd rfl hne
        | dict es => rw [nd n k' v' σ₃ es hσ] at hne; exact absurd rfl hne
        | inst _ => simp [doSetItem, hσ] at hne
    | _ => exact absurd rfl hne
  | _ => exact absurd rfl hne

/-- a hidden thing goes: the frame -/
theorem FR.drop {h h' : Heap} (fr : FR S X f h env Γ sc ρ) (fw : FW env X') (hX : ∀ a ∈ X', a ∈ X ∧ a ∉ Z) (hZ : ∀ a ∈ Z, a ∈ X) (k : ∀ b o, b ∉ Z → h.get? b = some o → h'.get? b = some o) : FR S X' f h' env Γ sc ρ := by
  have ns : ∀ {b : Addr} {m' : Str → Option Value}, b ∈ X' → h.Ns b m' → h'.Ns b m' := fun hb x => by
    obtain ⟨o, es, ep, ho, r⟩ := x
    exact ⟨o, es, ep, k _ _ (hX _ hb).2 ho, r⟩
  have cl : ∀ {b : Addr} {m' : Option Value}, b ∈ X' → h.IsCell b m' → h'.IsCell b m' := fun hb x => by
    obtain ⟨o, ho, r⟩ := x
    exact ⟨o, k _ _ (hX _ hb).2 ho, r⟩
  refine ⟨fr.kind, fr.glob, fr.blt, fr.names, ⟨fw.loc, let ⟨m, h⟩ := fr.loc.2; ⟨m, ns fw.loc h⟩⟩, fun x hx => ?_, fun x i v h1 h2 h3 h4 => ?_, fr.len⟩
  · obtain ⟨c, o, e, _, h⟩ := fr.cells x hx
    exact ⟨c, o, e, fw.cellX x c e, cl (fw.cellX x c e) h⟩
  · obtain ⟨w, h5, h6⟩ := fr.vals x i v h1 h2 h3 h4
    refine ⟨w, ?_, h6.drop (fun a ha => (hX a ha).1) hZ k⟩
    rcases h5 with ⟨kk, m', h7, h8⟩ | ⟨kk, c, h7, h8⟩
    · exact .inl ⟨kk, m', ns fw.loc h7, h8⟩
    · exact .inr ⟨kk, c, h7, cl (fw.cellX x c h7) h8⟩

theorem FW.more (fw : FW env X) : FW env (a :: X) := ⟨List.mem_cons_of_mem _ fw.loc, fun p hp => List.mem_cons_of_mem _ (fw.mem p hp), fw.inj⟩

theorem FlR.drop {h h' : Heap} {x : Fl} {fl : Flow} (p : FlR S X f h env Γ sc x fl) (fw : FW env X') (hX : ∀ a ∈ X', a ∈ X ∧ a ∉ Z) (hZ : ∀ a ∈ Z, a ∈ X) (k : ∀ b o, b ∉ Z → h.get? b = some o → h'.get? b = some o) : FlR S X' f h' env Γ sc x fl := by
  cases x with
  | next ρ => exact ⟨p.1, p.2.drop fw hX hZ k⟩
  | ret v => obtain ⟨w, e, r⟩ := p; exact ⟨w, e, r.drop (fun a ha => (hX a ha).1) hZ k⟩

/-- a name takes a comprehension -/
theorem ok_comp_asg {scope : Scope} {x y : Str} {px py pos spos : Pos} {elt iter : Expr} {ifs : List Expr} {ce c' : CE} {cond : Option CE} {k : SK} {cs : List CE} (hy : slotOf Γ sc y = some i) (ok : CompOk Γ sc scope x) (hsrc : SrcOk S F q d Γ sc iter k cs)
    (hcond : (ifs = [] ∧ cond = none) ∨ ∃ e c, ifs = [e] ∧ cond = some c ∧ TOk S F q d (Γ ++ [x]) scope e c) (helt : EOk S F q d (Γ ++ [x]) scope elt ce) (hc' : c' = .comp ce k cs cond ∨ c' = .trk (.comp ce k cs cond)) :
    SOk S F Fq q d Γ sc (.Assign [.Name y py] (.ListComp elt [⟨.Name x px, iter, ifs, 0⟩] scope pos) spos) (.asg i c') := fun env ρ f X σ s A st fw hne => by
  have hn := ok_comp (px := px) (pos := pos) ok hsrc hcond helt
  have he : EOk S F q d Γ sc (.ListComp elt [⟨.Name x px, iter, ifs, 0⟩] scope pos) c' := by
    rcases hc' with rfl | rfl
    · exact hn.eok
    · exact hn.trk
  by_cases hsw : (env.blockKind == .function && env.kindOf y == some .local && py.line == pos.line && !(scope.names.any fun (n, k) => n == y && (k == .local || k == .cell))) = true
  · have hs : swapsWith (.ListComp elt [⟨.Name x px, iter, ifs, 0⟩] scope pos) (some (.Name y py)) spos.line env = pure true := by
      show pure (env.blockKind == .function && env.kindOf y == some .local && py.line == pos.line && !(scope.names.any fun (n, k) => n == y && (k == .local || k == .cell))) = _
      rw [hsw]
    rw [exec_Assign_Name_used _ _ _ _ hs]
    rw [exS] at hne ⊢
    have hq : q = false := by
      cases q with
      | false => rfl
      | true => rcases hc' with rfl | rfl <;> simp [evE] at hne
    have hval : ∃ tk : V → Sto → R V, evE F q c' ρ σ = (((evL F q cs ρ σ).bind fun vs σ => R.lift σ (itemsBy σ k vs)).bind fun its σ => (foldItems its (compStep F q ce cond ρ) [] σ).bind fun acc σ => .ok (.lst acc) σ).bind tk ∧
        ∀ {X : List Addr} {s : Shared} {r : R V} {v : Value} {s' : Shared}, (r.bind tk) ≠ .stuck → QN S X [] f s r v s' → QS S X [] f (PV S X) s (r.bind tk) v s' := by
      rcases hc' with rfl | rfl
      · exact ⟨fun v σ => .ok v σ, by rw [comp_value hq]; generalize R.bind _ _ = r; cases r <;> rfl, fun {X s r v s'} _ h => by
          have : (r.bind fun v σ => R.ok v σ) = r := by cases r <;> rfl
          rw [this]; exact h.qs⟩
      · exact ⟨fun v σ => doTrk σ v, by rw [evE, comp_value hq], fun {X s r v s'} hne h => h.trk hne⟩
    obtain ⟨tk, e0, htk⟩ := hval
    rw [e0] at hne ⊢
    obtain ⟨cl, hclos, hcl⟩ := st.fr.closure ok
    refine wpAny_bind (wpAny_standAt (wpAny_bind ?_))
    show wpAny _ A (do let _ ← comprehension (.ListComp elt [⟨.Name x px, iter, ifs, 0⟩] scope pos) scope env _ (newList []) false (eval iter env) (some (assign (.Name y py) env))) _ _ s
    refine wpAny_bind (wpAny_mono (wpAny_comprehension_free (Q := fun _ s' => QF S X env Γ sc f s _ .next s') (g := ⟨.Name x px, iter, ifs, 0⟩) (gs := []) rfl (hsrc.1 env) hclos ok.kind (fun p hp e => (ok.loc p hp e).2) ?_) (fun _ s' hq => wpAny_pure (wpAny_pure hq)) fun _ _ e => e)
    have hr : ((evL F q cs ρ σ).bind fun vs σ => R.lift σ (itemsBy σ k vs)) ≠ .stuck := fun e => hne (by rw [e]; rfl)
    refine wpAny_mono (hsrc.2 env ρ f X σ s A st hr) (fun xv s₁ h₁ => wpAny_mono h₁ (fun it s₂ h₂ => ?_) fun e s' h => ?_) fun e s' h => ?_
    · obtain ⟨its, σ₁, g, I, e1, rfl, hI, hIX, hg, kk, L, x0⟩ := h₂
      rw [e1, R.bind_ok] at hne ⊢
      have hne2 : foldItems its (compStep F q ce cond ρ) [] σ₁ ≠ .stuck := fun e => hne (by rw [e]; rfl)
      refine comp_block st (st.cx.hand hq) ok hcl hcond helt hI hg kk L x0 hne2 fun N D acc σ' g' m ys n s' hN hD hND e2 hg' k' L' hns il vs hlen => ?_
      rw [e2, R.bind_ok] at hne ⊢
      have hNX : N ∉ X := (st.lk.new hN).2
      have hDX : D ∉ X := (st.lk.new hD).2
      have qn : QN S (N :: X) [] f s (.ok (.lst acc) σ') (.ref D) s' := by
        have hsw2 : ∀ a, a ∈ D :: N :: X → a ∈ N :: D :: X := fun a ha => by simp at ha ⊢; rcases ha with h | h | h <;> simp [h]
        have L2 : Lk S (D :: N :: X) (f ++ g') σ' s'.heap := L'.less hsw2
        have vs2 := VRs.less hsw2 vs
        refine ⟨.lst acc, σ', g', rfl, hg', k', L2.less fun a ha => List.mem_cons_of_mem _ ha, ?_, fun xs hxs => ?_⟩
        · rw [VR]
          exact ⟨D, ys, n, rfl, ⟨(L2.hid D List.mem_cons_self).2.1, fun h => (List.mem_cons.mp h).elim (fun q => hND q.symm) hDX⟩, il, vs2.less fun a ha => List.mem_cons_of_mem _ ha, hlen⟩
        · cases hxs
          exact ⟨D, ys, n, rfl, hD, (fun h => (List.mem_cons.mp h).elim (fun q => hND q.symm) hDX), L2, il, vs2, hlen⟩
      have hne3 : ((R.ok (.lst acc) σ').bind tk) ≠ .stuck := fun e => hne (by rw [e]; rfl)
      obtain ⟨v3, σ3, g3, e3, hg3, k3, L3, r3⟩ := htk hne3 qn
      rw [e3, R.bind_ok]
      have fr3 : FR S (N :: X) (f ++ g3) s'.heap env Γ sc ρ := st.fr.later st.lk k3 hg3 (fun a ha => (List.mem_cons.mp ha).elim (fun h => .inr (h ▸ hN)) .inl) fun a ha => List.mem_cons_of_mem _ ha
      refine wpAny_assign_Name (store_sound fr3 fw.more hy r3 fun b s4 hY hX m4 fr4 => ?_)
      have hbN : b ≠ N := fun q => by
        subst q
        rcases List.mem_cons.mp hY with h | h
        · exact hNX (h ▸ fw.loc)
        · obtain ⟨p, hp, rfl⟩ := List.mem_map.mp h
          exact hNX (fw.mem p hp)
      obtain ⟨oN, esN, epN, eN, rN⟩ := hns
      refine ⟨m, ⟨oN, esN, epN, m4.keep N oN (Ne.symm hbN) eN, rN⟩, fun h' hs4 => ?_⟩
      have hkk : ∀ b o, b ∉ [N] → s4.heap.get? b = some o → h'.get? b = some o := fun b o hb e => (hs4.2 b (fun q => hb (q ▸ List.mem_singleton.mpr rfl))).trans e
      have hZX : ∀ a ∈ X, a ∈ N :: X ∧ a ∉ [N] := fun a ha => ⟨List.mem_cons_of_mem _ ha, fun h => hNX (List.mem_singleton.mp h ▸ ha)⟩
      have hZ : ∀ a ∈ [N], a ∈ N :: X := fun a ha => List.mem_singleton.mp ha ▸ List.mem_cons_self
      have ky : Kp f (ya env) s s4 := (k3.mono fun a h => nomatch h).trans hg3 (m4.kp hY)
      exact ⟨.next (ρ.set i v3), σ3, g3, rfl, hg3, ky.ends (Z := [N]) rfl hkk (fun b hb => List.mem_singleton.mp hb ▸ hN), (m4.lk hX L3).drop hZX hZ hkk, rfl, fr4.drop fw hZX hZ hkk⟩
    · obtain ⟨c, σ', g, ea, e1, e2, hg, kk, L, r⟩ := h
      exact ⟨c, σ', g, ea, e1, by rw [e2]; rfl, hg, (kk.mono fun a h => nomatch h), L, r⟩
    · obtain ⟨c, σ', g, ea, e1, e2, hg, kk, L, r⟩ := h
      exact ⟨c, σ', g, ea, e1, by rw [e2]; rfl, hg, (kk.mono fun a h => nomatch h), L, r⟩
  · refine asg_at hy he st fw ?_ hne
    show pure (env.blockKind == .function && env.kindOf y == some .local && py.line == pos.line && !(scope.names.any fun (n, k) => n == y && (k == .local || k == .cell))) = _
    rw [Bool.eq_false_iff.mpr hsw]
end
end Mine
end

/-! # Stmt3 -/
section
set_option autoImplicit false
namespace Mine
open PySem PyProof.Rows

section
variable {S : Stat} {C : Ctx} {T : Nat → Option Fn} {F Fq : Calls} {q : Bool} {d : Nat} {Γ : List Str} {sc : Scope}
variable {X X' Y Z : List Addr} {f g : List Loc} {σ : Sto} {s s' : Shared} {A : Around} {E : Value → Shared → Prop} {I a : Addr} {its : Items} {i : Nat} {env : Env} {ρ : List V}

/-- a calm suite -/
theorem LSOk.calm {ss : List Stmt} {cs : List CS} {γ : Type} {rk : Fl → Sto → R γ} (h : LSOk S F Fq q d Γ sc ss cs) (st : St S q d Γ sc env ρ f X σ s A) (fw : FW env X) (hne : (exL F Fq q cs ρ σ).calm.bind rk ≠ .stuck) :
    ∃ x σ', (exL F Fq q cs ρ σ).calm.bind rk = rk x σ' ∧ rk x σ' ≠ .stuck ∧ ∀ E, wpAny (model S.prog S.w) A (execs ss env) (fun fl s' => ∃ g, Fresh g s ∧ Kp f (ya env) s s' ∧ Lk S X (f ++ g) σ' s'.heap ∧ FlR S X (f ++ g) s'.heap env Γ sc x fl) E s := by
  have hs := h env ρ f X σ s A st fw
  cases hr : exL F Fq q cs ρ σ with
  | ok x σ' =>
    rw [hr] at hne hs
    refine ⟨x, σ', rfl, hne, fun E => wpAny_mono (hs (by simp)) (fun a s' q => ?_) fun e s' q => ?_⟩
    · obtain ⟨x', σ'', g, e, hg, k, L, p⟩ := q
      cases e
      exact ⟨g, hg, k, L, p⟩
    · obtain ⟨_, _, _, _, _, e, _⟩ := q; cases e
  | exc _ _ => rw [hr] at hne; exact absurd rfl hne
  | stuck => rw [hr] at hne; exact absurd rfl hne

structure FTurn (S : Stat) (s : Shared) (X : List Addr) (f : List Loc) (I : Addr) (env : Env) (Γ : List Str) (sc : Scope) (its : Items) (i : Nat) (ρ : List V) (σ' : Sto) (g : List Loc) (s' : Shared) : Prop where
  fresh : Fresh g s
  kp : Kp f (ya env) s s'
  lk : Lk S (I :: X) (f ++ g) σ' s'.heap
  it : ItAt S (I :: X) (f ++ g) s'.heap I its i
  fr : FR S (I :: X) (f ++ g) s'.heap env Γ sc ρ

theorem not_ya (fw : FW env X) (hI : I ∉ X) : I ∉ ya env := fun h => by
  rcases List.mem_cons.mp h with h | h
  · exact hI (h ▸ fw.loc)
  · obtain ⟨p, hp, rfl⟩ := List.mem_map.mp h
    exact hI (fw.mem p hp)

theorem ItAt.keepY (k : Kp f Y s s') (hg : Fresh g s) (hI : I ∈ X) (hXf : ∀ a ∈ X, a ∉ addrs f) (hY : ∀ a ∈ Y, a ∈ X) (hIY : I ∉ Y) (x : ItAt S X f s.heap I its i) : ItAt S X (f ++ g) s'.heap I its i :=
  ItAt.keep (f := f) (f' := f ++ g) (X := X) (X' := X) (h := s.heap) (fun _ _ e => List.getElem?_append_left (List.getElem?_eq_some_iff.mp e).1 ▸ e)
    (fun a o ho h1 h2 => ⟨⟨fun h => (mem_addrs_append.mp h).elim h1 (not_mem_fresh hg ho), h2⟩, k.kept a o ho h1 fun h => h2 (hY a h)⟩) (fun o ho => k.kept I o ho (hXf I hI) hIY) x

theorem ya_mem (fw : FW env X) : ∀ a ∈ ya env, a ∈ X := fun a h => by
  rcases List.mem_cons.mp h with h | h
  · exact h ▸ fw.loc
  · obtain ⟨p, hp, rfl⟩ := List.mem_map.mp h
    exact fw.mem p hp

theorem ok_for {x : Str} {px pos : Pos} {iter : Expr} {body : List Stmt} {cb : List CS} {k : SK} {cs : List CE} (hx : slotOf Γ sc x = some i) (hsrc : SrcOk S F q d Γ sc iter k cs) (hb : LSOk S F Fq q d Γ sc body cb) :
    SOk S F Fq q d Γ sc (.For (.Name x px) iter body [] pos) (.for i k cs cb) := fun env ρ f X σ s A st fw hne => by
  have hq : q = false := by
    cases q with
    | false => rfl
    | true => rw [exS] at hne; simp at hne
  have hh := st.cx.hand hq
  have key : exS F Fq q (.for i k cs cb) ρ σ = ((evL F q cs ρ σ).bind fun vs σ => R.lift σ (itemsBy σ k vs)).bind fun it σ => forItems it (fun x ρ σ => (exL F Fq q cb (ρ.set i x) σ).calm) ρ σ := by rw [exS, hq, if_neg (by simp), R.bind_assoc]
  rw [key] at hne ⊢
  have hr : ((evL F q cs ρ σ).bind fun vs σ => R.lift σ (itemsBy σ k vs)) ≠ .stuck := fun e => hne (by rw [e]; rfl)
  refine wpAny_For ?_ (hsrc.1 env)
  refine wpAny_mono (hsrc.2 env ρ f X σ s A st hr) (fun xv s₁ h₁ => wpAny_mono h₁ (fun it s₂ h₂ => ?_) fun e s' h => ?_) fun e s' h => ?_
  rotate_left
  · obtain ⟨c, σ', g, ea, e1, e2, hg, kk, L, r⟩ := h
    exact ⟨c, σ', g, ea, e1, by rw [e2]; rfl, hg, (kk.mono fun a h => nomatch h), L, r⟩
  · obtain ⟨c, σ', g, ea, e1, e2, hg, kk, L, r⟩ := h
    exact ⟨c, σ', g, ea, e1, by rw [e2]; rfl, hg, (kk.mono fun a h => nomatch h), L, r⟩
  obtain ⟨its, σ₁, g, I, e1, rfl, hI, hIX, hg, kk, L, x0⟩ := h₂
  rw [e1, R.bind_ok] at hne ⊢
  have hIya := not_ya fw hIX
  have hIin : I ∈ I :: X := List.mem_cons_self
  have fw' : FW env (I :: X) := fw.more
  have hZX : ∀ a ∈ X, a ∈ I :: X ∧ a ∉ [I] := fun a ha => ⟨List.mem_cons_of_mem _ ha, fun h => hIX (List.mem_singleton.mp h ▸ ha)⟩
  have hZ : ∀ a ∈ [I], a ∈ I :: X := fun a ha => List.mem_singleton.mp ha ▸ List.mem_cons_self
  have fr0 : FR S (I :: X) (f ++ g) s₂.heap env Γ sc ρ := st.fr.later st.lk kk hg (fun a ha => (List.mem_cons.mp ha).elim (fun h => .inr (h ▸ hI)) .inl) fun a ha => List.mem_cons_of_mem _ ha
  have t0 : FTurn S s X f I env Γ sc its 0 ρ σ₁ g s₂ := ⟨hg, (kk.mono fun a h => nomatch h), L, x0, fr0⟩
  unfold forItems at hne ⊢
  generalize htot : forIt its (fun x ρ σ => (exL F Fq q cb (ρ.set i x) σ).calm) (itFuel σ₁ its) 0 ρ σ₁ = total at hne ⊢
  refine codeAny_forLoop (fun n s' => ∃ j ρ' σ' g, forIt its (fun x ρ σ => (exL F Fq q cb (ρ.set i x) σ).calm) n j ρ' σ' = total ∧ FTurn S s X f I env Γ sc its j ρ' σ' g s') ?_ (itFuel σ₁ its) ⟨0, ρ, σ₁, g, htot, t0⟩
  rintro n s' ⟨j, ρ', σ', g', hf, t⟩
  cases n with
  | zero => rw [forIt] at hf; exact absurd hf.symm hne
  | succ n =>
  rw [forIt] at hf
  cases hnx : nextIt σ' its j with
  | none => rw [hnx] at hf; exact absurd hf.symm hne
  | some o =>
  rw [hnx] at hf
  cases o with
  | none =>
    have hf : R.ok (Fl.next ρ') σ' = total := hf
    refine wpAny_mono (next_end hh t.lk t.it hnx) (fun r s₃ h₃ => ?_) fun _ _ x => x
    obtain ⟨rfl, hr3, hk3⟩ := h₃
    have hkk : ∀ b o, b ∉ [I] → s'.heap.get? b = some o → s₃.heap.get? b = some o := fun b o hb e => hk3 b o (fun q => hb (q ▸ List.mem_singleton.mpr rfl)) e
    refine wpAny_execs_nil ?_
    exact ⟨.next ρ', σ', g', hf.symm, t.fresh, t.kp.ends (Z := [I]) hr3 hkk (fun b hb => List.mem_singleton.mp hb ▸ hI), t.lk.drop hZX hZ hkk, rfl, t.fr.drop fw hZX hZ hkk⟩
  | some x' =>
  have hf : ((exL F Fq q cb (ρ'.set i x') σ').calm.bind fun fl σ => match fl with | .next ρ => forIt its (fun x ρ σ => (exL F Fq q cb (ρ.set i x) σ).calm) n (j + 1) ρ σ | .ret v => .ok (.ret v) σ) = total := hf
  refine wpAny_mono (next_item hIin t.lk t.it hnx) (fun r s₃ h₃ => ?_) fun _ _ x => x
  obtain ⟨v, rfl, m1, it1, rv⟩ := h₃
  have hlI : env.locals ≠ I := fun h => hIX (h ▸ fw.loc)
  have hcI : ∀ x c, env.cells.lookup x = some c → c ≠ I := fun x c e h => hIX (h ▸ fw.cellX x c e)
  have fr1 := t.fr.mv m1 hIin hlI hcI
  refine wpAny_assign_Name (store_sound fr1 fw' hx rv fun b s4 hY hX m4 fr4 => ?_)
  have hbI : I ≠ b := fun h => hIya (h ▸ hY)
  have lk4 := m4.lk hX (m1.lk hIin t.lk)
  have it4 := it1.mv m4 hX hbI
  have kp3 : Kp f (ya env) s s₃ := t.kp.mv m1 hI
  have kp4 : Kp f (ya env) s s4 := kp3.trans t.fresh (m4.kp hY)
  have st4 : St S q d Γ sc env (ρ'.set i x') (f ++ g') (I :: X) σ' s4 A := ⟨st.cx.keep kp4 t.fresh, fr4, lk4⟩
  obtain ⟨fl5, σ5, e5, hne5, w5⟩ := hb.calm st4 fw' (by rw [hf]; exact hne)
  rw [e5] at hf
  refine wpAny_mono (w5 _) (fun fl s6 h6 => ?_) fun _ _ x => x
  obtain ⟨g6, hg6, k6, lk6, p6⟩ := h6
  have hXf : ∀ a ∈ I :: X, a ∉ addrs (f ++ g') := fun a ha => (lk4.hid a ha).2.1
  have it6 := it4.keepY k6 hg6 hIin hXf (ya_mem fw') hIya
  have kp6 : Kp f (ya env) s s6 := kp4.trans t.fresh k6
  have fg6 : Fresh (g' ++ g6) s := t.fresh.trans kp4.live hg6
  rw [List.append_assoc] at lk6 it6 p6
  cases fl5 with
  | next ρ6 =>
    obtain ⟨rfl, fr6⟩ := p6
    exact ⟨n, Nat.lt_succ_self n, j + 1, ρ6, σ5, g' ++ g6, hf, fg6, kp6, lk6, it6, fr6⟩
  | ret v6 =>
    obtain ⟨w6, rfl, r6⟩ := p6
    have hf : R.ok (Fl.ret v6) σ5 = total := hf
    exact ⟨.ret v6, σ5, g' ++ g6, hf.symm, fg6, kp6, lk6.drop (Z := []) (fun a ha => ⟨List.mem_cons_of_mem _ ha, fun h => nomatch h⟩) (fun a h => nomatch h) (fun _ _ _ e => e), w6, rfl, r6.less fun a ha => List.mem_cons_of_mem _ ha⟩

theorem ok_while {t : Expr} {c : CE} {body : List Stmt} {cb : List CS} {pos : Pos} (ht : TOk S F q d Γ sc t c) (hb : LSOk S F Fq q d Γ sc body cb) : SOk S F Fq q d Γ sc (.While t body [] pos) (.while c cb) := fun env ρ f X σ s A st fw hne => by
  have hq : q = false := by
    cases q with
    | false => rfl
    | true => rw [exS] at hne; simp at hne
  have key : exS F Fq q (.while c cb) ρ σ = whileL (fun ρ σ => ((evE F q c ρ σ).bind fun v σ => R.lift σ (truthy σ v)).calm) (fun ρ σ => (exL F Fq q cb ρ σ).calm) wFuel ρ σ := by rw [exS, hq, if_neg (by simp)]
  rw [key] at hne ⊢
  refine wpAny_While ?_
  generalize htot : whileL (fun ρ σ => ((evE F q c ρ σ).bind fun v σ => R.lift σ (truthy σ v)).calm) (fun ρ σ => (exL F Fq q cb ρ σ).calm) wFuel ρ σ = total at hne ⊢
  refine codeAny_whileLoop (fun n s' => ∃ ρ' σ' g, whileL (fun ρ σ => ((evE F q c ρ σ).bind fun v σ => R.lift σ (truthy σ v)).calm) (fun ρ σ => (exL F Fq q cb ρ σ).calm) n ρ' σ' = total ∧ Fresh g s ∧ Kp f (ya env) s s' ∧ Lk S X (f ++ g) σ' s'.heap ∧ FR S X (f ++ g) s'.heap env Γ sc ρ') ?_ wFuel
    ⟨ρ, σ, [], htot, .nil s, .refl f _ s, by rw [List.append_nil]; exact st.lk, by rw [List.append_nil]; exact st.fr⟩
  rintro n s' ⟨ρ', σ', g', hf, hg, kp, lk, fr⟩
  cases n with
  | zero => rw [whileL] at hf; exact absurd hf.symm hne
  | succ n =>
  rw [whileL] at hf
  have st1 : St S q d Γ sc env ρ' (f ++ g') X σ' s' A := ⟨st.cx.keep kp hg, fr, lk⟩
  obtain ⟨b, σ₂, _, e2, hne2, w2⟩ := Sim.calm (ht env ρ' _ X σ' s' A st1) (by rw [hf]; exact hne)
  rw [e2] at hf
  refine wpAny_mono (w2 _) (fun b' s₃ h₃ => ?_) fun _ _ x => x
  obtain ⟨g3, hg3, k3, lk3, hbb⟩ := h₃
  have hbb : b' = b := hbb
  subst hbb
  have st3 := st1.keep hg3 k3 lk3
  have kp3 : Kp f (ya env) s s₃ := kp.trans hg (k3.mono fun a h => nomatch h)
  have fg3 : Fresh (g' ++ g3) s := hg.trans kp.live hg3
  cases b' with
  | false =>
    have hf : R.ok (Fl.next ρ') σ₂ = total := hf
    refine wpAny_execs_nil ⟨.next ρ', σ₂, g' ++ g3, hf.symm, fg3, kp3, by rw [← List.append_assoc]; exact lk3, rfl, by rw [← List.append_assoc]; exact st3.fr⟩
  | true =>
    have hf : ((exL F Fq q cb ρ' σ₂).calm.bind fun fl σ => match fl with | .next ρ => whileL (fun ρ σ => ((evE F q c ρ σ).bind fun v σ => R.lift σ (truthy σ v)).calm) (fun ρ σ => (exL F Fq q cb ρ σ).calm) n ρ σ | .ret v => .ok (.ret v) σ) = total := hf
    obtain ⟨fl5, σ5, e5, hne5, w5⟩ := hb.calm st3 fw (by rw [hf]; exact hne)
    rw [e5] at hf
    show wpAny _ _ _ _ _ _
    refine wpAny_mono (w5 _) (fun fl s6 h6 => ?_) fun _ _ x => x
    obtain ⟨g6, hg6, k6, lk6, p6⟩ := h6
    have fg6 : Fresh ((g' ++ g3) ++ g6) s := fg3.trans kp3.live hg6
    have kp6 : Kp f (ya env) s s6 := kp3.trans fg3 (by rw [← List.append_assoc]; exact k6)
    have ea : f ++ g' ++ g3 ++ g6 = f ++ (g' ++ g3 ++ g6) := by simp [List.append_assoc]
    rw [ea] at lk6 p6
    cases fl5 with
    | next ρ6 =>
      obtain ⟨rfl, fr6⟩ := p6
      exact ⟨n, Nat.lt_succ_self n, ρ6, σ5, _, hf, fg6, kp6, lk6, fr6⟩
    | ret v6 =>
      obtain ⟨w6, rfl, r6⟩ := p6
      have hf : R.ok (Fl.ret v6) σ5 = total := hf
      exact ⟨.ret v6, σ5, _, hf.symm, fg6, kp6, lk6, w6, rfl, r6⟩
end
end Mine
end

/-! # Stmt4 -/
section
set_option autoImplicit false
namespace Mine
open PySem PyProof.Rows

section
variable {S : Stat} {C : Ctx} {T : Nat → Option Fn} {F Fq : Calls} {q : Bool} {d : Nat} {Γ : List Str} {sc : Scope}
variable {X X' Y Z : List Addr} {f g : List Loc} {σ : Sto} {s s' : Shared} {A : Around} {E : Value → Shared → Prop} {I a : Addr} {its : Items} {i : Nat} {env : Env} {ρ : List V}

theorem ok_raise {e c : Option Expr} {pos : Pos} {k : Cls} : SOk S F Fq q d Γ sc (.Raise e c pos) (.raise k) := fun env ρ f X σ s A st fw hne => (hne rfl).elim

theorem ok_try {body : List Stmt} {h₀ : ExceptHandler} {hs : List ExceptHandler} {cb : List CS} {pos : Pos} (hb : LSOk S F Fq q d Γ sc body cb) : SOk S F Fq q d Γ sc (.Try body (h₀ :: hs) [] [] pos) (.try cb) := fun env ρ f X σ s A st fw hne => by
  have e0 : exS F Fq q (.try cb) ρ σ = if q = true then .stuck else (exL F Fq q cb ρ σ).calm := rfl
  rw [e0] at hne ⊢
  by_cases hq : q = true
  · rw [if_pos hq] at hne; exact absurd rfl hne
  rw [if_neg hq] at hne ⊢
  cases hx : exL F Fq q cb ρ σ with
  | stuck => rw [hx] at hne; exact absurd rfl hne
  | exc c σ' => rw [hx] at hne; exact absurd rfl hne
  | ok x σ' =>
    have h := hb env ρ f X σ s A st fw (by rw [hx]; simp)
    rw [hx] at h
    refine wpAny_Try_except (wpAny_mono h (fun fl s' hq => ?_) fun e s' he => ?_)
    · cases fl with
      | next => exact wpAny_execs_nil hq
      | _ => exact hq
    · obtain ⟨c, σ'', g, ea, e1, e2, r⟩ := he
      cases e2

theorem Kp.go {s₁ s₂ : Shared} (k : Kp f Y s s₁) (k' : Kp f Y s₁ s₂) : Kp f Y s s₂ := k.trans (g := []) (.nil s) (by rw [List.append_nil]; exact k')

theorem ok_unpack3 {x y z : Str} {p1 p2 p3 tp pos cp : Pos} {n : Nat} {fn : Expr} {args : List Expr} {kws : List Keyword} {c : CE} {j k : Nat} (hi : slotOf Γ sc x = some i) (hj : slotOf Γ sc y = some j) (hk : slotOf Γ sc z = some k)
    (h : EOk S F q d Γ sc (.Call fn args kws cp) c) : SOk S F Fq q d Γ sc (.Assign [.Tuple [.Name x p1, .Name y p2, .Name z p3] n tp] (.Call fn args kws cp) pos) (.unpack3 i j k c) := fun env ρ f X σ s A st fw hne => by
  rw [exS] at hne ⊢
  by_cases hq : q = true
  · rw [if_pos hq] at hne; exact absurd rfl hne
  rw [if_neg hq] at hne ⊢
  have hh : A.handled = none := st.cx.hand (by simpa using hq)
  refine Assign_Tuple ?_ rfl rfl
  refine Sim.goS (Γ := Γ) (sc := sc) (h env ρ f X σ s A st) hne (fun _ _ x => x) (fun _ _ x => x) fun va a' σ₁ g₁ s₁ hne hg kp L ra hQ hE => ?_
  split at hne
  · rename_i v1 v2 v3
    obtain ⟨ad, vs, m, rfl, hx, il, rs, _⟩ := vr_tup ra
    have hz := VRs_size rs
    have hvs : ∃ w1 w2 w3, vs.toList = [w1, w2, w3] ∧ VR S X (f ++ g₁) s₁.heap v1 w1 ∧ VR S X (f ++ g₁) s₁.heap v2 w2 ∧ VR S X (f ++ g₁) s₁.heap v3 w3 := by
      match hl : vs.toList, rs with
      | [w1, w2, w3], rs => rw [VRs, VRs, VRs] at rs; exact ⟨w1, w2, w3, rfl, rs.1, rs.2.1, rs.2.2.1⟩
      | [], rs => rw [VRs] at rs; exact rs.elim
      | [_], rs => rw [VRs, VRs] at rs; exact rs.2.elim
      | [_, _], rs => rw [VRs, VRs, VRs] at rs; exact rs.2.2.elim
      | _ :: _ :: _ :: _ :: _, rs => rw [VRs, VRs, VRs, VRs] at rs; exact rs.2.2.2.elim
    obtain ⟨w1, w2, w3, hl, r1, r2, r3⟩ := hvs
    refine wpAny_assign_Tuple hh ⟨_, il, rfl, m, rfl⟩ (by show 3 = vs.size; rw [← Array.length_toList, hl]; rfl) rfl fun h' he => ?_
    rw [hl]
    have ex : Ext s₁ { s₁ with heap := h' } := ⟨rfl, fun b o e => he b o (fun q => by have := Heap.lt_size e; rw [q] at this; exact Nat.lt_irrefl _ this) e⟩
    have k0 : Kp (f ++ g₁) (ya env) s₁ { s₁ with heap := h' } := ex.kp _ _
    have fr0 := (st.keep hg kp L).fr.keep L (ex.kp _ []) (.nil s₁)
    rw [List.append_nil] at fr0
    have L0 := ex.lk L
    show wpAny _ _ (do holding [w2, w3] (assign (.Name x p1) env w1); assignInOrder [assign (.Name y p2) env, assign (.Name z p3) env] [w2, w3]) _ _ _
    refine wpAny_bind (wpAny_holding (wpAny_assign_Name (store_sound fr0 fw hi (ex.vr r1) fun b1 t1 hY1 hX1 m1 fr1 => ?_)))
    show wpAny _ _ (do holding [w3] (assign (.Name y p2) env w2); assignInOrder [assign (.Name z p3) env] [w3]) _ _ _
    refine wpAny_bind (wpAny_holding (wpAny_assign_Name (store_sound fr1 fw hj (m1.vr hX1 (ex.vr r2)) fun b2 t2 hY2 hX2 m2 fr2 => ?_)))
    show wpAny _ _ (do holding [] (assign (.Name z p3) env w3); assignInOrder [] []) _ _ _
    refine wpAny_bind (wpAny_holding (wpAny_assign_Name (store_sound fr2 fw hk (m2.vr hX2 (m1.vr hX1 (ex.vr r3))) fun b3 t3 hY3 hX3 m3 fr3 => ?_)))
    refine wpAny_pure (hQ _ _ ⟨_, σ₁, [], rfl, .nil s₁, ((k0.go (m1.kp hY1)).go (m2.kp hY2)).go (m3.kp hY3), ?_, rfl, ?_⟩)
    · rw [List.append_nil]; exact m3.lk hX3 (m2.lk hX2 (m1.lk hX1 L0))
    · rw [List.append_nil]; exact fr3
  · exact absurd rfl hne
end
end Mine
end

/-! # Sound -/
section
set_option autoImplicit false
set_option linter.unusedVariables false
namespace Mine
open PySem PyProof.Rows

section
variable {S : Stat} {C : Ctx} {T : Nat → Option Fn} {F Fq : Calls} {q : Bool} {d : Nat}

theorem GOk.of {Γ : List Str} {sc : Scope} {e : Expr} {c : CE} (h : EOk S F q d Γ sc e c) (he : ∀ env whole, isTrue e env whole = (do let v ← whole; standAt e.pos; holding [v] (PySem.truthy v))) (hs : isStar e = false) (hm : ∀ op, behindInMarks op e = false) (hf : ∀ env x, foldedSetIterable e env x = pure x) : GOk S F q d Γ sc e c :=
  ⟨h, .plain h he, hs, hm, hf⟩

theorem mapM_all2 {ops : List CmpOp} {os : List P2} (h : ops.mapM cmpOf = some os) : All2 (fun op o => cmpOf op = some o) ops os := by
  induction ops generalizing os with
  | nil => simp at h; subst h; exact .nil
  | cons op ops ih =>
    simp only [List.mapM_cons] at h
    cases h1 : cmpOf op with
    | none => simp [h1] at h
    | some o =>
      cases h2 : ops.mapM cmpOf with
      | none => simp [h1, h2] at h
      | some os' =>
        simp [h1, h2] at h
        subst h
        exact .cons h1 (ih h2)

theorem notDebug_of {x : Str} {Γ : List Str} {sc : Scope} {c : CE} (h : cName C Γ sc x = some c) : (x == ("__debug__" : Str)) = false := by
  unfold cName at h
  split at h
  · cases h
  · rename_i hn; simp only [Bool.or_eq_true, not_or, Bool.not_eq_true] at hn; exact hn.1

/-- the names that the text may not take for its own -/
structure Clean (C : Ctx) : Prop where
  dbg : C.fns.lookup ("__debug__" : Str) = none
  isin : C.fns.lookup ("isinstance" : Str) = none
  rng : C.fns.lookup ("range" : Str) = none

theorem Clean.nd (cl : Clean C) {x : Str} {n : Nat} (h : C.fns.lookup x = some n) : (x == ("__debug__" : Str)) = false := by
  cases e : (x == ("__debug__" : Str)) with
  | false => rfl
  | true => rw [eq_of_beq e, cl.dbg] at h; cases h

theorem g_name (fs : Facts S C T) {Γ : List Str} {sc : Scope} {x : Str} {pos : Pos} {c : CE} (h : cName C Γ sc x = some c) : GOk S F q d Γ sc (.Name x pos) c :=
  .of (ok_name fs h) (fun _ _ => rfl) rfl (fun _ => rfl) fun _ _ => rfl
theorem g_call {Γ : List Str} {sc : Scope} {f : Expr} {es : List Expr} {pos : Pos} {c : CE} (h : EOk S F q d Γ sc (.Call f es [] pos) c) : GOk S F q d Γ sc (.Call f es [] pos) c :=
  .of h (fun _ _ => rfl) rfl (fun _ => rfl) fun _ _ => rfl
theorem g_sub {Γ : List Str} {sc : Scope} {o i : Expr} {pos : Pos} {c : CE} (h : EOk S F q d Γ sc (.Subscript o i pos) c) : GOk S F q d Γ sc (.Subscript o i pos) c :=
  .of h (fun _ _ => rfl) rfl (fun _ => rfl) fun _ _ => rfl
noncomputable def IfOk (S : Stat) (F : Calls) (q : Bool) (d : Nat) (Γ : List Str) (sc : Scope) (ifs : List Expr) (cond : Option CE) : Prop := (ifs = [] ∧ cond = none) ∨ ∃ e c, ifs = [e] ∧ cond = some c ∧ TOk S F q d Γ sc e c
noncomputable def OptOk (S : Stat) (F : Calls) (q : Bool) (d : Nat) (Γ : List Str) (sc : Scope) (o : Option Expr) (c : Option CE) : Prop := (o = none ∧ c = none) ∨ ∃ e' c', o = some e' ∧ c = some c' ∧ EOk S F q d Γ sc e' c'

section
variable {rec : List Str → Scope → Expr → Option CE}

theorem cL_ok (hr : ∀ Γ sc e c, rec Γ sc e = some c → GOk S F q d Γ sc e c) {Γ : List Str} {sc : Scope} : ∀ {es : List Expr} {cs : List CE}, cL rec Γ sc es = some cs → All2 (GOk S F q d Γ sc) es cs
  | [], cs, h => by cases h; exact .nil
  | e :: es, cs, h => by
    unfold cL at h
    split at h
    · cases h
    · simp only [Option.bind_eq_some_iff, Option.map_eq_some_iff] at h
      obtain ⟨a, ha, as, has, rfl⟩ := h
      exact .cons (hr Γ sc e a ha) (cL_ok hr has)

theorem cOpt_ok (hr : ∀ Γ sc e c, rec Γ sc e = some c → GOk S F q d Γ sc e c) {Γ : List Str} {sc : Scope} {o : Option Expr} {c : Option CE} (h : cOpt rec Γ sc o = some c) : OptOk S F q d Γ sc o c := by
  cases o with
  | none => cases h; exact .inl ⟨rfl, rfl⟩
  | some e =>
    have h : (rec Γ sc e).map some = some c := h
    simp only [Option.map_eq_some_iff] at h
    obtain ⟨a, ha, rfl⟩ := h
    exact .inr ⟨e, a, rfl, rfl, (hr Γ sc e a ha).eo⟩

theorem cIf_ok (hr : ∀ Γ sc e c, rec Γ sc e = some c → GOk S F q d Γ sc e c) {Γ : List Str} {sc : Scope} {o : List Expr} {c : Option CE} (h : cIf rec Γ sc o = some c) : IfOk S F q d Γ sc o c := by
  match o, h with
  | [], h => cases h; exact .inl ⟨rfl, rfl⟩
  | [e], h =>
    have h : (rec Γ sc e).map some = some c := h
    simp only [Option.map_eq_some_iff] at h
    obtain ⟨a, ha, rfl⟩ := h
    exact .inr ⟨e, a, rfl, rfl, (hr Γ sc e a ha).to⟩
  | _ :: _ :: _, h => cases h

theorem cConst_ok {Γ : List Str} {sc : Scope} {k : Const} {n : Nat} {pos : Pos} {c : CE} (h : cConst k = some c) : GOk S F q d Γ sc (.Constant k n pos) c := by
  cases k with
  | none => cases h; exact .of ok_none (fun _ _ => rfl) rfl (fun _ => rfl) fun _ _ => rfl
  | bool b => cases h; exact .of ok_bool (fun _ _ => rfl) rfl (fun _ => rfl) fun _ _ => rfl
  | int i => cases h; exact .of ok_int (fun _ _ => rfl) rfl (fun _ => rfl) fun _ _ => rfl
  | str s =>
    simp only [cConst] at h
    split at h
    · rename_i hs; cases h; exact .of (ok_str hs) (fun _ _ => rfl) rfl (fun _ => rfl) fun _ _ => rfl
    · cases h
  | _ => cases h

theorem cCmp_ok (fs : Facts S C T) (hr : ∀ Γ sc e c, rec Γ sc e = some c → GOk S F q d Γ sc e c) {Γ : List Str} {sc : Scope} {a : Expr} {ops : List CmpOp} {cs : List Expr} {pos : Pos} {c : CE} (h : cCmp rec Γ sc a ops cs = some c) : GOk S F q d Γ sc (.Compare a ops cs pos) c := by
  unfold cCmp at h
  split at h
  · cases h
  rename_i hlen
  have hlen : ops.length = cs.length := by simpa using hlen
  split at h
  · split at h
    · rename_i hc
      simp only [Bool.and_eq_true] at hc
      obtain rfl := eq_of_beq hc.1
      obtain ⟨k, p, rfl⟩ := isNoneC_eq hc.2
      simp only [Option.map_eq_some_iff] at h
      obtain ⟨a', ha, rfl⟩ := h
      have g := (hr Γ sc a a' ha).eo
      exact ⟨ok_isNone fs g, .cmp1 rfl (ok_isNone fs g), rfl, fun _ => rfl, fun _ _ => rfl⟩
    · split at h
      · rename_i hc
        simp only [Bool.and_eq_true] at hc
        obtain rfl := eq_of_beq hc.1
        obtain ⟨k, p, rfl⟩ := isNoneC_eq hc.2
        simp only [Option.map_eq_some_iff] at h
        obtain ⟨a', ha, rfl⟩ := h
        have g := (hr Γ sc a a' ha).eo
        exact ⟨ok_isNotNone fs g, .cmp1 rfl (ok_isNotNone fs g), rfl, fun _ => rfl, fun _ _ => rfl⟩
      · simp only [Option.bind_eq_some_iff, Option.map_eq_some_iff] at h
        obtain ⟨o, ho, x, hx, y, hy, rfl⟩ := h
        have g2 := hr Γ sc _ y hy
        have g := ok_cmp (pos := pos) fs ho (g2.marks _) (hr Γ sc a x hx).eo g2.eo
        exact ⟨g, .cmp1 (g2.marks _) g, rfl, fun _ => rfl, fun _ _ => rfl⟩
  · simp only [Option.bind_eq_some_iff, Option.map_eq_some_iff] at h
    obtain ⟨os, ho, x, hx, ys, hy, rfl⟩ := h
    have g := ok_chain (pos := pos) fs (hr Γ sc a x hx).eo (mapM_all2 ho) (cL_ok hr hy) hlen
    exact ⟨g.1, g.2, rfl, fun _ => rfl, fun _ _ => rfl⟩

theorem cSrc_ok (fs : Facts S C T) (cl : Clean C) (hr : ∀ Γ sc e c, rec Γ sc e = some c → GOk S F q d Γ sc e c) {Γ : List Str} {sc : Scope} {e : Expr} {k : SK} {cs : List CE} (h : cSrc rec Γ sc e = some (k, cs)) : SrcOk S F q d Γ sc e k cs := by
  have hv : Option.map (fun a => (SK.val, [a])) (rec Γ sc e) = some (k, cs) → SrcOk S F q d Γ sc e k cs := fun h => by
    simp only [Option.map_eq_some_iff] at h
    obtain ⟨a, ha, e'⟩ := h
    cases e'
    exact src_val (hr Γ sc e a ha)
  unfold cSrc at h
  split at h
  · rename_i fn args kws hc
    obtain ⟨pc, rfl⟩ := callParts?_eq hc
    split at h
    · rename_i f hn
      obtain ⟨p, rfl⟩ := nameOf?_eq hn
      split at h
      · rename_i hf
        obtain rfl := eq_of_beq hf
        split at h
        · rename_i hg
          simp only [Bool.and_eq_true, List.isEmpty_iff] at hg
          obtain ⟨hg, rfl⟩ := hg
          simp only [Option.bind_eq_some_iff] at h
          obtain ⟨es, hes, h⟩ := h
          have ga := cL_ok hr hes
          split at h
          · cases h; exact src_range fs hg cl.rng ga (.inl ⟨rfl, rfl⟩)
          · cases h; exact src_range fs hg cl.rng ga (.inr ⟨rfl, rfl⟩)
          · cases h
        · cases h
      · exact hv h
    · exact hv h
  · exact hv h

theorem cComp_ok (fs : Facts S C T) (cl : Clean C) (hr : ∀ Γ sc e c, rec Γ sc e = some c → GOk S F q d Γ sc e c) {Γ : List Str} {sc scope : Scope} {elt : Expr} {gens : List Comprehension} {c : CE} (h : cComp rec Γ sc elt gens scope = some c) :
    ∃ x px iter ifs ce cond k cs, gens = [⟨.Name x px, iter, ifs, 0⟩] ∧ CompOk Γ sc scope x ∧ SrcOk S F q d Γ sc iter k cs ∧ IfOk S F q d (Γ ++ [x]) scope ifs cond ∧ EOk S F q d (Γ ++ [x]) scope elt ce ∧ c = .comp ce k cs cond := by
  unfold cComp at h
  split at h
  · rename_i g
    obtain ⟨tgt, iter, ifs, n⟩ := g
    simp only [Option.bind_eq_some_iff] at h
    obtain ⟨x, hx, h⟩ := h
    obtain ⟨px, rfl⟩ := nameOf?_eq hx
    split at h
    · cases h
    · rename_i hok
      simp only [Bool.or_eq_true, not_or, Bool.not_eq_true, bne_eq_false_iff_eq, Bool.not_eq_false'] at hok
      obtain ⟨rfl, hok⟩ := hok
      simp only [Option.bind_eq_some_iff, Option.map_eq_some_iff] at h
      obtain ⟨⟨k, cs⟩, h1, cond, h2, ce, h3, rfl⟩ := h
      exact ⟨x, px, iter, ifs, ce, cond, k, cs, rfl, compOk_of hok, cSrc_ok fs cl hr h1, cIf_ok hr h2, (hr _ scope elt ce h3).eo, rfl⟩
  · cases h

theorem cSub_ok (fs : Facts S C T) (hr : ∀ Γ sc e c, rec Γ sc e = some c → GOk S F q d Γ sc e c) {Γ : List Str} {sc : Scope} {o i : Expr} {pos : Pos} {c : CE} (h : cSub C rec Γ sc o i pos = some c) : GOk S F q d Γ sc (.Subscript o i pos) c := by
  unfold cSub at h
  split at h
  · rename_i lo hi hs
    obtain ⟨p, rfl⟩ := sliceParts?_eq hs
    simp only [Option.bind_eq_some_iff, Option.map_eq_some_iff] at h
    obtain ⟨a, ha, l, hl, u, hu, rfl⟩ := h
    exact g_sub (trkAt_ok (ok_slice (hr Γ sc o a ha).eo (cOpt_ok hr hl) (cOpt_ok hr hu)))
  · simp only [Option.bind_eq_some_iff, Option.map_eq_some_iff] at h
    obtain ⟨a, ha, b, hb, rfl⟩ := h
    exact g_sub (ok_index fs (hr Γ sc o a ha).eo (hr Γ sc i b hb).eo)

theorem cMeth_ok (hr : ∀ Γ sc e c, rec Γ sc e = some c → GOk S F q d Γ sc e c) {Γ : List Str} {sc : Scope} {o : Expr} {m : Str} {apos pos : Pos} {args : List Expr} {c : CE} (h : cMeth rec Γ sc o m apos args pos = some c) : GOk S F q d Γ sc (.Call (.Attribute o m apos) args [] pos) c := by
  unfold cMeth at h
  split at h
  · cases h
  rename_i hc
  simp only [Bool.or_eq_true, not_or, Bool.not_eq_true, Bool.not_eq_false', bne_eq_false_iff_eq] at hc
  split at h
  · split at h
    · cases h
    rename_i hx
    split at h
    · rename_i hm
      simp only [Option.bind_eq_some_iff, Option.map_eq_some_iff] at h
      obtain ⟨a, ha, b, hb, rfl⟩ := h
      obtain rfl := eq_of_beq hm
      exact g_call (ok_append (by simpa using hc.1) (by simpa using hc.2) (by simpa using hx) (hr Γ sc o a ha).eo (hr Γ sc _ b hb).eo)
    · simp only [Option.bind_eq_some_iff, Option.map_eq_some_iff] at h
      obtain ⟨p, hp, a, ha, b, hb, rfl⟩ := h
      exact g_call (ok_sm hp (by simpa using hc.1) (by simpa using hc.2) (by simpa using hx) (hr Γ sc o a ha).eo (hr Γ sc _ b hb).eo)
  · cases h

theorem cFun_ok (fs : Facts S C T) (FSs : FS S F q d) (cl : Clean C) (hr : ∀ Γ sc e c, rec Γ sc e = some c → GOk S F q d Γ sc e c) {Γ : List Str} {sc : Scope} {f : Str} {args : List Expr} {p pos : Pos} {c : CE} (h : cFun C rec Γ sc f args pos = some c) : GOk S F q d Γ sc (.Call (.Name f p) args [] pos) c := by
  unfold cFun at h
  split at h
  · cases h
  rename_i hg
  have hg : isGlob sc f = true := by simpa using hg
  split at h
  · rename_i hf
    obtain rfl := eq_of_beq hf
    unfold cIsinst at h
    split at h
    · split at h
      · cases h
      rename_i hx
      simp only [Option.bind_eq_some_iff] at h
      obtain ⟨kn, hkn, h⟩ := h
      obtain ⟨pk, rfl⟩ := nameOf?_eq hkn
      split at h
      · rename_i hgk
        simp only [Option.bind_eq_some_iff, Option.map_eq_some_iff] at h
        obtain ⟨kd, hk, a, ha, rfl⟩ := h
        exact g_call (ok_isinst fs hg cl.isin hk hgk (by simpa using hx) (hr Γ sc _ a ha).eo)
      · cases h
    · cases h
  · simp only [Option.bind_eq_some_iff] at h
    obtain ⟨es, hes, h⟩ := h
    have ga := cL_ok hr hes
    split at h
    · rename_i n hn
      cases h
      exact g_call (ok_call fs FSs hg (cl.nd hn) hn ga)
    · rename_i hn
      split at h
      · simp only [Option.map_eq_some_iff] at h
        obtain ⟨o, ho, h⟩ := h
        cases ga with
        | cons g1 gs =>
          cases gs
          split at h
          · subst h; exact g_call (trkAt_ok (ok_b1 fs hg hn ho g1))
          · subst h; exact g_call (ok_b1 fs hg hn ho g1).eok
      · simp only [Option.map_eq_some_iff] at h
        obtain ⟨o, ho, rfl⟩ := h
        cases ga with
        | cons g1 gs =>
          cases gs with
          | cons g2 gs =>
            cases gs
            exact g_call (ok_b2 fs hg hn ho g1.star g2.star g1.eo g2.eo)
      · cases h

theorem cCall_ok (fs : Facts S C T) (FSs : FS S F q d) (cl : Clean C) (hr : ∀ Γ sc e c, rec Γ sc e = some c → GOk S F q d Γ sc e c) {Γ : List Str} {sc : Scope} {fn : Expr} {args : List Expr} {kws : List Keyword} {pos : Pos} {c : CE} (h : cCall C rec Γ sc fn args kws pos = some c) : GOk S F q d Γ sc (.Call fn args kws pos) c := by
  unfold cCall at h
  split at h
  · cases h
  rename_i hk
  simp only [Bool.or_eq_true, not_or, Bool.not_eq_true, Bool.not_eq_false', List.isEmpty_iff] at hk
  obtain ⟨rfl, hk⟩ := hk
  split at h
  · rename_i o m apos ha
    obtain rfl := attrParts?_eq ha
    exact cMeth_ok hr h
  · simp only [Option.bind_eq_some_iff] at h
    obtain ⟨f, hf, h⟩ := h
    obtain ⟨p, rfl⟩ := nameOf?_eq hf
    exact cFun_ok fs FSs cl hr h

theorem stepE_ok (fs : Facts S C T) (FSs : FS S F q d) (cl : Clean C) (hr : ∀ Γ sc e c, rec Γ sc e = some c → GOk S F q d Γ sc e c) {Γ : List Str} {sc : Scope} {e : Expr} {c : CE} (h : stepE C rec Γ sc e = some c) : GOk S F q d Γ sc e c := by
  cases e with
  | Constant k n pos => exact cConst_ok h
  | Name x pos => exact g_name fs h
  | BoolOp op vs pos =>
    have h : ((cL rec Γ sc vs).bind fun es => foldBool (op == .And) es) = some c := h
    simp only [Option.bind_eq_some_iff] at h
    obtain ⟨es, h1, h2⟩ := h
    have := ok_bools (pos := pos) (cL_ok hr h1) h2
    exact ⟨this.1, this.2, rfl, fun _ => rfl, fun _ _ => rfl⟩
  | BinOp l op r pos =>
    have h : ((binOf op).bind fun o => (rec Γ sc l).bind fun a => (rec Γ sc r).map fun b => trkAt C pos (.p2 o a b)) = some c := h
    simp only [Option.bind_eq_some_iff, Option.map_eq_some_iff] at h
    obtain ⟨o, ho, a, ha, b, hb, rfl⟩ := h
    exact .of (trkAt_ok (ok_BinOp ho (hr Γ sc l a ha).eo (hr Γ sc r b hb).eo)) (fun _ _ => rfl) rfl (fun _ => rfl) fun _ _ => rfl
  | UnaryOp op x pos =>
    cases op with
    | Not =>
      have h : (rec Γ sc x).map (.p1 .not) = some c := h
      simp only [Option.map_eq_some_iff] at h
      obtain ⟨a, ha, rfl⟩ := h
      have g := hr Γ sc x a ha
      exact ⟨ok_not g.eo, g.to.not, rfl, fun _ => rfl, fun _ _ => rfl⟩
    | USub =>
      have h : (rec Γ sc x).map (.p1 .neg) = some c := h
      simp only [Option.map_eq_some_iff] at h
      obtain ⟨a, ha, rfl⟩ := h
      exact .of (ok_neg (hr Γ sc x a ha).eo) (fun _ _ => rfl) rfl (fun _ => rfl) fun _ _ => rfl
    | UAdd => cases h
    | Invert => cases h
  | Compare a ops cs pos => exact cCmp_ok fs hr h
  | List es pos =>
    have h : (if es.length ≤ 1000 then (cL rec Γ sc es).map fun es => trkAt C pos (.list es) else none) = some c := h
    split at h
    · rename_i hl
      simp only [Option.map_eq_some_iff] at h
      obtain ⟨cs, h1, rfl⟩ := h
      exact .of (trkAt_ok (ok_list hl (cL_ok hr h1))) (fun _ _ => rfl) rfl (fun _ => rfl) fun _ _ => rfl
    · cases h
  | Tuple es k pos =>
    have h : (if es.length ≤ 1000 then (cL rec Γ sc es).map .tup else none) = some c := h
    split at h
    · rename_i hl
      simp only [Option.map_eq_some_iff] at h
      obtain ⟨cs, h1, rfl⟩ := h
      exact .of (ok_tuple hl (cL_ok hr h1)) (fun _ _ => rfl) rfl (fun _ => rfl) fun _ _ => rfl
    · cases h
  | ListComp elt gens scope pos =>
    have h : ((cComp rec Γ sc elt gens scope).map fun e => trkAt C pos e) = some c := h
    simp only [Option.map_eq_some_iff] at h
    obtain ⟨c', h', rfl⟩ := h
    obtain ⟨x, px, iter, ifs, ce, cond, k, cs, rfl, h1, h2, h3, h4, rfl⟩ := cComp_ok fs cl hr h'
    exact .of (trkAt_ok (ok_comp h1 h2 h3 h4)) (fun _ _ => rfl) rfl (fun _ => rfl) fun _ _ => rfl
  | Subscript o i pos => exact cSub_ok fs hr h
  | Call fn args kws pos => exact cCall_ok fs FSs cl hr h
  | _ => cases h
end

theorem cE_ok (fs : Facts S C T) (FSs : FS S F q d) (cl : Clean C) : ∀ (n : Nat) (Γ : List Str) (sc : Scope) (e : Expr) (c : CE), cE C n Γ sc e = some c → GOk S F q d Γ sc e c
  | 0, _, _, _, _, h => by cases h
  | n + 1, Γ, sc, e, c, h => stepE_ok fs FSs cl (cE_ok fs FSs cl n) h

theorem no_swap {n : Nat} {Γ : List Str} {sc : Scope} {e : Expr} {c : CE} (h : cE C n Γ sc e = some c) (hc : isComp e = false) : ∀ env n t, swapsWith e t n env = pure false := fun env _ t =>
  swaps_no hc (fun el gs sc p e' => by subst e'; cases n <;> cases h) (fun k v gs sc p e' => by subst e'; cases n <;> cases h)

section
variable {rec : Stmt → Option CS} {Γ : List Str} {sc : Scope}

theorem cSLs_ok (hr : ∀ s c, rec s = some c → SOk S F Fq q d Γ sc s c) : ∀ {ss : List Stmt} {cs : List CS}, cSLs rec ss = some cs → LSOk S F Fq q d Γ sc ss cs
  | [], cs, h => by cases h; exact ok_nil
  | s :: ss, cs, h => by
    have h : ((rec s).bind fun a => (cSLs rec ss).map fun as => a :: as) = some cs := h
    simp only [Option.bind_eq_some_iff, Option.map_eq_some_iff] at h
    obtain ⟨a, ha, as, has, rfl⟩ := h
    exact ok_cons (hr s a ha) (cSLs_ok hr has)

theorem tup3?_eq {t : Expr} {x y z : Str} (h : tup3? t = some (x, y, z)) : ∃ p1 p2 p3 n tp, t = .Tuple [.Name x p1, .Name y p2, .Name z p3] n tp := by
  unfold tup3? at h
  split at h
  · simp only [Option.bind_eq_some_iff, Option.map_eq_some_iff] at h
    obtain ⟨x', hx, y', hy, z', hz, e⟩ := h
    cases e
    obtain ⟨p1, rfl⟩ := nameOf?_eq hx
    obtain ⟨p2, rfl⟩ := nameOf?_eq hy
    obtain ⟨p3, rfl⟩ := nameOf?_eq hz
    exact ⟨p1, p2, p3, _, _, rfl⟩
  · cases h

theorem cAsg_ok (fs : Facts S C T) (FSs : FS S F q d) (cl : Clean C) {t e : Expr} {pos : Pos} {c : CS} (h : cAsg C Γ sc t e = some c) : SOk S F Fq q d Γ sc (.Assign [t] e pos) c := by
  have hE := cE_ok (F := F) (q := q) (d := d) fs FSs cl deep
  unfold cAsg at h
  split at h
  · rename_i x hx
    obtain ⟨px, rfl⟩ := nameOf?_eq hx
    simp only [Option.bind_eq_some_iff, Option.map_eq_some_iff] at h
    obtain ⟨i, hi, a, ha, rfl⟩ := h
    cases hc : isComp e with
    | false => exact ok_asg hi (hE Γ sc _ a ha).eo (no_swap ha hc)
    | true =>
      cases e with
      | ListComp elt gens scope p =>
        have ha : ((cComp (cE C 29) Γ sc elt gens scope).map fun e => trkAt C p e) = some a := ha
        simp only [Option.map_eq_some_iff] at ha
        obtain ⟨c', h', rfl⟩ := ha
        obtain ⟨x, px, iter, ifs, ce, cond, k, cs, rfl, h1, h2, h3, h4, rfl⟩ := cComp_ok fs cl (cE_ok fs FSs cl 29) h'
        refine ok_comp_asg hi h1 h2 h3 h4 ?_
        unfold trkAt
        split
        · exact .inr rfl
        · exact .inl rfl
      | _ => cases hc
  · split at h
    · rename_i p hp
      obtain ⟨p', rfl⟩ := subParts?_eq hp
      split at h
      · cases h
      · rename_i hc
        simp only [Option.bind_eq_some_iff, Option.map_eq_some_iff] at h
        obtain ⟨v, hv, a, ha, b, hb, rfl⟩ := h
        exact ok_setItem (hE Γ sc _ a ha).eo (hE Γ sc _ b hb).eo (hE Γ sc _ v hv).eo (no_swap hv (by simpa using hc)) fun n k v σ es h => by simp [doSetItem, h]
    · unfold cAsg3 at h
      simp only [Option.bind_eq_some_iff] at h
      obtain ⟨⟨x, y, z⟩, hp, h⟩ := h
      obtain ⟨p1, p2, p3, n, tp, rfl⟩ := tup3?_eq hp
      split at h
      · cases h
      · rename_i hc
        obtain ⟨⟨fn, args, kws⟩, hcp⟩ := Option.isSome_iff_exists.mp (Option.isSome_iff_ne_none.mpr (by simpa using hc) : (callParts? e).isSome = true)
        obtain ⟨cp, rfl⟩ := callParts?_eq hcp
        simp only [Option.bind_eq_some_iff, Option.map_eq_some_iff] at h
        obtain ⟨i, hi, j, hj, k, hk, c', hc', rfl⟩ := h
        exact ok_unpack3 hi hj hk (hE Γ sc _ c' hc').eo

theorem stepS_ok (fs : Facts S C T) (FSs : FS S F q d) (cl : Clean C) (hr : ∀ s c, rec s = some c → SOk S F Fq q d Γ sc s c) {s : Stmt} {c : CS} (h : stepS C Γ sc rec s = some c) : SOk S F Fq q d Γ sc s c := by
  have hE := cE_ok (F := F) (q := q) (d := d) fs FSs cl deep
  cases s with
  | Return v pos =>
    cases v with
    | none => cases h
    | some e =>
      have h : (cE C deep Γ sc e).map .ret = some c := h
      simp only [Option.map_eq_some_iff] at h
      obtain ⟨a, ha, rfl⟩ := h
      exact ok_ret (hE Γ sc _ a ha).eo
  | Assign ts e pos =>
    match ts, h with
    | [], h => cases h
    | [t], h => exact cAsg_ok fs FSs cl h
    | _ :: _ :: _, h => cases h
  | If t a b pos =>
    have h : ((cE C deep Γ sc t).bind fun t => (cSLs rec a).bind fun a => (cSLs rec b).map fun b => .ite t a b) = some c := h
    simp only [Option.bind_eq_some_iff, Option.map_eq_some_iff] at h
    obtain ⟨t', ht, a', ha, b', hb, rfl⟩ := h
    exact ok_if (hE Γ sc _ t' ht).to (cSLs_ok hr ha) (cSLs_ok hr hb)
  | For x iter body orelse pos =>
    cases orelse with
    | cons _ _ => cases h
    | nil =>
      have h : ((nameOf? x).bind fun x => (slotOf Γ sc x).bind fun i => (cSrc (cE C deep) Γ sc iter).bind fun s => (cSLs rec body).map fun b => .for i s.1 s.2 b) = some c := h
      simp only [Option.bind_eq_some_iff, Option.map_eq_some_iff] at h
      obtain ⟨xn, hx, i, hi, ⟨k, cs⟩, hs, b, hb, rfl⟩ := h
      obtain ⟨px, rfl⟩ := nameOf?_eq hx
      exact ok_for hi (cSrc_ok fs cl hE hs) (cSLs_ok hr hb)
  | While t body orelse pos =>
    cases orelse with
    | cons _ _ => cases h
    | nil =>
      have h : ((cE C deep Γ sc t).bind fun t => (cSLs rec body).map fun b => .while t b) = some c := h
      simp only [Option.bind_eq_some_iff, Option.map_eq_some_iff] at h
      obtain ⟨t', ht, b, hb, rfl⟩ := h
      exact ok_while (hE Γ sc _ t' ht).to (cSLs_ok hr hb)
  | Expr e pos =>
    have h : (if isComp e then none else (cE C deep Γ sc e).map .exp) = some c := h
    split at h
    · cases h
    · rename_i hc
      simp only [Option.map_eq_some_iff] at h
      obtain ⟨a, ha, rfl⟩ := h
      exact ok_exp (hE Γ sc _ a ha).eo (no_swap ha (by simpa using hc))
  | Pass pos => cases h; exact ok_pass
  | Raise e c' pos => cases h; exact ok_raise
  | Try body hs oe fb pos =>
    match hs, oe, fb, h with
    | h₀ :: hs, [], [], h =>
      have h : (cSLs rec body).map CS.try = some c := h
      simp only [Option.map_eq_some_iff] at h
      obtain ⟨b, hb, rfl⟩ := h
      exact ok_try (cSLs_ok hr hb)
    | [], _, _, h => cases h
    | _ :: _, _ :: _, _, h => cases h
    | _ :: _, [], _ :: _, h => cases h
  | _ => cases h
end

theorem cS_ok (fs : Facts S C T) (FSs : FS S F q d) (cl : Clean C) {Γ : List Str} {sc : Scope} : ∀ (n : Nat) (s : Stmt) (c : CS), cS C Γ sc n s = some c → SOk S F Fq q d Γ sc s c
  | 0, _, _, h => by cases h
  | n + 1, _, _, h => stepS_ok fs FSs cl (cS_ok fs FSs cl n) h

theorem sSL (fs : Facts S C T) (FSs : FS S F q d) (cl : Clean C) (Γ : List Str) (sc : Scope) (ss : List Stmt) (cs : List CS) (h : cSL C Γ sc ss = some cs) : LSOk S F Fq q d Γ sc ss cs := cSLs_ok (cS_ok fs FSs cl deep) h
end
end Mine
end

/-! # Fun -/
section
set_option autoImplicit false
namespace Mine
open PySem PyProof.Rows

/-! ## a call of a def -/

/-- a def of the text, as it stands on the heap -/
structure FnAt (S : Stat) (C : Ctx) (k : Nat) (fn : Fn) : Prop where
  ex : ∃ (o : Obj) (fd : FuncData) (body : List Stmt) (ps : List Str), S.hb.get? (S.fn k) = some o ∧ o.data = .func fd ∧ fd.body = .stmts body ∧ fd.closure = [] ∧ fd.globals = mainGlobals ∧ fd.builtins = builtinsNs ∧
    S.hb.CodeRec fd.code fd.qualname ∧ fd.scope.isCoroutine = false ∧ fd.scope.isGenerator = false ∧ fd.scope.kind = .function ∧
    (∀ vals : List Value, vals.length = ps.length → bindArgs fd ⟨vals, []⟩ = pure (ps.zip vals)) ∧ ps.Nodup ∧ (∀ p ∈ ps, fd.scope.names.lookup p = some .local ∨ fd.scope.names.lookup p = some .cell) ∧
    (∀ p ∈ fd.scope.names, p.2 ≠ .free) ∧ (fd.scope.names.map (·.1)).Nodup ∧ fn.params = ps.length ∧ fn.slots = (slotsOf ps fd.scope).length ∧ cSL C (slotsOf ps fd.scope) fd.scope body = some fn.body

/-! ### names bound -/
theorem bindL_skip {kindOf : Str → Option NameKind} {x : Str} : ∀ (b : List (Str × Value)) (m : Str → Option Value), (∀ p ∈ b, p.1 ≠ x) → bindL kindOf b m x = m x
  | [], m, _ => rfl
  | (n, v) :: r, m, h => by
    rw [bindL, bindL_skip r _ fun p hp => h p (List.mem_cons_of_mem _ hp)]
    have : x ≠ n := fun e => h (n, v) List.mem_cons_self e.symm
    split
    · simp [this]
    · rfl
theorem bindC_skip {kindOf : Str → Option NameKind} {x : Str} : ∀ (b : List (Str × Value)) (m : Str → Option Value), (∀ p ∈ b, p.1 ≠ x) → bindC kindOf b m x = m x
  | [], m, _ => rfl
  | (n, v) :: r, m, h => by
    rw [bindC, bindC_skip r _ fun p hp => h p (List.mem_cons_of_mem _ hp)]
    have : x ≠ n := fun e => h (n, v) List.mem_cons_self e.symm
    split
    · rfl
    · simp [this]
theorem zip_names {ps : List Str} {vs : List Value} {p : Str × Value} (h : p ∈ ps.zip vs) : p.1 ∈ ps := (List.of_mem_zip h).1

theorem bindL_at {kindOf : Str → Option NameKind} {x : Str} {w : Value} (hk : kindOf x = some .local) : ∀ (ps : List Str) (vs : List Value) (i : Nat) (m : Str → Option Value), ps.Nodup → ps[i]? = some x → vs[i]? = some w → bindL kindOf (ps.zip vs) m x = some w
  | [], _, i, _, _, h, _ => by simp at h
  | p :: ps, [], i, _, _, _, h => by simp at h
  | p :: ps, v :: vs, 0, m, hn, h1, h2 => by
    obtain rfl : p = x := by simpa using h1
    obtain rfl : v = w := by simpa using h2
    rw [List.zip_cons_cons, bindL, bindL_skip (x := p) _ _ fun q hq e => (List.nodup_cons.mp hn).1 (e ▸ zip_names hq), if_pos hk]
    simp
  | p :: ps, v :: vs, i + 1, m, hn, h1, h2 => by
    rw [List.zip_cons_cons, bindL]
    exact bindL_at hk ps vs i _ (List.nodup_cons.mp hn).2 (by simpa using h1) (by simpa using h2)
theorem bindC_at {kindOf : Str → Option NameKind} {x : Str} {w : Value} (hk : kindOf x ≠ some .local) : ∀ (ps : List Str) (vs : List Value) (i : Nat) (m : Str → Option Value), ps.Nodup → ps[i]? = some x → vs[i]? = some w → bindC kindOf (ps.zip vs) m x = some w
  | [], _, i, _, _, h, _ => by simp at h
  | p :: ps, [], i, _, _, _, h => by simp at h
  | p :: ps, v :: vs, 0, m, hn, h1, h2 => by
    obtain rfl : p = x := by simpa using h1
    obtain rfl : v = w := by simpa using h2
    rw [List.zip_cons_cons, bindC, bindC_skip (x := p) _ _ fun q hq e => (List.nodup_cons.mp hn).1 (e ▸ zip_names hq), if_neg hk]
    simp
  | p :: ps, v :: vs, i + 1, m, hn, h1, h2 => by
    rw [List.zip_cons_cons, bindC]
    exact bindC_at hk ps vs i _ (List.nodup_cons.mp hn).2 (by simpa using h1) (by simpa using h2)

theorem cellsFrom_acc {x : Str} : ∀ (names : List (Str × NameKind)) (n : Nat) (acc : List (Str × Addr)), (acc.lookup x).isSome = true → ((cellsFrom n names acc).lookup x).isSome = true
  | [], _, _, h => h
  | (y, k) :: r, n, acc, h => by
    unfold cellsFrom
    split
    · refine cellsFrom_acc r _ _ ?_
      rw [List.lookup_cons]
      split
      · rfl
      · exact h
    · exact cellsFrom_acc r _ _ h
theorem cellsFrom_some {x : Str} : ∀ (names : List (Str × NameKind)) (n : Nat) (acc : List (Str × Addr)), (x, NameKind.cell) ∈ names → ((cellsFrom n names acc).lookup x).isSome = true
  | [], _, _, h => nomatch h
  | (y, k) :: r, n, acc, h => by
    unfold cellsFrom
    rcases List.mem_cons.mp h with e | h
    · cases e
      rw [if_pos (by rfl)]
      exact cellsFrom_acc r _ _ (by rw [List.lookup_cons]; simp)
    · split
      · exact cellsFrom_some r _ _ h
      · exact cellsFrom_some r _ _ h
theorem cellsFrom_kind {p : Str × Addr} : ∀ (names : List (Str × NameKind)) (n : Nat) (acc : List (Str × Addr)), p ∈ cellsFrom n names acc → p ∈ acc ∨ n ≤ p.2
  | [], _, _, h => .inl h
  | (y, k) :: r, n, acc, h => by
    unfold cellsFrom at h
    split at h
    · rcases cellsFrom_kind r _ _ h with h | h
      · rcases List.mem_cons.mp h with rfl | h
        · exact .inr (Nat.le_refl _)
        · exact .inl h
      · exact .inr (by omega)
    · exact cellsFrom_kind r _ _ h


theorem cellsFrom_nodup : ∀ (names : List (Str × NameKind)) (n : Nat) (acc : List (Str × Addr)), (names.map (·.1)).Nodup → (acc.map (·.1)).Nodup → (∀ x ∈ acc.map (·.1), x ∉ names.map (·.1)) → ((cellsFrom n names acc).map (·.1)).Nodup
  | [], _, _, _, h, _ => h
  | (y, k) :: r, n, acc, h1, h2, h3 => by
    have h1' := List.nodup_cons.mp h1
    unfold cellsFrom
    split
    · refine cellsFrom_nodup r _ _ h1'.2 (List.nodup_cons.mpr ⟨fun h => h3 _ h List.mem_cons_self, h2⟩) fun x hx => ?_
      rcases List.mem_cons.mp hx with rfl | hx
      · exact h1'.1
      · exact fun h => h3 x hx (List.mem_cons_of_mem _ h)
    · exact cellsFrom_nodup r _ _ h1'.2 h2 fun x hx h => h3 x hx (List.mem_cons_of_mem _ h)
theorem lookup_of_mem {β : Type} : ∀ {l : List (Str × β)} {p : Str × β}, (l.map (·.1)).Nodup → p ∈ l → l.lookup p.1 = some p.2
  | (y, v) :: r, p, hn, h => by
    have hn' := List.nodup_cons.mp hn
    rw [List.lookup_cons]
    rcases List.mem_cons.mp h with rfl | h
    · simp
    · have : (p.1 == y) = false := by
        cases e : (p.1 == y) with
        | false => rfl
        | true => exact (hn'.1 (eq_of_beq e ▸ List.mem_map_of_mem (f := (·.1)) h)).elim
      rw [this]
      exact lookup_of_mem hn'.2 h

section
variable {S : Stat} {C : Ctx} {T : Nat → Option Fn}

/-- new things are hidden -/
theorem Lk.enter {X N : List Addr} {f : List Loc} {σ : Sto} {s s₁ : Shared} (L : Lk S X f σ s.heap) (hk : ∀ b o, s.heap.get? b = some o → s₁.heap.get? b = some o)
    (hN : ∀ a ∈ N, s.heap.get? a = none ∧ ∃ o, s₁.heap.get? a = some o) : Lk S (N ++ X) f σ s₁.heap := by
  have kv : ∀ x v, VR S X f s.heap x v → VR S (N ++ X) f s₁.heap x v := fun x v e =>
    VR.keep (fun _ _ e => e) (fun a o ho h1 h2 => ⟨⟨h1, fun h => (List.mem_append.mp h).elim (fun h => by rw [(hN a h).1] at ho; cases ho) h2⟩, o, hk a o ho, .refl o⟩) x v e
  have kvs : ∀ x v, VRs S X f s.heap x v → VRs S (N ++ X) f s₁.heap x v := fun x v e =>
    VRs.keep (fun _ _ e => e) (fun a o ho h1 h2 => ⟨⟨h1, fun h => (List.mem_append.mp h).elim (fun h => by rw [(hN a h).1] at ho; cases ho) h2⟩, o, hk a o ho, .refl o⟩) x v e
  refine ⟨fun b o h => hk b o (L.base b o h), L.len, L.nodup, L.fresh, fun a ha => ?_, fun i l o hi ho => (L.obj i l o hi ho).keep kv kvs fun a ha => ?_⟩
  · rcases List.mem_append.mp ha with h | h
    · refine ⟨?_, fun hf => ?_, (hN a h).2⟩
      · cases e : S.hb.get? a with
        | none => rfl
        | some o => have := L.base a o e; rw [(hN a h).1] at this; cases this
      · obtain ⟨o, e⟩ := L.live hf; rw [(hN a h).1] at e; cases e
    · obtain ⟨h1, h2, o, h3⟩ := L.hid a h
      exact ⟨h1, h2, o, hk a o h3⟩
  · obtain ⟨o', e⟩ := (L.obj i l o hi ho).live a ha
    rw [e, hk a o' e]

theorem call_sound (fs : Facts S C T) (cl : Clean C) (fa : ∀ k fn, T k = some fn → FnAt S C k fn) : ∀ (d : Nat) (q : Bool), FS S (callFn T d q) q d
  | 0, q => fun k vs σ f X A s vals cx L rs hne => (hne (by rw [callFn])).elim
  | d + 1, q => fun k vs σ f X A s vals cx L rs hne => by
    have ih := call_sound fs cl fa d q
    rw [callFn] at hne ⊢
    cases hT : T k with
    | none => rw [hT] at hne; exact (hne rfl).elim
    | some fn =>
      rw [hT] at hne
      simp only at hne ⊢
      by_cases hlen : vs.length = fn.params
      case neg => rw [if_neg hlen] at hne; exact (hne rfl).elim
      rw [if_pos hlen] at hne ⊢
      obtain ⟨o, fd, body, ps, ho, hdata, hbody, hclo, hglob, hblt, hcode, hco, hgen, hkf, hbind, hnd, hpk, hfree, hnn, hpar, hslots, hcomp⟩ := (fa k fn hT).ex
      have LS : LSOk S (callFn T d q) (callFn T d true) q d (slotsOf ps fd.scope) fd.scope body fn.body := sSL fs ih cl _ _ _ _ hcomp
      refine ⟨⟨o, fd, ho, hdata⟩, ?_⟩
      have hvl : vals.length = ps.length := by rw [← VRs_length rs, hlen, hpar]
      refine codeAny_call_cells (by have := cx.depth; show A.depth < 1000; omega) (L.base _ _ ho) hdata (by obtain ⟨mc, h1, h2⟩ := fs.nolimit; exact ⟨mc, L.ns h1, h2⟩)
        (by obtain ⟨c, o, vs, t, e1, e2, e3⟩ := hcode; exact ⟨c, o, vs, t, e1, L.base _ _ e2, e3⟩) hbody (hbind vals hvl) hclo
        (fun x hx => (hpk x.1 (zip_names hx)).imp id fun h => ⟨h, cellsFrom_some _ _ _ (lookup_mem h)⟩) (fun s₁ ic => ?_) hco hgen hkf
      generalize henv : callEnvC fd s.heap.objs.size (S.fn k) = env at ic ⊢
      have e_loc : env.locals = s.heap.objs.size := by rw [← henv]; rfl
      have e_cells : env.cells = cellsFrom (s.heap.objs.size + 1) fd.scope.names [] := by rw [← henv]; rfl
      have e_kind : ∀ x, env.kindOf x = fd.scope.names.lookup x := fun x => by rw [← henv]; rfl
      have e_scope : env.scope = fd.scope := by rw [← henv]; rfl
      have e_glob : env.globals = mainGlobals := by rw [← henv]; exact hglob
      have e_blt : env.builtins = builtinsNs := by rw [← henv]; exact hblt
      have e_frame : env.frame = some s.heap.objs.size := by rw [← henv]; rfl
      have hkeep := ic.toInCall.keep
      -- what is new
      have hnew : ∀ a, s.heap.objs.size ≤ a → s.heap.get? a = none := fun a ha => by
        cases e : s.heap.get? a with
        | none => rfl
        | some o => exact absurd (Heap.lt_size e) (Nat.not_lt.mpr ha)
      have hN : ∀ a ∈ ya env, s.heap.get? a = none ∧ ∃ o, s₁.heap.get? a = some o := fun a ha => by
        rcases List.mem_cons.mp ha with rfl | ha
        · refine ⟨hnew _ (by rw [e_loc]; exact Nat.le_refl _), ?_⟩
          obtain ⟨o, _, _, ho, _⟩ := ic.toInCall.ns
          exact ⟨o, ho⟩
        · obtain ⟨p, hp, rfl⟩ := List.mem_map.mp ha
          have hlo := ic.above p.1 p.2 hp
          refine ⟨hnew _ (Nat.le_of_lt (e_loc ▸ hlo)), ?_⟩
          have hlk : env.cells.lookup p.1 = some p.2 := lookup_of_mem (by rw [e_cells]; exact cellsFrom_nodup _ _ _ hnn .nil fun _ h => nomatch h) hp
          obtain ⟨o, ho, _⟩ := ic.cell p.1 p.2 hlk
          exact ⟨o, ho⟩
      have L' : Lk S (ya env ++ X) f σ s₁.heap := L.enter hkeep hN
      have rs' : VRs S (ya env ++ X) f s₁.heap vs vals :=
        VRs.keep (fun _ _ e => e) (fun a o ho h1 h2 => ⟨⟨h1, fun h => (List.mem_append.mp h).elim (fun h => by rw [(hN a h).1] at ho; cases ho) h2⟩, o, hkeep a o ho, .refl o⟩) _ _ rs
      have hcx : Cx S (A.deeper env) q d f s₁.heap env.frame := by
        obtain ⟨l, h1, h2⟩ := cx.frs
        refine ⟨by have := cx.depth; show A.depth + 1 + 2 * d + 2 ≤ 900; omega, by have := cx.units; show A.units + 3 + 5 * d + 200 ≤ 9900; omega, cx.hand, env, l, by show A.frames.map (env :: ·) = _; rw [h1]; rfl, rfl, fun e he => ?_⟩
        rcases List.mem_cons.mp he with rfl | he
        · obtain ⟨o, es, n, ho, hd, _⟩ := ic.toInCall.ns
          have hl := L'.hid e.locals (List.mem_append_left _ List.mem_cons_self)
          exact ⟨by rw [e_scope, hkf]; simp, e.locals, o, es, n, by rw [e_frame, e_loc], hl.1, hl.2.1, ho, hd⟩
        · obtain ⟨h3, L1, o, es, n, h4, h5, h6, h7, h8⟩ := h2 e he
          exact ⟨h3, L1, o, es, n, h4, h5, h6, hkeep _ _ h7, h8⟩
      have hfr : FR S (ya env ++ X) f s₁.heap env (slotsOf ps fd.scope) fd.scope (vs ++ List.replicate (fn.slots - fn.params) .undef) := by
        refine ⟨by rw [e_scope, hkf], e_glob, e_blt, fun x => .inl (e_kind x), ⟨List.mem_append_left _ List.mem_cons_self, _, ic.toInCall.ns⟩, fun x hx => ?_, fun x i v h1 h2 h3 h4 => ?_, ?_⟩
        · have hc : fd.scope.names.lookup x = some .cell := by
            rcases hx with h | h
            · rw [← e_kind]; exact h
            · rw [e_kind] at h; exact absurd rfl (hfree _ (lookup_mem h))
          have := cellsFrom_some (x := x) fd.scope.names (s.heap.objs.size + 1) [] (lookup_mem hc)
          rw [← e_cells] at this
          obtain ⟨c, hcl⟩ := Option.isSome_iff_exists.mp this
          exact ⟨c, _, hcl, List.mem_append_left _ (List.mem_cons_of_mem _ (mem_lookup hcl)), ic.cell x c hcl⟩
        · have hi : i < vs.length := by
            cases hlt : decide (i < vs.length) with
            | true => exact of_decide_eq_true hlt
            | false =>
              have hge : vs.length ≤ i := Nat.le_of_not_lt (of_decide_eq_false hlt)
              rw [List.getElem?_append_right hge] at h3
              have := List.eq_of_mem_replicate (List.mem_of_getElem? h3)
              exact (h4 this).elim
          rw [List.getElem?_append_left hi] at h3
          obtain ⟨w, hw, r⟩ := VRs_get rs' h3
          have hx : ps[i]? = some x := by
            have := lastIdx_get h2
            unfold slotsOf at this
            rwa [List.getElem?_append_left (by rw [← hpar, ← hlen]; exact hi)] at this
          refine ⟨w, ?_, r⟩
          rcases hpk x (List.mem_of_getElem? hx) with h | h
          · exact .inl ⟨by rw [e_kind, h], _, ic.toInCall.ns, bindL_at (by rw [e_kind, h]) ps vals i _ hnd hx hw⟩
          · have := cellsFrom_some (x := x) fd.scope.names (s.heap.objs.size + 1) [] (lookup_mem h)
            rw [← e_cells] at this
            obtain ⟨c, hcl⟩ := Option.isSome_iff_exists.mp this
            refine .inr ⟨.inl (by rw [e_kind, h]), c, hcl, ?_⟩
            have := ic.cell x c hcl
            rwa [bindC_at (by rw [e_kind, h]; simp) ps vals i _ hnd hx hw] at this
        · have : (slotsOf ps fd.scope).length = ps.length + ((fd.scope.names.filter fun p => (p.2 == .local || p.2 == .cell) && !ps.contains p.1).map (·.1)).length := by rw [slotsOf, List.length_append]
          rw [List.length_append, List.length_replicate, hlen, hslots, hpar]
          omega
      have hfw : FW env (ya env ++ X) := by
        refine ⟨List.mem_append_left _ List.mem_cons_self, fun p hp => List.mem_append_left _ (List.mem_cons_of_mem _ (List.mem_map_of_mem hp)), fun x y c h1 h2 => ?_⟩
        exact name_of_addr ic.apart (mem_of_lookup h1) (mem_of_lookup h2)
      have hne' : exL (callFn T d q) (callFn T d true) q fn.body (vs ++ List.replicate (fn.slots - fn.params) .undef) σ ≠ .stuck := fun e => hne (by rw [e]; rfl)
      refine wpAny_mono (LS env _ f (ya env ++ X) σ s₁ (A.deeper env) ⟨hcx, hfr, L'⟩ hfw hne') (fun fl s' hq => ?_) fun e s' he => ?_
      · obtain ⟨x, σ', g, er, hg, kp, Lk', hfl⟩ := hq
        rw [er] at hne ⊢
        have hg0 : Fresh g s := fun a ha => new_back (fun a o e => ⟨o, hkeep a o e⟩) (hg a ha)
        have kp0 : Kp f [] s s' := by
          obtain ⟨h0, tk, e0⟩ := ic.toInCall.same
          refine ⟨by rw [kp.rest, e0], fun a o e => kp.live a o (hkeep a o e), fun a o e h1 _ => kp.kept a o (hkeep a o e) h1 fun h => (by rw [(hN a h).1] at e; cases e), fun a o es n e hd h1 => kp.dicts a o es n (hkeep a o e) hd h1⟩
        have Lk0 : Lk S X (f ++ g) σ' s'.heap := Lk'.less fun a ha => List.mem_append_right _ ha
        cases x with
        | ret v =>
          obtain ⟨w, rfl, r⟩ := hfl
          exact ⟨v, σ', g, rfl, hg0, kp0, Lk0, r.less fun a ha => List.mem_append_right _ ha⟩
        | next ρ' =>
          obtain ⟨rfl, -⟩ := hfl
          exact ⟨.none, σ', g, rfl, hg0, kp0, Lk0, by show VR _ _ _ _ _ _; rw [VR]⟩
      · obtain ⟨c, σ', g, ea, e1, e2, r⟩ := he
        exact (hne (by rw [e2]; rfl)).elim
end

end Mine
end

/-! # Link -/
section
set_option autoImplicit false
namespace Mine
open PySem PySem.W PyProof.Rows

/-! ## from the top of the text to the static facts -/

/-- one def of the text, compiled, with all that a call asks of it -/
noncomputable def recFn (C : Ctx) (d : DefRec) : Option Fn :=
  match d.params with
  | ⟨[], as, none, [], [], none, []⟩ =>
    let ps := as.map (·.arg)
    if d.scope.isCoroutine || d.scope.isGenerator || d.scope.kind != .function || !decide ps.Nodup || !(ps.all fun p => d.scope.names.lookup p == some .local || d.scope.names.lookup p == some .cell)
      || d.scope.names.any (fun p => p.2 == .free) || !decide (d.scope.names.map (·.1)).Nodup || 5 < ps.length then none
    else (cSL C (slotsOf ps d.scope) d.scope d.body).map fun b => ⟨ps.length, (slotsOf ps d.scope).length, b⟩
  | _ => none

/-- the defs of a text, by their numbers -/
noncomputable def tabOf (C : Ctx) (ds : List DefRec) : Option (List (Nat × Fn)) := ds.mapM fun d => (C.fns.lookup d.name).bind fun k => (recFn C d).map fun f => (k, f)

theorem mapM_mem {α β : Type} {g : α → Option β} : ∀ {l : List α} {r : List β} {b : β}, l.mapM g = some r → b ∈ r → ∃ a ∈ l, g a = some b
  | [], r, b, h, hb => by simp at h; subst h; cases hb
  | a :: l, r, b, h, hb => by
    rw [List.mapM_cons] at h
    cases h1 : g a with
    | none => simp [h1] at h
    | some x =>
      cases h2 : l.mapM g with
      | none => simp [h1, h2] at h
      | some xs =>
        simp [h1, h2] at h
        subst h
        rcases List.mem_cons.mp hb with rfl | hb
        · exact ⟨a, List.mem_cons_self, h1⟩
        · obtain ⟨a', h3, h4⟩ := mapM_mem h2 hb
          exact ⟨a', List.mem_cons_of_mem _ h3, h4⟩

theorem lookup_memN {β : Type} {k : Nat} {y : β} : ∀ {l : List (Nat × β)}, l.lookup k = some y → (k, y) ∈ l
  | (k', y') :: l, h => by
    rw [List.lookup_cons] at h
    split at h
    · rename_i e; cases h; rw [eq_of_beq e]; exact List.mem_cons_self
    · exact List.mem_cons_of_mem _ (lookup_memN h)

/-- where the defs lie -/
noncomputable def fnAddr (C : Ctx) (mg : Str → Option Value) (k : Nat) : Addr := match C.fns.find? (fun p => p.2 == k) with
  | some p => (match mg p.1 with | some (.ref a) => a | _ => 0)
  | none => 0

theorem zip_lookup {β : Type} : ∀ {ps : List Str} {vs : List β} {n : Str}, n ∈ ps → vs.length = ps.length → ∃ v, (ps.zip vs).lookup n = some v
  | p :: ps, [], n, _, h => by simp at h
  | p :: ps, v :: vs, n, hn, h => by
    rw [List.zip_cons_cons, List.lookup_cons]
    split
    · exact ⟨v, rfl⟩
    · rename_i e
      rcases List.mem_cons.mp hn with rfl | hn
      · simp at e
      · exact zip_lookup hn (by simpa using h)

theorem zip_back {β : Type} : ∀ {ps : List Str} {vs : List β}, ps.Nodup → vs.length = ps.length → (ps.filterMap fun n => ((ps.zip vs).lookup n).map (n, ·)) = ps.zip vs
  | [], vs, _, _ => by simp
  | p :: ps, [], _, h => by simp at h
  | p :: ps, v :: vs, hn, h => by
    have hn' := List.nodup_cons.mp hn
    rw [List.zip_cons_cons, List.filterMap_cons]
    simp only [List.lookup_cons, beq_self_eq_true, Option.map_some]
    have key : ∀ l : List Str, (∀ n ∈ l, n ≠ p) → (l.filterMap fun n => (match n == p with | true => some v | false => (ps.zip vs).lookup n).map (n, ·)) = l.filterMap fun n => ((ps.zip vs).lookup n).map (n, ·) := by
      intro l hl
      induction l with
      | nil => rfl
      | cons n l ih =>
        have hne : (n == p) = false := by simpa using hl n List.mem_cons_self
        rw [List.filterMap_cons, List.filterMap_cons, ih fun n hm => hl n (List.mem_cons_of_mem _ hm), hne]
    exact congrArg _ ((key ps fun n hm e => hn'.1 (e ▸ hm)).trans (zip_back hn'.2 (by simpa using h)))

theorem bind_all {name : Str} {as : List Arg} {body : List Stmt} {scope : Scope} {pm code doc : Value} (hn : (as.map (·.arg)).Nodup) (vals : List Value) (hl : vals.length = (as.map (·.arg)).length) :
    bindArgs (Calls.docDef name ⟨[], as, none, [], [], none, []⟩ body scope pm code doc) ⟨vals, []⟩ = pure ((as.map (·.arg)).zip vals) := by
  have h1 : ((as.map (·.arg)).filter fun n => (((as.map (·.arg)).zip vals).lookup n).isNone) = [] := by
    rw [List.filter_eq_nil_iff]
    intro n hm
    obtain ⟨v, e⟩ := zip_lookup hm hl
    rw [e]; simp
  have h2 := zip_back hn hl
  unfold bindArgs
  have hs : seqItems? (Calls.docDef name ⟨[], as, none, [], [], none, []⟩ body scope pm code doc).defaults = pure none := rfl
  rw [hs]
  simp only [Calls.docDef, List.map_nil, List.nil_append, List.append_nil, List.forIn_nil, pure_bind, Option.getD_none, List.length_nil, List.isEmpty_nil]
  have hgt : decide (vals.length > (as.map (·.arg)).length) = false := by simp [hl]
  simp only [hgt, Bool.false_and, Bool.false_eq_true, if_false, List.drop_nil, List.length_nil, Nat.sub_zero, List.take_length, h1, List.isEmpty_nil, Bool.not_true, List.drop_length, List.zip_nil_right, List.forIn_nil, pure_bind, h2]


/-- the numbers of the defs are one each, and each is a def of the text -/
noncomputable def fnsOk (C : Ctx) (ds : List DefRec) : Bool := C.fns.all fun q => C.fns.find? (fun r => r.2 == q.2) == some q && ds.any (fun d => d.name == q.1)

section
variable {p : Program} {loose : List Str} {mean : ExcName → Option Value} {mg mb : Str → Option Value} {S : Stat} {C : Ctx} {tab : List (Nat × Fn)}

theorem fn_at (T : Top p loose mean mg mb S.hb) (hf : fnsOk C (recsOf p) = true) (hS : S.fn = fnAddr C mg) {x : Str} {k : Nat} (h : C.fns.lookup x = some k) :
    ∃ d ∈ recsOf p, d.name = x ∧ ∃ o pm code doc, mg x = some (.ref (S.fn k)) ∧ S.hb.get? (S.fn k) = some o ∧ o.data = .func (Calls.docDef d.name d.params d.body d.scope pm code doc) ∧ S.hb.CodeRec code d.name := by
  have hm := lookup_mem h
  have := List.all_eq_true.mp hf _ hm
  simp only [Bool.and_eq_true, beq_iff_eq] at this
  obtain ⟨h1, h2⟩ := this
  obtain ⟨d, hd, hn⟩ := List.any_eq_true.mp h2
  obtain rfl := eq_of_beq hn
  obtain ⟨a, o, pm, code, doc, e1, e2, e3, e4⟩ := T.fn d hd
  have ha : S.fn k = a := by rw [hS, fnAddr, h1]; simp only [e1]
  rw [ha]
  exact ⟨d, hd, rfl, o, pm, code, doc, e1, e2, e3, e4⟩

theorem fnAt_of (T : Top p loose mean mg mb S.hb) (hf : fnsOk C (recsOf p) = true) (hS : S.fn = fnAddr C mg) (hone : ((recsOf p).map (·.name)).Nodup) (htab : tabOf C (recsOf p) = some tab) : ∀ k fn, tab.lookup k = some fn → FnAt S C k fn := by
  intro k fn hk
  obtain ⟨d, hd, e⟩ := mapM_mem htab (lookup_memN hk)
  simp only [Option.bind_eq_some_iff, Option.map_eq_some_iff] at e
  obtain ⟨k', hl, f, hr, e⟩ := e
  cases e
  obtain ⟨d', hd', hn, o, pm, code, doc, -, e2, e3, e4⟩ := fn_at T hf hS hl
  have hdd : d' = d := by
    have key : ∀ l : List DefRec, (l.map (·.name)).Nodup → d' ∈ l → d ∈ l → d' = d := by
      intro l
      induction l with
      | nil => intro _ h; cases h
      | cons x l ih =>
        intro hnd h1 h2
        have hnd' := List.nodup_cons.mp hnd
        rcases List.mem_cons.mp h1 with rfl | h1' <;> rcases List.mem_cons.mp h2 with rfl | h2'
        · rfl
        · exact (hnd'.1 (by show d'.name ∈ _; rw [hn]; exact List.mem_map_of_mem (f := (·.name)) h2')).elim
        · exact (hnd'.1 (by show d.name ∈ _; rw [← hn]; exact List.mem_map_of_mem (f := (·.name)) h1')).elim
        · exact ih hnd'.2 h1' h2'
    exact key _ hone hd' hd
  subst hdd
  unfold recFn at hr
  split at hr
  · rename_i as hpar
    simp only at hr
    split at hr
    · cases hr
    · rename_i hc
      simp only [Bool.or_eq_true, not_or, Bool.not_eq_true, Bool.not_eq_false', decide_eq_false_iff_not, bne_iff_ne, ne_eq, Decidable.not_not] at hc
      obtain ⟨⟨⟨⟨⟨⟨⟨c1, c2⟩, c3⟩, c4⟩, c5⟩, c6⟩, c7⟩, c8⟩ := hc
      simp only [Option.map_eq_some_iff] at hr
      obtain ⟨b, hb, rfl⟩ := hr
      refine ⟨o, _, d'.body, as.map (·.arg), e2, e3, rfl, rfl, rfl, rfl, e4, c1, c2, ?_, fun vals hv => ?_, of_decide_eq_true c4, fun q hq => ?_, fun q hq => ?_, of_decide_eq_true c7, rfl, rfl, hb⟩
      · exact c3
      · rw [hpar]; exact bind_all (of_decide_eq_true c4) vals hv
      · have := List.all_eq_true.mp c5 q hq
        exact (by simpa using this : List.lookup q d'.scope.names = some .local ∨ List.lookup q d'.scope.names = some .cell)
      · intro e
        have := List.any_eq_false.mp c6 q hq
        rw [e] at this
        exact this rfl
  · cases hr

/-- the built-in names that the core knows are nobody's here -/
noncomputable def freeOk (p : Program) (loose : List Str) (C : Ctx) : Bool := (b1Names.map (·.1) ++ b2Names.map (·.1) ++ kindNames.map (·.1) ++ [("isinstance" : Str), "range"]).all fun x =>
  (C.fns.lookup x).isSome || (x != ("__name__" : Str) && !(startupNames.contains x || loose.contains x || ((recsOf p).map (·.name)).contains x || ((litsOf p).map (·.1)).contains x || ((clssOf p loose).map (·.name)).contains x))

theorem facts_of (T : Top p loose mean mg mb S.hb) (hf : fnsOk C (recsOf p) = true) (hS : S.fn = fnAddr C mg) (hone : ((recsOf p).map (·.name)).Nodup) (htab : tabOf C (recsOf p) = some tab) (hfree : freeOk p loose C = true)
    (hconst : ∀ x v, C.consts.lookup x = some v → ∃ w, mg x = some w ∧ VR S [] [] S.hb v w) (hbook : C.book = true → mg "Book" = some (.ref S.book))
    (hexc : ∀ x c, C.excs.lookup x = some c → (mg x = some (S.cl c)) ∨ (mg x = none ∧ mb x = some (S.cl c))) (hparts : PartsAt S S.hb) (hpn : S.parts ≠ .none) : Facts S C (fun k => tab.lookup k) := by
  refine ⟨⟨mg, mb, T.g, T.b, hconst, fun x k h => ?_, fun x hx hn => ?_, hbook, hexc⟩, T.nolimit, hparts, hpn, fun k fn h => ?_⟩
  · obtain ⟨_, _, _, _, _, _, _, e, _⟩ := fn_at T hf hS h
    exact e
  · have hm : x ∈ b1Names.map (·.1) ++ b2Names.map (·.1) ++ kindNames.map (·.1) ++ [("isinstance" : Str), "range"] := by
      simp only [List.mem_append, List.mem_cons, List.not_mem_nil, or_false]
      rcases hx with h | h | h | h | h
      · exact .inl (.inl (.inl h))
      · exact .inl (.inl (.inr h))
      · exact .inl (.inr h)
      · exact .inr (.inl h)
      · exact .inr (.inr h)
    have := List.all_eq_true.mp hfree x hm
    rw [hn] at this
    simp only [Option.isSome_none, Bool.false_or, Bool.and_eq_true, bne_iff_ne, ne_eq, Bool.not_eq_true', Bool.or_eq_false_iff] at this
    obtain ⟨h0, ⟨⟨⟨h1, h2⟩, h3⟩, h4⟩, h5⟩ := this
    have no : ∀ {l : List Str}, l.contains x = false → x ∉ l := fun h hm => by rw [List.contains_iff_mem.mpr hm] at h; cases h
    exact ⟨T.free x (no h1) (no h2) (no h3) (no h4) (no h5), T.builtins x h0⟩
  · obtain ⟨o, fd, _, _, h1, h2, _⟩ := (fnAt_of T hf hS hone htab k fn h).ex
    exact ⟨o, fd, h1, h2⟩

/-- the script, as the law gets it -/
theorem VR_script {P : Params} {a : Addr} {ns : List Int} (W : Well P S.hb (.ref a) (ofPy (.list (ns.map PyData.int)))) (hl : ns.length ≤ LIM) : VR S [] [] S.hb (.lst (ns.map V.int)) (.ref a) := by
  have key : ∀ {vs : List Value} {l : List Int}, WellAll P S.hb vs (ofPys (l.map PyData.int)) → VRs S [] [] S.hb (l.map V.int) vs := by
    intro vs l
    induction l generalizing vs with
    | nil => intro h; cases h; rw [List.map_nil, VRs]; trivial
    | cons n l ih =>
      intro h
      cases h with
      | cons h1 h2 =>
        cases h1
        rw [List.map_cons, VRs]
        exact ⟨by rw [VR]; exact ⟨_, rfl⟩, ih h2⟩
  cases W with
  | list h1 h2 =>
    rw [VR]
    exact ⟨a, _, _, rfl, ⟨by simp [addrs], by simp⟩, h1, key h2, by simpa using hl⟩

/-- the law's call, from what its core says -/
theorem law_call (fs : Facts S C (fun k => tab.lookup k)) (cl : Clean C) (fa : ∀ k fn, tab.lookup k = some fn → FnAt S C k fn) {s₁ : Shared} (hS : S.hb = s₁.heap) {ns : List Int} {a : Addr} {k d : Nat} (hd : d ≤ 100)
    (hv : VR S [] [] S.hb (.lst (ns.map V.int)) (.ref a)) (hres : ∃ σ', callFn (fun k => tab.lookup k) d false k [.lst (ns.map V.int)] [] = .ok (.bool true) σ') :
    codeAny (model S.prog S.w) callerA (.call (.ref (S.fn k)) ⟨[.ref a], []⟩) (fun r s' => r = .ok (.ret (.bool true)) ∧ (∀ b o, s₁.heap.get? b = some o → s'.heap.get? b = some o) ∧ s'.os = s₁.os ∧ s'.gens = s₁.gens) s₁ := by
  obtain ⟨σ', hres⟩ := hres
  have L : Lk S [] [] [] s₁.heap := ⟨fun b o h => hS ▸ h, rfl, .nil, (fun a h => nomatch h), (fun a h => nomatch h), fun i l o h => by simp at h⟩
  have cx : CxC S callerA false d [] s₁.heap := ⟨by show 1 + claimMargin + 2 * d + 2 ≤ 900; simp only [claimMargin]; omega, by show 4 + 5 * d + 200 ≤ 9900; omega, fun _ => rfl, [], rfl, fun _ h => nomatch h⟩
  have := (call_sound fs cl fa d false k [.lst (ns.map V.int)] [] [] [] callerA s₁ [.ref a] cx L (by rw [VRs, VRs]; exact ⟨hS ▸ hv, trivial⟩) (by rw [hres]; simp)).2
  refine codeAny_mono this fun r s' h => ?_
  match r, h with
  | .ok (.ret v), h =>
    obtain ⟨b, σ'', g, e, hg, kp, L', p⟩ := h
    rw [hres] at e
    cases e
    have hv : v = .bool true := by have : VR _ _ _ _ _ _ := p; rwa [VR] at this
    refine ⟨by rw [hv], fun b o h => L'.base b o (hS ▸ h), ?_, ?_⟩
    · rw [kp.rest]
    · rw [kp.rest]
  | .error e, h =>
    obtain ⟨c, σ'', g, ea, e1, e2, r⟩ := h
    rw [hres] at e2
    cases e2
end

/-! ## what every law asks at its end -/
theorem law_raises (l : OpenLaw) (args : List WData) (cls : ExcName) : l.row.claim.raises args cls = false := rfl
theorem law_post (l : OpenLaw) (args : List WData) : l.row.claim.post args (.bool true) args = true :=
  postW_of (X := true) (by rfl) (by wtm_val) rfl
theorem law_good (l : OpenLaw) {args : List WData} {c : Str → Option Addr} {mean : ExcName → Option Value} {s₁ s' : Shared} (hk : ∀ b o, s₁.heap.get? b = some o → s'.heap.get? b = some o) (hos : s'.os = s₁.os) (hg : s₁.gens = #[]) (hgs : s'.gens = s₁.gens) :
    GoodWG l.row.claim c mean args s₁ (.ok (.ret (.bool true))) s' :=
  ⟨.inl ⟨_, .bool true, [], rfl, law_raises l args, .bool true, law_post l args, fun _ => ⟨.nil, fun _ h => nomatch h⟩⟩, .of_keep hk, hos, fun y hy => by rw [hgs, hg] at hy; simp at hy⟩

end Mine
end

/-! # P07 -/
section
set_option autoImplicit false
namespace Mine
open PySem

noncomputable def trks07 : List (Nat × Nat × Nat) := [(62, 21, 23), (74, 21, 23)]

noncomputable def f07_21 : Fn :=
  { params := 1,
    slots := 1,
    body := [CS.ite
               (CE.or
                 (CE.p1 (P1.not) (CE.p1 (P1.isInst (Kd.str)) (CE.var 0)))
                 (CE.p1 (P1.not) (CE.chain (CE.lit (V.int 1)) [P2.le, P2.le] [CE.p1 (P1.len) (CE.var 0), CE.lit (V.int 12)])))
               [CS.ret (CE.lit (V.bool false))]
               [],
             CS.ret
               (CE.p1
                 (P1.all)
                 (CE.comp
                   (CE.p2
                     (P2.isIn)
                     (CE.var 1)
                     (CE.lit (V.str { cps := #[97, 98, 99, 100, 101, 102, 103, 104, 105, 106, 107, 108, 109, 110, 111, 112, 113, 114, 115, 116, 117, 118, 119, 120, 121, 122] })))
                   (SK.val)
                   [CE.var 0]
                   none))] }

noncomputable def f07_28 : Fn :=
  { params := 1,
    slots := 1,
    body := [CS.ite
               (CE.p2 (P2.eq) (CE.p2 (P2.index) (CE.var 0) (CE.lit (V.int 0))) (CE.lit (V.str { cps := #[111, 114, 100, 101, 114] })))
               [CS.ret
                  (CE.p2
                    (P2.add)
                    (CE.lit (V.str { cps := #[111, 114, 100, 101, 114, 32] }))
                    (CE.sm
                      (P2.join)
                      (CE.lit (V.str { cps := #[44, 32] }))
                      (CE.comp
                        (CE.sm
                          (P2.join)
                          (CE.lit (V.str { cps := #[32] }))
                          (CE.p2
                            (P2.add)
                            (CE.list [CE.p2 (P2.index) (CE.var 1) (CE.lit (V.int 0))])
                            (CE.comp (CE.p1 (P1.toStr) (CE.var 2)) (SK.val) [CE.slice (CE.var 1) (some (CE.lit (V.int 1))) none] none)))
                        (SK.val)
                        [CE.p2 (P2.index) (CE.var 0) (CE.lit (V.int 1))]
                        none)))]
               [],
             CS.ret
               (CE.sm
                 (P2.join)
                 (CE.lit (V.str { cps := #[32] }))
                 (CE.p2
                   (P2.add)
                   (CE.list [CE.p2 (P2.index) (CE.var 0) (CE.lit (V.int 0))])
                   (CE.comp (CE.p1 (P1.toStr) (CE.var 1)) (SK.val) [CE.slice (CE.var 0) (some (CE.lit (V.int 1))) none] none)))] }

noncomputable def f07_29 : Fn :=
  { params := 1,
    slots := 1,
    body := [CS.ite
               (CE.or
                 (CE.p1 (P1.not) (CE.chain (CE.lit (V.int 1)) [P2.le, P2.le] [CE.p1 (P1.len) (CE.var 0), CE.lit (V.int 30)]))
                 (CE.p1
                   (P1.not)
                   (CE.p1
                     (P1.all)
                     (CE.comp (CE.p2 (P2.isIn) (CE.var 1) (CE.lit (V.str { cps := #[48, 49, 50, 51, 52, 53, 54, 55, 56, 57] }))) (SK.val) [CE.var 0] none))))
               [CS.raise (Cls.ValueError)]
               [],
             CS.ite
               (CE.and
                 (CE.p2 (P2.eq) (CE.p2 (P2.index) (CE.var 0) (CE.lit (V.int 0))) (CE.lit (V.str { cps := #[48] })))
                 (CE.p2 (P2.gt) (CE.p1 (P1.len) (CE.var 0)) (CE.lit (V.int 1))))
               [CS.raise (Cls.ValueError)]
               [],
             CS.ret (CE.p1 (P1.toInt) (CE.var 0))] }

noncomputable def f07_30 : Fn :=
  { params := 1,
    slots := 2,
    body := [CS.asg 1 (CE.sm (P2.split) (CE.var 0) (CE.lit (V.str { cps := #[32] }))),
             CS.ite
               (CE.or
                 (CE.p2 (P2.ne) (CE.p1 (P1.len) (CE.var 1)) (CE.lit (V.int 4)))
                 (CE.p1 (P1.not) (CE.call 21 [CE.p2 (P2.index) (CE.var 1) (CE.lit (V.int 0))])))
               [CS.raise (Cls.ValueError)]
               [],
             CS.ret
               (CE.tup
                 [CE.p2 (P2.index) (CE.var 1) (CE.lit (V.int 0)),
                  CE.call 29 [CE.p2 (P2.index) (CE.var 1) (CE.lit (V.int 1))],
                  CE.call 29 [CE.p2 (P2.index) (CE.var 1) (CE.lit (V.int 2))],
                  CE.call 29 [CE.p2 (P2.index) (CE.var 1) (CE.lit (V.int 3))]])] }

noncomputable def f07_31 : Fn :=
  { params := 1,
    slots := 5,
    body := [CS.unpack3 1 2 3 (CE.sm (P2.partition) (CE.var 0) (CE.lit (V.str { cps := #[32] }))),
             CS.ite
               (CE.or (CE.p2 (P2.notIn) (CE.var 1) (CE.lit (V.parts))) (CE.p2 (P2.eq) (CE.var 2) (CE.lit (V.str { cps := #[] }))))
               [CS.raise (Cls.ValueError)]
               [],
             CS.ite
               (CE.p2 (P2.eq) (CE.var 1) (CE.lit (V.str { cps := #[111, 114, 100, 101, 114] })))
               [CS.ret
                  (CE.tup
                    [CE.var 1, CE.comp (CE.call 30 [CE.var 5]) (SK.val) [CE.sm (P2.split) (CE.var 3) (CE.lit (V.str { cps := #[44, 32] }))] none])]
               [],
             CS.asg 4 (CE.sm (P2.split) (CE.var 3) (CE.lit (V.str { cps := #[32] }))),
             CS.ite
               (CE.p2
                 (P2.ne)
                 (CE.p1 (P1.len) (CE.var 4))
                 (CE.p2 (P2.sub) (CE.p2 (P2.index) (CE.lit (V.parts)) (CE.var 1)) (CE.lit (V.int 1))))
               [CS.raise (Cls.ValueError)]
               [],
             CS.ret (CE.p1 (P1.toTup) (CE.p2 (P2.add) (CE.list [CE.var 1]) (CE.comp (CE.call 29 [CE.var 5]) (SK.val) [CE.var 4] none)))] }

noncomputable def f07_100 : Fn :=
  { params := 2,
    slots := 2,
    body := [CS.ite (CE.p2 (P2.lt) (CE.var 1) (CE.p1 (P1.len) (CE.var 0))) [CS.ret (CE.p2 (P2.index) (CE.var 0) (CE.var 1))] [],
             CS.ret (CE.lit (V.int 0))] }

noncomputable def f07_101 : Fn :=
  { params := 1,
    slots := 1,
    body := [CS.ret (CE.and (CE.p1 (P1.isInst (Kd.int)) (CE.var 0)) (CE.p1 (P1.not) (CE.p1 (P1.isInst (Kd.bool)) (CE.var 0))))] }

noncomputable def f07_102 : Fn :=
  { params := 2,
    slots := 2,
    body := [CS.ite
               (CE.p2 (P2.eq) (CE.p2 (P2.mod) (CE.var 1) (CE.lit (V.int 4))) (CE.lit (V.int 0)))
               [CS.ret (CE.p2 (P2.mod) (CE.var 0) (CE.p2 (P2.pow) (CE.lit (V.int 10)) (CE.lit (V.int 30))))]
               [],
             CS.ite
               (CE.p2 (P2.eq) (CE.p2 (P2.mod) (CE.var 1) (CE.lit (V.int 4))) (CE.lit (V.int 1)))
               [CS.ret
                  (CE.p2
                    (P2.index)
                    (CE.list
                      [CE.lit (V.int 0),
                       CE.p2 (P2.sub) (CE.p2 (P2.pow) (CE.lit (V.int 10)) (CE.lit (V.int 30))) (CE.lit (V.int 1)),
                       CE.lit (V.int 9),
                       CE.lit (V.int 10),
                       CE.p2 (P2.pow) (CE.lit (V.int 10)) (CE.lit (V.int 29))])
                    (CE.p2 (P2.mod) (CE.var 0) (CE.lit (V.int 5))))]
               [],
             CS.ret (CE.p2 (P2.mod) (CE.var 0) (CE.lit (V.int 1000)))] }

noncomputable def f07_103 : Fn :=
  { params := 1,
    slots := 2,
    body := [CS.asg 1 (CE.lit (V.str { cps := #[97, 98, 99, 100, 101, 102, 103, 104, 105, 106, 107, 108, 109, 110, 111, 112, 113, 114, 115, 116, 117, 118, 119, 120, 121, 122] })),
             CS.ret
               (CE.sm
                 (P2.join)
                 (CE.lit (V.str { cps := #[] }))
                 (CE.comp
                   (CE.p2
                     (P2.index)
                     (CE.var 1)
                     (CE.p2
                       (P2.mod)
                       (CE.p2
                         (P2.add)
                         (CE.p2
                           (P2.add)
                           (CE.p2 (P2.fdiv) (CE.var 0) (CE.lit (V.int 12)))
                           (CE.p2 (P2.mul) (CE.p2 (P2.fdiv) (CE.p2 (P2.fdiv) (CE.var 0) (CE.lit (V.int 12))) (CE.lit (V.int 26))) (CE.var 2)))
                         (CE.p2 (P2.mul) (CE.lit (V.int 5)) (CE.var 2)))
                       (CE.lit (V.int 26))))
                   (SK.range1)
                   [CE.p2 (P2.add) (CE.lit (V.int 1)) (CE.p2 (P2.mod) (CE.var 0) (CE.lit (V.int 12)))]
                   none))] }

noncomputable def f07_104 : Fn :=
  { params := 1,
    slots := 7,
    body := [CS.asg
               1
               (CE.p2
                 (P2.index)
                 (CE.list
                   [CE.lit (V.str { cps := #[100, 101, 108, 105, 118, 101, 114] }),
                    CE.lit (V.str { cps := #[98, 97, 99, 107] }),
                    CE.lit (V.str { cps := #[115, 119, 97, 112] }),
                    CE.lit (V.str { cps := #[99, 114, 101, 100, 105, 116] }),
                    CE.lit (V.str { cps := #[109, 111, 118, 101] }),
                    CE.lit (V.str { cps := #[112, 97, 121] }),
                    CE.lit (V.str { cps := #[114, 101, 102, 117, 110, 100] }),
                    CE.lit (V.str { cps := #[111, 114, 100, 101, 114] })])
                 (CE.p2 (P2.mod) (CE.call 100 [CE.var 0, CE.lit (V.int 0)]) (CE.lit (V.int 8)))),
             CS.asg 2 (CE.call 100 [CE.var 0, CE.lit (V.int 1)]),
             CS.ite
               (CE.p2 (P2.eq) (CE.var 1) (CE.lit (V.str { cps := #[111, 114, 100, 101, 114] })))
               [CS.asg 3 (CE.trk (CE.list [])),
                CS.for
                  4
                  (SK.range1)
                  [CE.p2 (P2.add) (CE.lit (V.int 1)) (CE.p2 (P2.mod) (CE.call 100 [CE.var 0, CE.lit (V.int 2)]) (CE.lit (V.int 25)))]
                  [CS.asg
                     5
                     (CE.p2
                       (P2.add)
                       (CE.p2
                         (P2.mul)
                         (CE.call 100 [CE.var 0, CE.p2 (P2.add) (CE.lit (V.int 3)) (CE.p2 (P2.mod) (CE.var 4) (CE.lit (V.int 6)))])
                         (CE.p2 (P2.add) (CE.var 4) (CE.lit (V.int 1))))
                       (CE.var 4)),
                   CS.asg
                     6
                     (CE.comp
                       (CE.call
                         102
                         [CE.p2 (P2.fdiv) (CE.var 5) (CE.p2 (P2.add) (CE.var 7) (CE.lit (V.int 1))),
                          CE.p2 (P2.fdiv) (CE.var 2) (CE.p2 (P2.add) (CE.var 7) (CE.lit (V.int 1)))])
                       (SK.range1)
                       [CE.lit (V.int 3)]
                       none),
                   CS.exp
                     (CE.append
                       (CE.var 3)
                       (CE.tup
                         [CE.call 103 [CE.var 5],
                          CE.p2 (P2.index) (CE.var 6) (CE.lit (V.int 0)),
                          CE.p2 (P2.index) (CE.var 6) (CE.lit (V.int 1)),
                          CE.p2 (P2.index) (CE.var 6) (CE.lit (V.int 2))]))],
                CS.ret (CE.tup [CE.lit (V.str { cps := #[111, 114, 100, 101, 114] }), CE.var 3])]
               [],
             CS.asg
               6
               (CE.comp
                 (CE.call
                   102
                   [CE.call 100 [CE.var 0, CE.p2 (P2.add) (CE.lit (V.int 2)) (CE.var 7)],
                    CE.p2 (P2.fdiv) (CE.var 2) (CE.p2 (P2.add) (CE.var 7) (CE.lit (V.int 1)))])
                 (SK.range1)
                 [CE.lit (V.int 3)]
                 none),
             CS.ite
               (CE.or
                 (CE.p2 (P2.eq) (CE.var 1) (CE.lit (V.str { cps := #[112, 97, 121] })))
                 (CE.p2 (P2.eq) (CE.var 1) (CE.lit (V.str { cps := #[114, 101, 102, 117, 110, 100] }))))
               [CS.ret
                  (CE.tup [CE.var 1, CE.p2 (P2.index) (CE.var 6) (CE.lit (V.int 0)), CE.p2 (P2.index) (CE.var 6) (CE.lit (V.int 1))])]
               [],
             CS.ret
               (CE.tup
                 [CE.var 1,
                  CE.p2 (P2.index) (CE.var 6) (CE.lit (V.int 0)),
                  CE.p2 (P2.index) (CE.var 6) (CE.lit (V.int 1)),
                  CE.p2 (P2.index) (CE.var 6) (CE.lit (V.int 2))])] }

noncomputable def f07_105 : Fn :=
  { params := 1,
    slots := 4,
    body := [CS.ite
               (CE.p2 (P2.eq) (CE.p2 (P2.index) (CE.var 0) (CE.lit (V.int 0))) (CE.lit (V.str { cps := #[111, 114, 100, 101, 114] })))
               [CS.asg 1 (CE.trk (CE.list [])),
                CS.for
                  2
                  (SK.val)
                  [CE.p2 (P2.index) (CE.var 0) (CE.lit (V.int 1))]
                  [CS.asg 3 (CE.comp (CE.p1 (P1.toStr) (CE.var 4)) (SK.val) [CE.slice (CE.var 2) (some (CE.lit (V.int 1))) none] none),
                   CS.exp
                     (CE.append
                       (CE.var 1)
                       (CE.p2
                         (P2.add)
                         (CE.p2 (P2.add) (CE.p2 (P2.index) (CE.var 2) (CE.lit (V.int 0))) (CE.lit (V.str { cps := #[32] })))
                         (CE.sm (P2.join) (CE.lit (V.str { cps := #[32] })) (CE.var 3))))],
                CS.ret
                  (CE.p2
                    (P2.add)
                    (CE.lit (V.str { cps := #[111, 114, 100, 101, 114, 32] }))
                    (CE.sm (P2.join) (CE.lit (V.str { cps := #[44, 32] })) (CE.var 1)))]
               [],
             CS.ret
               (CE.p2
                 (P2.add)
                 (CE.p2 (P2.add) (CE.p2 (P2.index) (CE.var 0) (CE.lit (V.int 0))) (CE.lit (V.str { cps := #[32] })))
                 (CE.sm
                   (P2.join)
                   (CE.lit (V.str { cps := #[32] }))
                   (CE.comp (CE.p1 (P1.toStr) (CE.var 4)) (SK.val) [CE.slice (CE.var 0) (some (CE.lit (V.int 1))) none] none)))] }

noncomputable def f07_106 : Fn :=
  { params := 2,
    slots := 3,
    body := [CS.ite
               (CE.or (CE.p1 (P1.not) (CE.p1 (P1.isInst (Kd.tuple)) (CE.var 0))) (CE.p2 (P2.ne) (CE.var 0) (CE.var 1)))
               [CS.ret (CE.lit (V.bool false))]
               [],
             CS.for
               2
               (SK.val)
               [CE.var 0]
               [CS.ite
                  (CE.and (CE.p1 (P1.not) (CE.p1 (P1.isInst (Kd.str)) (CE.var 2))) (CE.p1 (P1.not) (CE.call 101 [CE.var 2])))
                  [CS.ret (CE.lit (V.bool false))]
                  []],
             CS.ret (CE.lit (V.bool true))] }

noncomputable def f07_107 : Fn :=
  { params := 2,
    slots := 3,
    body := [CS.ite
               (CE.p2 (P2.ne) (CE.p2 (P2.index) (CE.var 1) (CE.lit (V.int 0))) (CE.lit (V.str { cps := #[111, 114, 100, 101, 114] })))
               [CS.ret (CE.call 106 [CE.var 0, CE.var 1])]
               [],
             CS.ite
               (CE.or
                 (CE.p1 (P1.not) (CE.p1 (P1.isInst (Kd.tuple)) (CE.var 0)))
                 (CE.or
                   (CE.p2 (P2.ne) (CE.p1 (P1.len) (CE.var 0)) (CE.lit (V.int 2)))
                   (CE.p2 (P2.ne) (CE.p2 (P2.index) (CE.var 0) (CE.lit (V.int 0))) (CE.lit (V.str { cps := #[111, 114, 100, 101, 114] })))))
               [CS.ret (CE.lit (V.bool false))]
               [],
             CS.ite
               (CE.or
                 (CE.p1 (P1.not) (CE.p1 (P1.isInst (Kd.list)) (CE.p2 (P2.index) (CE.var 0) (CE.lit (V.int 1)))))
                 (CE.p2
                   (P2.ne)
                   (CE.p1 (P1.len) (CE.p2 (P2.index) (CE.var 0) (CE.lit (V.int 1))))
                   (CE.p1 (P1.len) (CE.p2 (P2.index) (CE.var 1) (CE.lit (V.int 1))))))
               [CS.ret (CE.lit (V.bool false))]
               [],
             CS.for
               2
               (SK.range1)
               [CE.p1 (P1.len) (CE.p2 (P2.index) (CE.var 1) (CE.lit (V.int 1)))]
               [CS.ite
                  (CE.p1
                    (P1.not)
                    (CE.call
                      106
                      [CE.p2 (P2.index) (CE.p2 (P2.index) (CE.var 0) (CE.lit (V.int 1))) (CE.var 2),
                       CE.p2 (P2.index) (CE.p2 (P2.index) (CE.var 1) (CE.lit (V.int 1))) (CE.var 2)]))
                  [CS.ret (CE.lit (V.bool false))]
                  []],
             CS.ret (CE.lit (V.bool true))] }

noncomputable def f07_108 : Fn :=
  { params := 1, slots := 1, body := [CS.try [CS.ret (CE.call 31 [CE.var 0])]] }

noncomputable def f07_109 : Fn :=
  { params := 1,
    slots := 5,
    body := [CS.asg 1 (CE.call 104 [CE.var 0]),
             CS.asg 2 (CE.var 1),
             CS.ite
               (CE.p2 (P2.eq) (CE.p2 (P2.index) (CE.var 1) (CE.lit (V.int 0))) (CE.lit (V.str { cps := #[111, 114, 100, 101, 114] })))
               [CS.asg
                  2
                  (CE.tup [CE.lit (V.str { cps := #[111, 114, 100, 101, 114] }), CE.p1 (P1.toList) (CE.p2 (P2.index) (CE.var 1) (CE.lit (V.int 1)))])]
               [],
             CS.asg 3 (CE.call 28 [CE.var 2]),
             CS.ite
               (CE.or
                 (CE.p1 (P1.not) (CE.p1 (P1.isInst (Kd.str)) (CE.var 3)))
                 (CE.or (CE.p2 (P2.ne) (CE.var 3) (CE.call 105 [CE.var 1])) (CE.p2 (P2.ne) (CE.var 2) (CE.var 1))))
               [CS.ret (CE.lit (V.bool false))]
               [],
             CS.asg 4 (CE.call 108 [CE.var 3]),
             CS.ret (CE.and (CE.p1 (P1.isNotNone) (CE.var 4)) (CE.call 107 [CE.var 4, CE.var 1]))] }

noncomputable def tab07 : List (Nat × Fn) := [(21, f07_21), (28, f07_28), (29, f07_29), (30, f07_30), (31, f07_31), (100, f07_100), (101, f07_101), (102, f07_102), (103, f07_103), (104, f07_104), (105, f07_105), (106, f07_106), (107, f07_107), (108, f07_108), (109, f07_109)]
noncomputable def T07 (n : Nat) : Option Fn := tab07.lookup n
end Mine
end

/-! # Txt1 -/
section
set_option autoImplicit false
namespace Mine
open PySem PySem.Builtin PySem.Builtin.Str PySem.StrLaws

/-! ## texts as lists of signs -/

theorem mkS_codes (x : Str) : mkS (codes x) = x := by cases x; rfl
@[simp] theorem codes_mkS (l : List Nat) : codes (mkS l) = l := by simp [codes, mkS]
@[simp] theorem mkS_length (l : List Nat) : (mkS l).length = l.length := by simp [mkS, Str.length]

/-- parts with a text between them -/
noncomputable def joinC (sep : List Nat) : List (List Nat) → List Nat
  | [] => []
  | [p] => p
  | p :: q :: r => p ++ (sep ++ joinC sep (q :: r))

theorem strSub_mkS (l : List Nat) (i j : Nat) : strSub (mkS l) i j = mkS ((l.drop i).take (j - i)) := by
  have h := strSub_toList (mkS l) i j
  rw [← mkS_codes (strSub (mkS l) i j)]
  exact congrArg mkS h

theorem at_iff (l sep : List Nat) (k : Nat) : At (mkS l) (mkS sep) l.length k ↔ k + sep.length ≤ l.length ∧ (l.drop k).take sep.length = sep := by
  unfold At subAt
  rw [mkS_length]
  refine and_congr_right fun _ => ?_
  have h := strSub_mkS l k (k + sep.length)
  unfold strSub at h
  have h2 : (mkS l).cps.extract k (k + sep.length) = ((l.drop k).take sep.length).toArray := by
    have := congrArg Str.cps h
    simpa [mkS] using this
  rw [h2, beq_iff_eq]
  show _ = sep.toArray ↔ _
  constructor
  · intro e; simpa using congrArg Array.toList e
  · intro e; rw [e]

theorem split_chain {l : List Nat} {c : Nat} {rest : List Nat} : ∀ (ps : List (List Nat)) (p : List Nat) (a : Nat) (cuts : List Nat) (f : Nat), a ≤ l.length → l.drop a = joinC (c :: rest) (p :: ps) → (∀ q ∈ p :: ps, c ∉ q) →
    ChainG (mkS l) (mkS (c :: rest)) l.length a cuts f → (∀ k, f ≤ k → ¬ At (mkS l) (mkS (c :: rest)) l.length k) → partsFrom (mkS l) (c :: rest).length a cuts = (p :: ps).map mkS := by
  intro ps
  induction ps with
  | nil =>
    intro p a cuts f ha hl hc hch hn
    have hno : ∀ k, a ≤ k → ¬ At (mkS l) (mkS (c :: rest)) l.length k := fun k hk hA => by
      rw [at_iff] at hA
      have h1 : (l.drop k)[0]? = some c := by
        have h2 := congrArg (fun z => z[0]?) hA.2
        simp only [List.length_cons, List.getElem?_cons_zero] at h2
        rw [List.getElem?_take] at h2
        simpa using h2
      have h3 : c ∈ l.drop a := by
        rw [List.getElem?_drop] at h1
        have h4 : (l.drop a)[k - a]? = some c := by
          rw [List.getElem?_drop, show a + (k - a) = k + 0 by omega]
          simpa using h1
        exact List.mem_of_getElem? h4
      rw [hl] at h3
      exact hc p List.mem_cons_self h3
    cases cuts with
    | nil =>
      show [strSub (mkS l) a (mkS l).length] = _
      rw [strSub_mkS, mkS_length, hl]
      have : (joinC (c :: rest) [p]).length = l.length - a := by rw [← hl, List.length_drop]
      rw [List.take_of_length_le (by rw [this]; exact Nat.le_refl _)]
      rfl
    | cons c0 r => exact (hno c0 hch.1 hch.2.1).elim
  | cons p2 ps ih =>
    intro p a cuts f ha hl hc hch hn
    have hl' : l.drop a = p ++ ((c :: rest) ++ joinC (c :: rest) (p2 :: ps)) := hl
    have hlen : l.length - a = p.length + ((c :: rest).length + (joinC (c :: rest) (p2 :: ps)).length) := by rw [← List.length_drop, hl', List.length_append, List.length_append]
    have hdrop : l.drop (a + p.length) = (c :: rest) ++ joinC (c :: rest) (p2 :: ps) := by rw [← List.drop_drop, hl', List.drop_left]
    have hat : At (mkS l) (mkS (c :: rest)) l.length (a + p.length) := by
      rw [at_iff]
      refine ⟨by simp only [List.length_cons] at hlen ⊢; omega, ?_⟩
      rw [hdrop, List.take_left]
    have hno : ∀ k, a ≤ k → k < a + p.length → ¬ At (mkS l) (mkS (c :: rest)) l.length k := fun k hk hk2 hA => by
      rw [at_iff] at hA
      have h1 : (l.drop k)[0]? = some c := by
        have h2 := congrArg (fun z => z[0]?) hA.2
        simp only [List.length_cons, List.getElem?_cons_zero] at h2
        rw [List.getElem?_take] at h2
        simpa using h2
      have h4 : (l.drop a)[k - a]? = some c := by
        rw [List.getElem?_drop] at h1 ⊢
        rw [show a + (k - a) = k + 0 by omega]
        simpa using h1
      rw [hl', List.getElem?_append_left (by omega)] at h4
      exact hc p List.mem_cons_self (List.mem_of_getElem? h4)
    cases cuts with
    | nil =>
      have e : f = a := hch
      exact (hn (a + p.length) (by omega) hat).elim
    | cons c0 r =>
      obtain ⟨h1, h2, h3, h4⟩ := hch
      have ec : c0 = a + p.length := by
        rcases Nat.lt_trichotomy c0 (a + p.length) with h | h | h
        · exact (hno c0 h1 h h2).elim
        · exact h
        · exact (h3 (a + p.length) (by omega) h hat).elim
      subst ec
      show strSub (mkS l) a (a + p.length) :: partsFrom (mkS l) (c :: rest).length (a + p.length + (c :: rest).length) r = _
      rw [strSub_mkS, hl', show a + p.length - a = p.length by omega, List.take_left]
      rw [mkS_length] at h4
      rw [ih p2 (a + p.length + (c :: rest).length) r f (by simp only [List.length_cons] at hlen ⊢; omega) (by rw [← List.drop_drop, hdrop, List.drop_left]) (fun q hq => hc q (List.mem_cons_of_mem _ hq)) h4 hn]
      rfl

theorem split_parts {x y : Str} (hy : 1 ≤ y.length) (hk : y.cps.all (· < 256) = true) : Txt.split x y = partsFrom x y.length 0 (occurrences x y 0 x.length (x.length + 1)) := by
  have hself : partsFrom x y.length 0 [] = [x] := by
    show [strSub x 0 x.length] = [x]
    rw [sub_whole]
  unfold Txt.split
  split
  · rename_i h
    have he : occurrences x y 0 x.length (x.length + 1) = [] := by
      rcases occ_head x y (x.length + 1) (by omega) with ⟨e, _⟩ | ⟨i, r, _, hA, _⟩
      · exact e
      · exfalso
        simp only [Bool.or_eq_true, decide_eq_true_eq] at h
        rcases h with h | h
        · have := hA.1; omega
        · have h1 : Builtin.Str.strKind y = 1 := by unfold Builtin.Str.strKind; rw [if_pos hk]
          have h2 : 1 ≤ Builtin.Str.strKind x := by unfold Builtin.Str.strKind; split <;> (try split) <;> omega
          omega
    rw [he, hself]
  · split
    · rename_i h
      rw [List.isEmpty_iff.mp h, hself]
    · rw [partsBetween_eq]

theorem split_join {c : Nat} {rest p : List Nat} {ps : List (List Nat)} (hk : (c :: rest).all (· < 256) = true) (hc : ∀ q ∈ p :: ps, c ∉ q) :
    Txt.split (mkS (joinC (c :: rest) (p :: ps))) (mkS (c :: rest)) = (p :: ps).map mkS := by
  rw [split_parts (by simp) (by simpa [mkS] using hk)]
  obtain ⟨f, h1, h2⟩ := occ_tight (mkS (joinC (c :: rest) (p :: ps))) (mkS (c :: rest)) (by simp)
  rw [mkS_length] at h1 h2 ⊢
  have := split_chain (l := joinC (c :: rest) (p :: ps)) ps p 0 _ f (by omega) (List.drop_zero) hc h1 h2
  simpa using this

theorem at_c {l : List Nat} {c k : Nat} : At (mkS l) (mkS [c]) l.length k ↔ l[k]? = some c := by
  rw [at_iff]
  constructor
  · rintro ⟨_, h⟩
    have h2 := congrArg (fun z => z[0]?) h
    simp only [List.length_cons, List.getElem?_cons_zero] at h2
    rw [List.getElem?_take, List.getElem?_drop] at h2
    simpa using h2
  · intro h
    have hlt := (List.getElem?_eq_some_iff.mp h).1
    refine ⟨by simp; omega, ?_⟩
    rw [List.drop_eq_getElem_cons hlt, (List.getElem?_eq_some_iff.mp h).2]
    rfl

theorem part_first {c : Nat} {p r : List Nat} (hc : c ∉ p) : Txt.partition (mkS (p ++ (c :: r))) (mkS [c]) = (mkS p, mkS [c], mkS r) := by
  have hat : At (mkS (p ++ (c :: r))) (mkS [c]) (p ++ (c :: r)).length p.length := by rw [at_c]; simp
  unfold Txt.partition
  rcases occ_head (mkS (p ++ (c :: r))) (mkS [c]) 1 (by omega) with ⟨_, h⟩ | ⟨i, rr, e, hA, hn⟩
  · rw [mkS_length] at h
    exact (h _ hat).elim
  · rw [mkS_length] at e hA hn ⊢
    rw [e]
    have hi : i = p.length := by
      rcases Nat.lt_trichotomy i p.length with h | h | h
      · rw [at_c, List.getElem?_append_left h] at hA
        exact (hc (List.mem_of_getElem? hA)).elim
      · exact h
      · exact (hn _ h hat).elim
    subst hi
    simp only
    rw [strSub_mkS, strSub_mkS]
    simp
    rw [List.take_of_length_le (by omega)]

end Mine
end

/-! # Txt2 -/
section
set_option autoImplicit false
namespace Mine
open PySem PySem.W PySem.NumText

/-! ## numbers as texts -/
noncomputable def digs (m : Nat) : List Nat := (Nat.toDigits 10 m).map Char.toNat

theorem str_num (m : Nat) : Str.ofString (toString ((m : Nat) : Int)) = mkS (digs m) := by
  rw [← mkS_codes (Str.ofString _)]
  exact congrArg mkS (KIN.signs_num m)

theorem digs_digit {m c : Nat} (h : c ∈ digs m) : 48 ≤ c ∧ c ≤ 57 := by
  obtain ⟨ch, hch, rfl⟩ := List.mem_map.mp h
  have r := PyProof.Rows.digit_range (Nat.isDigit_of_mem_toDigits (by decide) (by decide) hch)
  exact r
theorem digs_pos (m : Nat) : 1 ≤ (digs m).length := by
  unfold digs; rw [List.length_map]; exact PyProof.Rows.tDigits_len_ge 10 m
theorem digs_le {k m : Nat} (hk : 1 ≤ k) (h : m < 10 ^ k) : (digs m).length ≤ k := by
  unfold digs; rw [List.length_map]; exact PyProof.Rows.digits10_le hk h

theorem digs_small {m : Nat} (h : m < 10) : digs m = [(Nat.digitChar m).toNat] := by
  unfold digs; rw [Nat.toDigits_of_lt_base h]; rfl
theorem digs_big {m : Nat} (h : ¬ m < 10) : digs m = digs (m / 10) ++ digs (m % 10) := by
  have hm : m % 10 < 10 := Nat.mod_lt m (by decide)
  have t : Nat.toDigits 10 (m / 10) ++ Nat.toDigits 10 (m % 10) = Nat.toDigits 10 (10 * (m / 10) + m % 10) := Nat.toDigits_append_toDigits (by decide) (by omega) hm
  rw [Nat.div_add_mod] at t
  unfold digs
  rw [← t, List.map_append]

theorem digs_head : ∀ (m : Nat), 1 ≤ m → (digs m).head? ≠ some 48 := by
  intro m
  induction m using Nat.strongRecOn with
  | _ m ih =>
    intro h1
    by_cases h : m < 10
    · rw [digs_small h]
      have : ∀ d : Nat, d < 10 → 1 ≤ d → ([(Nat.digitChar d).toNat] : List Nat).head? ≠ some 48 := by decide
      exact this m h h1
    · rw [digs_big h]
      have hp := digs_pos (m / 10)
      have hne := ih (m / 10) (by omega) (by omega)
      cases hd : digs (m / 10) with
      | nil => rw [hd] at hp; simp at hp
      | cons a r => rw [hd] at hne; simpa using hne

theorem digs_zero {m : Nat} (h : (digs m).head? = some 48) : (digs m).length = 1 := by
  have : m < 1 := Nat.lt_of_not_le fun h1 => digs_head m h1 h
  rw [digs_small (by omega)]; rfl

theorem read_num {m : Nat} (h : m < 10 ^ 30) : PySem.intText? (mkS (digs m)) = some (m : Int) := by
  have hl := digs_le (k := 30) (by decide) h
  have hd : AllDigits (mkS (digs m)).cps.toList := by
    intro c hc
    exact digs_digit (by simpa [mkS] using hc)
  have hne : (mkS (digs m)).cps.toList ≠ [] := by
    intro e
    have := digs_pos m
    have e : digs m = [] := by simpa [mkS] using e
    rw [e] at this; simp at this
  have e := intText_digits hd hne (by show (mkS (digs m)).length ≤ _; rw [mkS_length]; omega)
  rw [show (mkS (digs m)).cps.toList = digs m by simp [mkS]] at e
  unfold digs at e
  rw [KIN.val_back] at e
  exact e

end Mine
end

/-! # L07a -/
section
set_option autoImplicit false
set_option linter.unusedSimpArgs false
set_option linter.unusedVariables false
namespace Mine
open PySem

theorem f07c {d : Nat} {s : List Int} {k : Nat} {σ : Sto} : callFn T07 (d + 1) false 100 [.lst (iv s), .int k] σ = .ok (.int (gI s k)) σ := by
  refine call_ok (fn := f07_100) rfl rfl ?_
  by_cases h : k < s.length
  · simp [f07_100, readVar, index_lst σ h, h]
  · simp [f07_100, readVar, h, gI]

theorem f07w {d : Nat} {k : Int} {σ : Sto} : callFn T07 (d + 1) false 101 [.int k] σ = .ok (.bool true) σ := by
  refine call_ok (fn := f07_101) rfl rfl ?_
  simp [f07_101, readVar]

/-- a number of a deed -/
noncomputable def Num (n : Nat) : Prop := n < 10 ^ 30

theorem num_of {i : Int} (h0 : 0 ≤ i) (h1 : i < 10 ^ 30) : ∃ n : Nat, Num n ∧ i = (n : Int) := ⟨i.toNat, by unfold Num; omega, by omega⟩

noncomputable def P30 : Int := 10 ^ 30
noncomputable def P29 : Int := 10 ^ 29

theorem f07n {d : Nat} {cell way : Int} {σ : Sto} : ∃ n : Nat, Num n ∧ callFn T07 (d + 1) false 102 [.int cell, .int way] σ = .ok (.int n) σ := by
  have hp : ev2 .pow σ (.int 10) (.int 30) = some (.int P30) := ev2_pow σ 30 (by decide)
  have hp29 : ev2 .pow σ (.int 10) (.int 29) = some (.int P29) := ev2_pow σ 29 (by decide)
  by_cases hA : way.fmod 4 = 0
  · obtain ⟨n, hn, e⟩ := num_of (Int.fmod_nonneg_of_pos cell (b := P30) (by decide)) (Int.fmod_lt_of_pos cell (by decide))
    refine ⟨n, hn, call_ok (fn := f07_102) rfl rfl ?_⟩
    rw [← e]
    have hz : (P30 == 0) = false := by decide
    simp [f07_102, readVar, ev2_mod, hA, hp, hz]
  · by_cases hB : way.fmod 4 = 1
    · have h0 : 0 ≤ cell.fmod 5 := Int.fmod_nonneg_of_pos _ (by decide)
      have h1 : cell.fmod 5 < 5 := Int.fmod_lt_of_pos _ (by decide)
      obtain ⟨k, hk, e⟩ : ∃ k : Nat, k < 5 ∧ cell.fmod 5 = (k : Int) := ⟨(cell.fmod 5).toNat, by omega, by omega⟩
      have hm : way.fmod 4 = 1 := hB
      have five : ∀ k : Nat, k < 5 → ∃ n : Nat, Num n ∧ [V.int 0, V.int (P30 - 1), V.int 9, V.int 10, V.int P29][k]? = some (V.int (n : Int)) := by
        intro k hk
        match k, hk with
        | 0, _ => exact ⟨0, by unfold Num; decide, rfl⟩
        | 1, _ => exact ⟨10 ^ 30 - 1, by unfold Num; decide, by rfl⟩
        | 2, _ => exact ⟨9, by unfold Num; decide, rfl⟩
        | 3, _ => exact ⟨10, by unfold Num; decide, rfl⟩
        | 4, _ => exact ⟨10 ^ 29, by unfold Num; decide, by rfl⟩
      obtain ⟨n, hn, hg⟩ := five k hk
      have hi := index_lst' σ hg
      refine ⟨n, hn, call_ok (fn := f07_102) rfl rfl ?_⟩
      rw [← e] at hi
      simp [f07_102, readVar, ev2_mod, hB, hp, hp29, hi]
    · obtain ⟨n, hn, e⟩ := num_of (Int.fmod_nonneg_of_pos cell (b := 1000) (by decide)) (Int.lt_of_lt_of_le (Int.fmod_lt_of_pos cell (b := 1000) (by decide)) (by decide))
      refine ⟨n, hn, call_ok (fn := f07_102) rfl rfl ?_⟩
      rw [← e]
      simp [f07_102, readVar, ev2_mod, hA, hB]

/-! ## texts made and taken apart -/
noncomputable def strsV (l : List (List Nat)) : List V := l.map fun c => .str (mkS c)
@[simp] theorem strsV_len (l : List (List Nat)) : (strsV l).length = l.length := by simp [strsV]
theorem strs_strsV (l : List (List Nat)) : strs? (strsV l) = some (l.map mkS) := by
  induction l with
  | nil => rfl
  | cons c l ih =>
    unfold strs? at ih ⊢
    show (V.str (mkS c) :: strsV l).mapM strOf? = _
    rw [List.mapM_cons, ih]
    rfl

theorem mkS_append (a b : List Nat) : mkS a ++ mkS b = mkS (a ++ b) := by
  show (⟨(mkS a).cps ++ (mkS b).cps⟩ : Str) = _
  simp [mkS]
theorem join_mkS (sep : List Nat) : ∀ l : List (List Nat), Str.join (mkS sep) (l.map mkS) = mkS (joinC sep l)
  | [] => rfl
  | [p] => rfl
  | p :: q :: r => by
    show mkS p ++ mkS sep ++ Str.join (mkS sep) ((q :: r).map mkS) = mkS (p ++ (sep ++ joinC sep (q :: r)))
    rw [join_mkS sep (q :: r), mkS_append, mkS_append, List.append_assoc]

noncomputable def lens (l : List (List Nat)) : Nat := (l.map List.length).sum
theorem join_ev (σ : Sto) {sep : List Nat} {l : List (List Nat)} {b : V} (hb : listOf? σ b = some (strsV l)) (h : lens l + l.length * sep.length ≤ 100000) :
    ev2 .join σ (.str (mkS sep)) b = some (.str (mkS (joinC sep l))) := by
  show joinV σ (.str (mkS sep)) b = _
  have h2 : ((l.map mkS).map (·.length)).sum = lens l := by simp [lens, Function.comp_def]
  have h3 : Txt.join (mkS sep) (l.map mkS) = mkS (joinC sep l) := by
    show PySem.Builtin.Str.glued _ _ = _
    rw [StrLaws.glued_eq_join, join_mkS]
  simp only [joinV, strOf_str, Option.bind_some, hb, strs_strsV]
  rw [if_pos (by rw [h2]; simpa using h), h3]

theorem split_ev (σ : Sto) {c : Nat} {rest p : List Nat} {ps : List (List Nat)} (hk : (c :: rest).all (· < 256) = true) (hc : ∀ q ∈ p :: ps, c ∉ q) (hl : (joinC (c :: rest) (p :: ps)).length ≤ 10000) :
    ev2 .split σ (.str (mkS (joinC (c :: rest) (p :: ps)))) (.str (mkS (c :: rest))) = some (.lst (strsV (p :: ps))) := by
  show splitV _ _ = _
  simp only [splitV, strOf_str, Option.bind_some]
  rw [if_neg (by simp; omega), split_join hk hc]
  simp [strsV]

theorem part_ev (σ : Sto) {c : Nat} {p r : List Nat} (hc : c ∉ p) (hl : (p ++ (c :: r)).length ≤ 10000) :
    ev2 .partition σ (.str (mkS (p ++ (c :: r)))) (.str (mkS [c])) = some (.tup [.str (mkS p), .str (mkS [c]), .str (mkS r)]) := by
  show partV _ _ = _
  simp only [partV, strOf_str, Option.bind_some]
  rw [if_neg (by simp at hl ⊢; omega), part_first hc]

theorem cat_ev (σ : Sto) {a b : List Nat} (h : a.length + b.length ≤ 10000) : ev2 .add σ (.str (mkS a)) (.str (mkS b)) = some (.str (mkS (a ++ b))) := by
  show (if (mkS a).length + (mkS b).length ≤ 10000 then some (V.str (mkS a ++ mkS b)) else none) = _
  rw [if_pos (by simpa using h), mkS_append]

theorem lt100 {n : Nat} (h : Num n) : (n : Int) < 10 ^ 100 := by
  have h2 : n < 10 ^ 30 := h
  have h4 : (10 : Nat) ^ 30 ≤ 10 ^ 100 := Nat.pow_le_pow_right (by decide) (by decide)
  have h5 : n < 10 ^ 100 := Nat.lt_of_lt_of_le h2 h4
  exact_mod_cast h5
set_option maxRecDepth 10000 in
theorem str_ev (σ : Sto) {n : Nat} (h : Num n) : ev1 .toStr σ (.int n) = some (.str (mkS (digs n))) := by
  unfold ev1
  simp only
  rw [if_pos ⟨Int.natCast_nonneg n, lt100 h⟩, str_num]

theorem int_ev (σ : Sto) {n : Nat} (h : Num n) : ev1 .toInt σ (.str (mkS (digs n))) = some (.int n) := by
  show (if (mkS (digs n)).length ≤ 640 then (intText? (mkS (digs n))).map V.int else none) = _
  have := digs_le (k := 30) (by decide) h
  rw [if_pos (by rw [mkS_length]; omega), read_num h]
  rfl

theorem index_str (σ : Sto) {l : List Nat} {i c : Nat} (h : l[i]? = some c) : ev2 .index σ (.str (mkS l)) (.int i) = some (.str (mkS [c])) := by
  show ((normIndex (mkS l).length i).bind fun k => (codes (mkS l))[k]?.map fun c => V.str (mkS [c])) = _
  rw [normIndex_at (by rw [mkS_length]; exact (List.getElem?_eq_some_iff.mp h).1)]
  show ((codes (mkS l))[i]?.map fun c => V.str (mkS [c])) = _
  rw [codes_mkS, h]; rfl
end Mine
end

/-! # L07b -/
section
set_option autoImplicit false
set_option linter.unusedSimpArgs false
set_option linter.unusedVariables false
namespace Mine
open PySem

section
variable (σ : Sto)
@[simp] theorem ev2_eqs (x y : Str) : ev2 .eq σ (.str x) (.str y) = some (.bool (x == y)) := rfl
@[simp] theorem ev2_nes (x y : Str) : ev2 .ne σ (.str x) (.str y) = some (.bool !(x == y)) := rfl
theorem in_c (c : Nat) (l : List Nat) : ev2 .isIn σ (.str (mkS [c])) (.str (mkS l)) = some (.bool (l.contains c)) := by
  show (inV σ (.str (mkS [c])) (.str (mkS l))).map V.bool = _
  have : inV σ (.str (mkS [c])) (.str (mkS l)) = some ((codes (mkS l)).contains c) := rfl
  rw [this, codes_mkS]; rfl
theorem items_str {l : List Nat} (h : ∀ c ∈ l, c < 128) : itemsBy σ .val [.str (mkS l)] = some (.now (l.map fun c => V.str (mkS [c]))) := by
  show (if (mkS l).cps.all (· < 128) = true then some (Items.now (charsOf (mkS l))) else none) = _
  rw [if_pos (by rw [Array.all_eq_true']; intro c hc; simpa using h c (by simpa [mkS] using hc))]
  unfold charsOf
  rw [codes_mkS]
theorem all_true {α : Type} (l : List α) : ev1 .all σ (.lst (l.map fun _ => V.bool true)) = some (.bool true) := by
  have h : bools? (l.map fun _ => V.bool true) = some (l.map fun _ => true) := by
    induction l with
    | nil => rfl
    | cons a l ih =>
      unfold bools? at ih ⊢
      rw [List.map_cons, List.mapM_cons, ih]; rfl
  show (bools? (l.map fun _ => V.bool true)).map (fun l => V.bool (l.all id)) = _
  rw [h]
  simp
end

noncomputable def FIG : List Nat := [48, 49, 50, 51, 52, 53, 54, 55, 56, 57]
noncomputable def ABC : List Nat := [97, 98, 99, 100, 101, 102, 103, 104, 105, 106, 107, 108, 109, 110, 111, 112, 113, 114, 115, 116, 117, 118, 119, 120, 121, 122]
theorem fig_of {c : Nat} (h : 48 ≤ c ∧ c ≤ 57) : FIG.contains c = true := by
  have : ∀ c : Nat, c < 58 → 48 ≤ c → FIG.contains c = true := by decide
  exact this c (by omega) h.1
theorem abc_of {c : Nat} (h : 97 ≤ c ∧ c ≤ 122) : ABC.contains c = true := by
  have : ∀ c : Nat, c < 123 → 97 ≤ c → ABC.contains c = true := by decide
  exact this c (by omega) h.1

/-- all signs of a text are among some -/
theorem all_in {F : Calls} {σ : Sto} {l m : List Nat} {ρ : List V} {k : Nat} {C : Str} (hC : C = mkS m) (hr : readVar ρ 0 = some (.str (mkS l))) (hk : ρ.length = k) (h1 : ∀ c ∈ l, c < 128) (h2 : ∀ c ∈ l, m.contains c = true) (hl : l.length < LIM) :
    evE F false (.comp (.p2 .isIn (.var k) (.lit (.str C))) .val [.var 0] none) ρ σ = .ok (.lst (l.map fun _ => V.bool true)) σ := by
  subst hC
  rw [evE_comp (l := l) (φ := fun c => V.str (mkS [c])) (σ₁ := σ) (vs := [.str (mkS l)]) (it := .now (l.map fun c => V.str (mkS [c]))) (fun _ => true) (fun _ => V.bool true)]
  · rw [filter_tt]
  · simp [hr]
  · exact items_str σ h1
  · exact .inl rfl
  · exact hl
  · simp
  · intro c hc _
    have hv : readVar (ρ ++ [V.str (mkS [c])]) k = some (.str (mkS [c])) := by
      unfold readVar
      rw [List.getElem?_append_right (by omega), hk]
      simp
    have hm := h2 c hc
    simp at hm
    simp [hv, in_c, hm]

theorem f29 {d : Nat} {n : Nat} {σ : Sto} (hn : Num n) : callFn T07 (d + 1) false 29 [.str (mkS (digs n))] σ = .ok (.int n) σ := by
  have h1 := digs_pos n
  have h2 := digs_le (k := 30) (by decide) hn
  have hall := all_in (F := callFn T07 d false) (σ := σ) (l := digs n) (m := FIG) (ρ := [.str (mkS (digs n))]) (k := 1) (C := { cps := #[48, 49, 50, 51, 52, 53, 54, 55, 56, 57] }) rfl rfl rfl (fun c hc => by have := digs_digit hc; omega) (fun c hc => fig_of (digs_digit hc)) (by simp [LIM]; omega)
  obtain ⟨c, r, hd⟩ : ∃ c r, digs n = c :: r := by
    cases h : digs n with
    | nil => rw [h] at h1; simp at h1
    | cons c r => exact ⟨c, r, rfl⟩
  have hi : ev2 .index σ (.str (mkS (digs n))) (.int 0) = some (.str (mkS [c])) := index_str σ (i := 0) (by rw [hd]; rfl)
  have hz : (mkS [c] == ({ cps := #[48] } : Str)) = true → ¬ (1 : Int) < (digs n).length := fun e => by
    have e2 : mkS [c] = mkS [48] := eq_of_beq e
    have e3 := congrArg codes e2
    simp at e3
    have := digs_zero (m := n) (by rw [hd, e3]; rfl)
    omega
  refine call_ok (fn := f07_29) rfl rfl ?_
  have hb1 : (1 : Int) ≤ ((digs n).length : Int) := by omega
  have hb2 : ((digs n).length : Int) ≤ 30 := by omega
  simp only [f07_29, List.cons_append, List.nil_append, List.replicate, Nat.sub_self]
  by_cases hc0 : (mkS [c] == ({ cps := #[48] } : Str)) = true
  · have := hz hc0
    simp [readVar, evChain, hb1, hb2, hall, all_true, hi, int_ev σ hn, hc0, this]
  · simp [readVar, evChain, hb1, hb2, hall, all_true, hi, int_ev σ hn, hc0]


/-- an item of a line -/
structure Item (l : List Nat) : Prop where
  pos : 1 ≤ l.length
  le : l.length ≤ 12
  abc : ∀ c ∈ l, 97 ≤ c ∧ c ≤ 122

theorem f21 {d : Nat} {l : List Nat} {σ : Sto} (hi : Item l) : callFn T07 (d + 1) false 21 [.str (mkS l)] σ = .ok (.bool true) σ := by
  have hall := all_in (F := callFn T07 d false) (σ := σ) (l := l) (m := ABC) (ρ := [.str (mkS l)]) (k := 1) (C := { cps := #[97, 98, 99, 100, 101, 102, 103, 104, 105, 106, 107, 108, 109, 110, 111, 112, 113, 114, 115, 116, 117, 118, 119, 120, 121, 122] }) rfl rfl rfl (fun c hc => by have := hi.abc c hc; omega) (fun c hc => abc_of (hi.abc c hc)) (by have := hi.le; simp [LIM]; omega)
  refine call_ok (fn := f07_21) rfl rfl ?_
  have hb1 : (1 : Int) ≤ (l.length : Int) := by have := hi.pos; omega
  have hb2 : (l.length : Int) ≤ 12 := by have := hi.le; omega
  simp only [f07_21, List.cons_append, List.nil_append, List.replicate, Nat.sub_self]
  simp [readVar, evChain, hb1, hb2, hall, all_true]

noncomputable def lineC (t : List Nat × Nat × Nat × Nat) : List Nat := joinC [32] [t.1, digs t.2.1, digs t.2.2.1, digs t.2.2.2]
noncomputable def lineV (t : List Nat × Nat × Nat × Nat) : V := .tup [.str (mkS t.1), .int t.2.1, .int t.2.2.1, .int t.2.2.2]
structure Line (t : List Nat × Nat × Nat × Nat) : Prop where
  item : Item t.1
  a : Num t.2.1
  b : Num t.2.2.1
  c : Num t.2.2.2

theorem joinC_len (sep : List Nat) : ∀ l : List (List Nat), (joinC sep l).length ≤ lens l + l.length * sep.length
  | [] => by simp [joinC, lens]
  | [p] => by simp [joinC, lens]
  | p :: q :: r => by
    have := joinC_len sep (q :: r)
    simp only [joinC, List.length_append, lens, List.map_cons, List.sum_cons, List.length_cons, Nat.succ_mul] at this ⊢
    omega

theorem line_len {t : List Nat × Nat × Nat × Nat} (h : Line t) : (lineC t).length ≤ 110 := by
  have h0 := joinC_len [32] [t.1, digs t.2.1, digs t.2.2.1, digs t.2.2.2]
  have h1 := h.item.le
  have h2 := digs_le (k := 30) (by decide) h.a
  have h3 := digs_le (k := 30) (by decide) h.b
  have h4 := digs_le (k := 30) (by decide) h.c
  simp [lens] at h0
  unfold lineC
  omega

theorem no32 {n : Nat} : 32 ∉ digs n := fun h => by have := digs_digit h; omega
theorem item32 {l : List Nat} (h : Item l) : 32 ∉ l := fun hm => by have := h.abc _ hm; omega

theorem f30 {d : Nat} {t : List Nat × Nat × Nat × Nat} {σ : Sto} (h : Line t) : callFn T07 (d + 2) false 30 [.str (mkS (lineC t))] σ = .ok (lineV t) σ := by
  have hs : ev2 .split σ (.str (mkS (lineC t))) (.str { cps := #[32] }) = some (.lst (strsV [t.1, digs t.2.1, digs t.2.2.1, digs t.2.2.2])) :=
    split_ev σ (c := 32) (rest := []) rfl (fun q hq => by
      simp only [List.mem_cons, List.not_mem_nil, or_false] at hq
      rcases hq with rfl | rfl | rfl | rfl
      · exact item32 h.item
      · exact no32
      · exact no32
      · exact no32) (by have := line_len h; unfold lineC at this; omega)
  refine call_ok (fn := f07_30) rfl rfl ?_
  have i0 : ev2 .index σ (.lst (strsV [t.1, digs t.2.1, digs t.2.2.1, digs t.2.2.2])) (.int 0) = some (.str (mkS t.1)) := index_lst' σ (i := 0) rfl
  have i1 : ev2 .index σ (.lst (strsV [t.1, digs t.2.1, digs t.2.2.1, digs t.2.2.2])) (.int 1) = some (.str (mkS (digs t.2.1))) := index_lst' σ (i := 1) rfl
  have i2 : ev2 .index σ (.lst (strsV [t.1, digs t.2.1, digs t.2.2.1, digs t.2.2.2])) (.int 2) = some (.str (mkS (digs t.2.2.1))) := index_lst' σ (i := 2) rfl
  have i3 : ev2 .index σ (.lst (strsV [t.1, digs t.2.1, digs t.2.2.1, digs t.2.2.2])) (.int 3) = some (.str (mkS (digs t.2.2.2))) := index_lst' σ (i := 3) rfl
  simp only [f07_30, List.cons_append, List.nil_append, List.replicate]
  simp [readVar, hs, i0, i1, i2, i3, f21 h.item, f29 h.a, f29 h.b, f29 h.c, lineV]

theorem index_abc (σ : Sto) {k : Int} (h0 : 0 ≤ k) (h1 : k < 26) : ∃ c, (97 ≤ c ∧ c ≤ 122) ∧ ev2 .index σ (.str { cps := #[97, 98, 99, 100, 101, 102, 103, 104, 105, 106, 107, 108, 109, 110, 111, 112, 113, 114, 115, 116, 117, 118, 119, 120, 121, 122] }) (.int k) = some (.str (mkS [c])) := by
  obtain ⟨i, rfl⟩ := Int.eq_ofNat_of_zero_le h0
  have hi : i < 26 := by omega
  have : ∀ i : Nat, i < 26 → ABC[i]? = some (97 + i) := by decide
  exact ⟨97 + i, by omega, index_str σ (l := ABC) (this i hi)⟩

theorem lens_ones (g : Nat → Nat) : ∀ l : List Nat, lens (l.map fun k => [g k]) = l.length
  | [] => rfl
  | a :: l => by
    have := lens_ones g l
    simp only [lens, List.map_cons, List.sum_cons, List.length_cons] at this ⊢
    simp at this ⊢; omega

theorem f103 {d : Nat} {cell : Int} {σ : Sto} : ∃ l, Item l ∧ callFn T07 (d + 1) false 103 [.int cell] σ = .ok (.str (mkS l)) σ := by
  have hn0 : 0 ≤ cell.fmod 12 := Int.fmod_nonneg_of_pos _ (by decide)
  have hn1 : cell.fmod 12 < 12 := Int.fmod_lt_of_pos _ (by decide)
  let q (k : Nat) : Int := (cell.fdiv 12 + (cell.fdiv 12).fdiv 26 * (k : Int) + 5 * (k : Int)).fmod 26
  have hq : ∀ k, ∃ c, (97 ≤ c ∧ c ≤ 122) ∧ ev2 .index σ (.str { cps := #[97, 98, 99, 100, 101, 102, 103, 104, 105, 106, 107, 108, 109, 110, 111, 112, 113, 114, 115, 116, 117, 118, 119, 120, 121, 122] }) (.int (q k)) = some (.str (mkS [c])) := fun k =>
    index_abc σ (Int.fmod_nonneg_of_pos _ (by decide)) (Int.fmod_lt_of_pos _ (by decide))
  let g (k : Nat) : Nat := Classical.choose (hq k)
  have hg : ∀ k, (97 ≤ g k ∧ g k ≤ 122) ∧ ev2 .index σ (.str { cps := #[97, 98, 99, 100, 101, 102, 103, 104, 105, 106, 107, 108, 109, 110, 111, 112, 113, 114, 115, 116, 117, 118, 119, 120, 121, 122] }) (.int (q k)) = some (.str (mkS [g k])) := fun k => Classical.choose_spec (hq k)
  generalize hN : (1 + cell.fmod 12).toNat = N
  have hN1 : 1 ≤ N := by omega
  have hN2 : N ≤ 12 := by omega
  have hNi : 1 + cell.fmod 12 = (N : Int) := by omega
  have hc : evE (callFn T07 d false) false (CE.comp (CE.p2 P2.index (CE.var 1) (CE.p2 P2.mod (CE.p2 P2.add (CE.p2 P2.add (CE.p2 P2.fdiv (CE.var 0) (CE.lit (V.int 12)))
      (CE.p2 P2.mul (CE.p2 P2.fdiv (CE.p2 P2.fdiv (CE.var 0) (CE.lit (V.int 12))) (CE.lit (V.int 26))) (CE.var 2))) (CE.p2 P2.mul (CE.lit (V.int 5)) (CE.var 2))) (CE.lit (V.int 26)))) SK.range1 [CE.p2 P2.add (CE.lit (V.int 1)) (CE.p2 P2.mod (CE.var 0) (CE.lit (V.int 12)))] none)
      [.int cell, .str { cps := #[97, 98, 99, 100, 101, 102, 103, 104, 105, 106, 107, 108, 109, 110, 111, 112, 113, 114, 115, 116, 117, 118, 119, 120, 121, 122] }] σ = .ok (.lst (strsV ((List.range N).map fun k => [g k]))) σ := by
    rw [evE_comp (l := List.range N) (φ := fun k : Nat => V.int (k : Int)) (σ₁ := σ) (vs := [.int N]) (it := .now (rangeL 0 N)) (fun _ => true) (fun k => V.str (mkS [g k]))]
    · rw [filter_tt]; simp [strsV]
    · simp [readVar, ev2_mod, hNi]
    · exact itemsBy_range1 σ (by simp [LIM]; omega)
    · exact .inl (by simp [rangeL])
    · simp [LIM]; omega
    · simp
    · intro k hk _
      have hk : k < N := by simpa using hk
      have hs : smallFactor (k : Int) = true := by simp [smallFactor]; omega
      have h5 : smallFactor 5 = true := by decide
      have hgk := (hg k).2
      simp only [q] at hgk
      simp [readVar, ev2_mod, ev2_fdiv, ev2_mul, hs, h5, hgk]
  refine ⟨(List.range N).map g, ⟨by simpa using hN1, by simpa using hN2, fun c hc => ?_⟩, call_ok (fn := f07_103) rfl rfl ?_⟩
  · obtain ⟨k, _, rfl⟩ := List.mem_map.mp hc
    exact (hg k).1
  · have hj : joinC [] ((List.range N).map fun k => [g k]) = (List.range N).map g := by
      have : ∀ l : List Nat, joinC [] (l.map fun k => [g k]) = l.map g := by
        intro l
        induction l with
        | nil => rfl
        | cons a l ih =>
          cases l with
          | nil => rfl
          | cons b l =>
            show [g a] ++ ([] ++ joinC [] ((b :: l).map fun k => [g k])) = _
            rw [ih]; rfl
      exact this _
    have hjoin := join_ev σ (sep := []) (l := (List.range N).map fun k => [g k]) (b := .lst (strsV ((List.range N).map fun k => [g k]))) rfl (by rw [lens_ones]; simp; omega)
    rw [hj] at hjoin
    have hjoin : ev2 .join σ (.str { cps := #[] }) (.lst (strsV ((List.range N).map fun k => [g k]))) = some (.str (mkS ((List.range N).map g))) := hjoin
    simp only [f07_103, List.cons_append, List.nil_append, List.replicate]
    simp [hc, hjoin]
end Mine
end

/-! # L07c -/
section
set_option autoImplicit false
set_option linter.unusedSimpArgs false
set_option linter.unusedVariables false
namespace Mine
open PySem

noncomputable def ORD : List Nat := [111, 114, 100, 101, 114]
noncomputable def nV (ns : List Nat) : List V := ns.map fun (n : Nat) => V.int (n : Int)
@[simp] theorem nV_len (ns : List Nat) : (nV ns).length = ns.length := by simp [nV]

/-- a deed that is no order -/
structure Simple (w : List Nat) (ns : List Nat) : Prop where
  blank : 32 ∉ w
  len : w.length ≤ 10
  nord : (mkS w == ({ cps := #[111, 114, 100, 101, 114] } : Str)) = false
  any : (partsTable.any fun p => p.1 == mkS w) = true
  cnt : (partsTable.find? fun p => p.1 == mkS w).map (·.2) = some ((ns.length : Int) + 1)
  nums : ∀ n ∈ ns, Num n
  pos : 1 ≤ ns.length
  le : ns.length ≤ 3

theorem add_lst (σ : Sto) {xs ys : List V} (h : xs.length + ys.length ≤ LIM) : ev2 .add σ (.lst xs) (.lst ys) = some (.lst (xs ++ ys)) := by
  show (if xs.length + ys.length ≤ LIM then some (V.lst (xs ++ ys)) else none) = _
  rw [if_pos h]
@[simp] theorem ev1_toTup_lst (σ : Sto) (xs : List V) : ev1 .toTup σ (.lst xs) = some (.tup xs) := rfl
theorem parts_index (σ : Sto) {x : Str} {i : Int} (h : (partsTable.find? fun p => p.1 == x).map (·.2) = some i) : ev2 .index σ .parts (.str x) = some (.int i) := by
  show ((partsTable.find? fun p => p.1 == x).map fun p => V.int p.2) = _
  cases e : partsTable.find? fun p => p.1 == x with
  | none => rw [e] at h; cases h
  | some p => rw [e] at h; cases h; rfl
theorem parts_notIn (σ : Sto) (x : Str) : ev2 .notIn σ (.str x) .parts = some (.bool !(partsTable.any fun p => p.1 == x)) := rfl

theorem mem_joinC {c : Nat} {sep : List Nat} : ∀ {l : List (List Nat)}, c ∈ joinC sep l → c ∈ sep ∨ ∃ p ∈ l, c ∈ p
  | [], h => by cases h
  | [p], h => .inr ⟨p, List.mem_cons_self, h⟩
  | p :: q :: r, h => by
    rcases List.mem_append.mp h with h | h
    · exact .inr ⟨p, List.mem_cons_self, h⟩
    · rcases List.mem_append.mp h with h | h
      · exact .inl h
      · rcases mem_joinC h with h | ⟨x, hx, h⟩
        · exact .inl h
        · exact .inr ⟨x, List.mem_cons_of_mem _ hx, h⟩

theorem joinC_cons {sep p q : List Nat} {r : List (List Nat)} : joinC sep (p :: q :: r) = p ++ (sep ++ joinC sep (q :: r)) := rfl

theorem lens_digs {ns : List Nat} (h : ∀ n ∈ ns, Num n) : lens (ns.map digs) ≤ 30 * ns.length := by
  induction ns with
  | nil => simp [lens]
  | cons a l ih =>
    have h1 := digs_le (k := 30) (by decide) (h a List.mem_cons_self)
    have h2 := ih fun n hn => h n (List.mem_cons_of_mem _ hn)
    simp only [lens, List.map_cons, List.sum_cons, List.length_cons] at h2 ⊢
    omega

/-- the text of a deed that is no order -/
noncomputable def textC (w : List Nat) (ns : List Nat) : List Nat := joinC [32] (w :: ns.map digs)
theorem textC_eq {w : List Nat} {ns : List Nat} (h : 1 ≤ ns.length) : textC w ns = w ++ (32 :: joinC [32] (ns.map digs)) := by
  cases ns with
  | nil => simp at h
  | cons a l => rfl

theorem nums_comp {d : Nat} {σ : Sto} {ns : List Nat} {ρ : List V} {k : Nat} {src : CE} (hs : evL (callFn T07 (d + 1) false) false [src] ρ σ = .ok [.lst (strsV (ns.map digs))] σ) (hk : ρ.length = k) (hn : ∀ n ∈ ns, Num n) (hl : ns.length < LIM) :
    evE (callFn T07 (d + 1) false) false (.comp (.call 29 [.var k]) .val [src] none) ρ σ = .ok (.lst (nV ns)) σ := by
  rw [evE_comp (l := ns) (φ := fun n => V.str (mkS (digs n))) (σ₁ := σ) (vs := [.lst (strsV (ns.map digs))]) (it := .now (strsV (ns.map digs))) (fun _ => true) (fun n => V.int (n : Int))]
  · rw [filter_tt]; rfl
  · exact hs
  · exact itemsBy_lst σ
  · exact .inl (by simp [strsV, Function.comp_def])
  · exact hl
  · simp
  · intro n hm _
    have hv : readVar (ρ ++ [V.str (mkS (digs n))]) k = some (.str (mkS (digs n))) := by
      unfold readVar
      rw [List.getElem?_append_right (by omega), hk]
      simp
    simp [hv, f29 (hn n hm)]

theorem f31s {d : Nat} {w : List Nat} {ns : List Nat} {σ : Sto} (h : Simple w ns) : callFn T07 (d + 2) false 31 [.str (mkS (textC w ns))] σ = .ok (.tup (.str (mkS w) :: nV ns)) σ := by
  have hld := lens_digs h.nums
  have hlj := joinC_len [32] (ns.map digs)
  have hle := h.le
  have hwl := h.len
  have hp : ev2 .partition σ (.str (mkS (textC w ns))) (.str { cps := #[32] }) = some (.tup [.str (mkS w), .str (mkS [32]), .str (mkS (joinC [32] (ns.map digs)))]) := by
    rw [textC_eq h.pos]
    exact part_ev σ h.blank (by simp at hlj ⊢; omega)
  obtain ⟨a, l, hns⟩ : ∃ a l, ns = a :: l := by
    cases hh : ns with
    | nil => have := h.pos; rw [hh] at this; simp at this
    | cons a l => exact ⟨a, l, rfl⟩
  have hs : ev2 .split σ (.str (mkS (joinC [32] (ns.map digs)))) (.str { cps := #[32] }) = some (.lst (strsV (ns.map digs))) := by
    rw [hns] at hlj hld ⊢
    exact split_ev σ (c := 32) (rest := []) rfl (fun q hq => by
      obtain ⟨n, _, rfl⟩ := List.mem_map.mp (show q ∈ (a :: l).map digs from hq)
      exact no32) (by rw [hns] at hle; simp at hlj hld hle ⊢; omega)
  have hi := parts_index σ h.cnt
  have hb : (mkS [32] == ({ cps := #[] } : Str)) = false := by decide
  have hcomp := nums_comp (d := d) (σ := σ) (ns := ns) (ρ := [.str (mkS (textC w ns)), .str (mkS w), .str (mkS [32]), .str (mkS (joinC [32] (ns.map digs))), .lst (strsV (ns.map digs))]) (k := 5) (src := .var 4) rfl rfl h.nums (by simp [LIM]; omega)
  have hadd := add_lst σ (xs := [V.str (mkS w)]) (ys := nV ns) (by simp [LIM]; omega)
  refine call_ok (fn := f07_31) rfl rfl ?_
  simp only [f07_31, List.cons_append, List.nil_append, List.replicate]
  simp [readVar, hp, parts_notIn, h.any, hb, h.nord, hs, hi, hcomp, hadd]

/-! ## orders -/
noncomputable abbrev Ln := List Nat × Nat × Nat × Nat
structure Order (ls : List Ln) : Prop where
  lines : ∀ t ∈ ls, Line t
  pos : 1 ≤ ls.length
  le : ls.length ≤ 25

noncomputable def orderC (ls : List Ln) : List Nat := ORD ++ (32 :: joinC [44, 32] (ls.map lineC))

theorem lens_lines {ls : List Ln} (h : ∀ t ∈ ls, Line t) : lens (ls.map lineC) ≤ 110 * ls.length := by
  induction ls with
  | nil => simp [lens]
  | cons a l ih =>
    have h1 := line_len (h a List.mem_cons_self)
    have h2 := ih fun n hn => h n (List.mem_cons_of_mem _ hn)
    simp only [lens, List.map_cons, List.sum_cons, List.length_cons] at h2 ⊢
    omega

theorem no44 {t : Ln} (h : Line t) : 44 ∉ lineC t := fun hm => by
  rcases mem_joinC hm with h1 | ⟨p, hp, h1⟩
  · simp at h1
  · simp only [List.mem_cons, List.not_mem_nil, or_false] at hp
    rcases hp with rfl | rfl | rfl | rfl
    · have := h.item.abc _ h1; omega
    · have := digs_digit h1; omega
    · have := digs_digit h1; omega
    · have := digs_digit h1; omega

theorem f31o {d : Nat} {ls : List Ln} {σ : Sto} (h : Order ls) : callFn T07 (d + 3) false 31 [.str (mkS (orderC ls))] σ = .ok (.tup [.str (mkS ORD), .lst (ls.map lineV)]) σ := by
  have hld := lens_lines h.lines
  have hlj := joinC_len [44, 32] (ls.map lineC)
  have hle := h.le
  have hp : ev2 .partition σ (.str (mkS (orderC ls))) (.str { cps := #[32] }) = some (.tup [.str (mkS ORD), .str (mkS [32]), .str (mkS (joinC [44, 32] (ls.map lineC)))]) :=
    part_ev σ (by decide) (by simp [ORD] at hlj ⊢; omega)
  obtain ⟨a, l, hns⟩ : ∃ a l, ls = a :: l := by
    cases hh : ls with
    | nil => have := h.pos; rw [hh] at this; simp at this
    | cons a l => exact ⟨a, l, rfl⟩
  have hs : ev2 .split σ (.str (mkS (joinC [44, 32] (ls.map lineC)))) (.str { cps := #[44, 32] }) = some (.lst (strsV (ls.map lineC))) := by
    rw [hns] at hlj hld ⊢
    exact split_ev σ (c := 44) (rest := [32]) rfl (fun q hq => by
      obtain ⟨n, hn, rfl⟩ := List.mem_map.mp (show q ∈ (a :: l).map lineC from hq)
      exact no44 (h.lines n (hns ▸ hn))) (by rw [hns] at hle; simp at hlj hld hle ⊢; omega)
  have hb : (mkS [32] == ({ cps := #[] } : Str)) = false := by decide
  have hany : (partsTable.any fun p => p.1 == mkS ORD) = true := by decide +kernel
  have ho : (mkS ORD == ({ cps := #[111, 114, 100, 101, 114] } : Str)) = true := by decide
  have hcomp : evE (callFn T07 (d + 2) false) false (CE.comp (CE.call 30 [CE.var 5]) SK.val [CE.sm P2.split (CE.var 3) (CE.lit (V.str { cps := #[44, 32] }))] none)
      [.str (mkS (orderC ls)), .str (mkS ORD), .str (mkS [32]), .str (mkS (joinC [44, 32] (ls.map lineC))), .undef] σ = .ok (.lst (ls.map lineV)) σ := by
    rw [evE_comp (l := ls) (φ := fun t => V.str (mkS (lineC t))) (σ₁ := σ) (vs := [.lst (strsV (ls.map lineC))]) (it := .now (strsV (ls.map lineC))) (fun _ => true) lineV]
    · rw [filter_tt]
    · simp [readVar, hs]
    · exact itemsBy_lst σ
    · exact .inl (by simp [strsV, Function.comp_def])
    · simp [LIM]; omega
    · simp
    · intro t hm _
      simp [readVar, f30 (h.lines t hm)]
  refine call_ok (fn := f07_31) rfl rfl ?_
  simp only [f07_31, List.cons_append, List.nil_append, List.replicate]
  simp [readVar, hp, parts_notIn, hany, hb, ho, hcomp]
end Mine
end

/-! # L07d -/
section
set_option autoImplicit false
set_option linter.unusedSimpArgs false
set_option linter.unusedVariables false
namespace Mine
open PySem

theorem slice1 (σ : Sto) (x : V) (vs : List V) : evSlice σ (.tup (x :: vs)) (some 1) none = some (.tup vs) := by
  show some (V.tup (sliceL (x :: vs) (some 1) none)) = _
  have : sliceL (x :: vs) (some 1) none = vs := by
    unfold sliceL sliceStart sliceStop
    simp
  rw [this]

theorem strs_comp {F : Calls} {σ : Sto} {ns : List Nat} {ρ : List V} {k : Nat} {src : CE} (hs : evL F false [src] ρ σ = .ok [.tup (nV ns)] σ) (hk : ρ.length = k) (hn : ∀ n ∈ ns, Num n) (hl : ns.length < LIM) :
    evE F false (.comp (.p1 .toStr (.var k)) .val [src] none) ρ σ = .ok (.lst (strsV (ns.map digs))) σ := by
  rw [evE_comp (l := ns) (φ := fun n => V.int (n : Int)) (σ₁ := σ) (vs := [.tup (nV ns)]) (it := .now (nV ns)) (fun _ => true) (fun n => V.str (mkS (digs n)))]
  · rw [filter_tt]; simp [strsV, Function.comp_def]
  · exact hs
  · exact itemsBy_tup σ
  · exact .inl rfl
  · exact hl
  · simp
  · intro n hm _
    have hv : readVar (ρ ++ [V.int (n : Int)]) k = some (.int n) := by
      unfold readVar
      rw [List.getElem?_append_right (by omega), hk]
      simp
    rw [x_p1, if_neg (by simp [loud1]), x_var, hv, R.lift_some, R.bind_ok, str_ev σ (hn n hm), R.lift_some]

/-! ## shown -/
theorem f28s {d : Nat} {w : List Nat} {ns : List Nat} {σ : Sto} (h : Simple w ns) : callFn T07 (d + 1) false 28 [.tup (.str (mkS w) :: nV ns)] σ = .ok (.str (mkS (textC w ns))) σ := by
  have hld := lens_digs h.nums
  have hle := h.le
  have hwl := h.len
  have hc := strs_comp (F := callFn T07 d false) (σ := σ) (ns := ns) (ρ := [.tup (.str (mkS w) :: nV ns)]) (k := 1) (src := .slice (.var 0) (some (.lit (.int 1))) none) (by simp [readVar, slice1]) rfl h.nums (by simp [LIM]; omega)
  have hadd := add_lst σ (xs := [V.str (mkS w)]) (ys := strsV (ns.map digs)) (by simp [LIM]; omega)
  have hj : ev2 .join σ (.str { cps := #[32] }) (.lst (V.str (mkS w) :: strsV (ns.map digs))) = some (.str (mkS (textC w ns))) :=
    join_ev σ (sep := [32]) (l := w :: ns.map digs) rfl (by
      have : lens (w :: ns.map digs) = w.length + lens (ns.map digs) := by simp [lens]
      rw [this]; simp; omega)
  refine call_ok (fn := f07_28) rfl rfl ?_
  simp only [f07_28, List.cons_append, List.nil_append, List.replicate]
  simp [readVar, h.nord, hc, hadd, hj]

theorem f28o {d : Nat} {ls : List Ln} {σ : Sto} (h : Order ls) : callFn T07 (d + 1) false 28 [.tup [.str (mkS ORD), .lst (ls.map lineV)]] σ = .ok (.str (mkS (orderC ls))) σ := by
  have hld := lens_lines h.lines
  have hlj := joinC_len [44, 32] (ls.map lineC)
  have hle := h.le
  have ho : (mkS ORD == ({ cps := #[111, 114, 100, 101, 114] } : Str)) = true := by decide
  have hcomp : evE (callFn T07 d false) false (CE.comp (CE.sm P2.join (CE.lit (V.str { cps := #[32] })) (CE.p2 P2.add (CE.list [CE.p2 P2.index (CE.var 1) (CE.lit (V.int 0))])
      (CE.comp (CE.p1 P1.toStr (CE.var 2)) SK.val [CE.slice (CE.var 1) (some (CE.lit (V.int 1))) none] none))) SK.val [CE.p2 P2.index (CE.var 0) (CE.lit (V.int 1))] none)
      [.tup [.str (mkS ORD), .lst (ls.map lineV)]] σ = .ok (.lst (strsV (ls.map lineC))) σ := by
    rw [evE_comp (l := ls) (φ := lineV) (σ₁ := σ) (vs := [.lst (ls.map lineV)]) (it := .now (ls.map lineV)) (fun _ => true) (fun t => V.str (mkS (lineC t)))]
    · rw [filter_tt]; simp [strsV, Function.comp_def]
    · simp [readVar]
    · exact itemsBy_lst σ
    · exact .inl rfl
    · simp [LIM]; omega
    · simp
    · intro t hm _
      have hL := h.lines t hm
      have hnum : ∀ n ∈ [t.2.1, t.2.2.1, t.2.2.2], Num n := by
        intro n hn
        simp only [List.mem_cons, List.not_mem_nil, or_false] at hn
        rcases hn with rfl | rfl | rfl
        · exact hL.a
        · exact hL.b
        · exact hL.c
      have hc := strs_comp (F := callFn T07 d false) (σ := σ) (ns := [t.2.1, t.2.2.1, t.2.2.2]) (ρ := [.tup [.str (mkS ORD), .lst (ls.map lineV)], lineV t]) (k := 2) (src := .slice (.var 1) (some (.lit (.int 1))) none) (by simp [readVar, lineV, slice1, nV]) rfl hnum (by simp [LIM])
      have hld := lens_digs hnum
      have hil := hL.item.le
      have hadd := add_lst σ (xs := [V.str (mkS t.1)]) (ys := strsV ([t.2.1, t.2.2.1, t.2.2.2].map digs)) (by simp [LIM])
      have hj : ev2 .join σ (.str { cps := #[32] }) (.lst (V.str (mkS t.1) :: strsV ([t.2.1, t.2.2.1, t.2.2.2].map digs))) = some (.str (mkS (lineC t))) :=
        join_ev σ (sep := [32]) (l := t.1 :: [t.2.1, t.2.2.1, t.2.2.2].map digs) rfl (by
          have : lens (t.1 :: [t.2.1, t.2.2.1, t.2.2.2].map digs) = t.1.length + lens ([t.2.1, t.2.2.1, t.2.2.2].map digs) := by simp [lens]
          rw [this]; simp at hld ⊢; omega)
      have hi0 : ev2 .index σ (lineV t) (.int 0) = some (.str (mkS t.1)) := index_t0 σ _ _
      have hv : readVar [V.tup [V.str (mkS ORD), V.lst (ls.map lineV)], lineV t] 1 = some (lineV t) := rfl
      show evE _ false _ [V.tup [V.str (mkS ORD), V.lst (ls.map lineV)], lineV t] σ = _
      have e1 : evE (callFn T07 d false) false (CE.list [CE.p2 P2.index (CE.var 1) (CE.lit (V.int 0))]) [V.tup [V.str (mkS ORD), V.lst (ls.map lineV)], lineV t] σ = .ok (.lst [.str (mkS t.1)]) σ := by
        rw [x_list, x_cons, x_p2, if_neg (by simp [loud2]), x_var, hv, R.lift_some, R.bind_ok, x_lit, R.bind_ok, hi0, R.lift_some, R.bind_ok, x_nil, R.bind_ok, R.bind_ok]
      rw [x_sm, x_lit, R.bind_ok, strOf_str, Option.isSome_some, if_pos (rfl : true = true), x_p2, if_neg (by simp [loud2]), e1, R.bind_ok, hc, R.bind_ok, hadd, R.lift_some, R.bind_ok]
      show R.lift σ (ev2 .join σ _ (V.lst (V.str (mkS t.1) :: strsV ([t.2.1, t.2.2.1, t.2.2.2].map digs)))) = _
      rw [hj, R.lift_some]
  have hj : ev2 .join σ (.str { cps := #[44, 32] }) (.lst (strsV (ls.map lineC))) = some (.str (mkS (joinC [44, 32] (ls.map lineC)))) :=
    join_ev σ (sep := [44, 32]) (l := ls.map lineC) rfl (by simp; omega)
  have hcat : ev2 .add σ (.str { cps := #[111, 114, 100, 101, 114, 32] }) (.str (mkS (joinC [44, 32] (ls.map lineC)))) = some (.str (mkS (orderC ls))) :=
    cat_ev σ (a := [111, 114, 100, 101, 114, 32]) (by simp at hlj ⊢; omega)
  refine call_ok (fn := f07_28) rfl rfl ?_
  simp only [f07_28, List.cons_append, List.nil_append, List.replicate]
  simp [readVar, ho, hcomp, hj, hcat]

/-! ## the law's own text -/
theorem f105s {d : Nat} {w : List Nat} {ns : List Nat} {σ : Sto} (h : Simple w ns) : callFn T07 (d + 1) false 105 [.tup (.str (mkS w) :: nV ns)] σ = .ok (.str (mkS (textC w ns))) σ := by
  have hld := lens_digs h.nums
  have hlj := joinC_len [32] (ns.map digs)
  have hle := h.le
  have hwl := h.len
  have hc := strs_comp (F := callFn T07 d false) (σ := σ) (ns := ns) (ρ := [.tup (.str (mkS w) :: nV ns), .undef, .undef, .undef]) (k := 4) (src := .slice (.var 0) (some (.lit (.int 1))) none) (by simp [readVar, slice1]) rfl h.nums (by simp [LIM]; omega)
  have hj : ev2 .join σ (.str { cps := #[32] }) (.lst (strsV (ns.map digs))) = some (.str (mkS (joinC [32] (ns.map digs)))) :=
    join_ev σ (sep := [32]) (l := ns.map digs) rfl (by simp; omega)
  have c1 : ev2 .add σ (.str (mkS w)) (.str { cps := #[32] }) = some (.str (mkS (w ++ [32]))) := cat_ev σ (b := [32]) (by simp; omega)
  have c2 : ev2 .add σ (.str (mkS (w ++ [32]))) (.str (mkS (joinC [32] (ns.map digs)))) = some (.str (mkS (textC w ns))) := by
    rw [cat_ev σ (by simp at hlj ⊢; omega), textC_eq h.pos]; simp
  refine call_ok (fn := f07_105) rfl rfl ?_
  simp only [f07_105, List.cons_append, List.nil_append, List.replicate]
  simp [readVar, h.nord, hc, hj, c1, c2]
end Mine
end

/-! # L07e -/
section
set_option autoImplicit false
set_option linter.unusedSimpArgs false
set_option linter.unusedVariables false
namespace Mine
open PySem

theorem line_nums {t : Ln} (hL : Line t) : ∀ n ∈ [t.2.1, t.2.2.1, t.2.2.2], Num n := by
  intro n hn
  simp only [List.mem_cons, List.not_mem_nil, or_false] at hn
  rcases hn with rfl | rfl | rfl
  · exact hL.a
  · exact hL.b
  · exact hL.c

noncomputable def tBody : List CS := match f07_105.body with
  | [.ite _ [_, .for _ _ _ b, _] _, _] => b
  | _ => []

theorem t_exec {F Fq : Calls} {t : Ln} {dd v3 : V} {o : O} {xs : List V} (hL : Line t) (hx : xs.length < LIM) :
    exL F Fq false tBody [dd, .ref 1, lineV t, v3] [o, .list xs] = .ok (.next [dd, .ref 1, lineV t, .lst (strsV ([t.2.1, t.2.2.1, t.2.2.2].map digs))]) [o, .list (xs ++ [.str (mkS (lineC t))])] := by
  have hnum := line_nums hL
  have hc := strs_comp (F := F) (σ := [o, .list xs]) (ns := [t.2.1, t.2.2.1, t.2.2.2]) (ρ := [dd, .ref 1, lineV t, v3]) (k := 4) (src := .slice (.var 2) (some (.lit (.int 1))) none) (by simp [readVar, lineV, slice1, nV]) rfl hnum (by simp [LIM])
  have hld := lens_digs hnum
  have hil := hL.item.le
  have hlj := joinC_len [32] ([t.2.1, t.2.2.1, t.2.2.2].map digs)
  have hj : ev2 .join [o, .list xs] (.str { cps := #[32] }) (.lst (strsV ([t.2.1, t.2.2.1, t.2.2.2].map digs))) = some (.str (mkS (joinC [32] ([t.2.1, t.2.2.1, t.2.2.2].map digs)))) :=
    join_ev _ (sep := [32]) (l := [t.2.1, t.2.2.1, t.2.2.2].map digs) rfl (by simp at hld ⊢; omega)
  have c1 : ev2 .add [o, .list xs] (.str (mkS t.1)) (.str { cps := #[32] }) = some (.str (mkS (t.1 ++ [32]))) := cat_ev _ (b := [32]) (by simp; omega)
  have c2 : ev2 .add [o, .list xs] (.str (mkS (t.1 ++ [32]))) (.str (mkS (joinC [32] ([t.2.1, t.2.2.1, t.2.2.2].map digs)))) = some (.str (mkS (lineC t))) := by
    rw [cat_ev _ (by simp at hlj hld ⊢; omega)]
    simp [lineC, joinC]
  have hi0 : ev2 .index [o, .list xs] (lineV t) (.int 0) = some (.str (mkS t.1)) := index_t0 _ _ _
  have ha : doAppend [o, .list xs] (.ref 1) (.str (mkS (lineC t))) = .ok .none [o, .list (xs ++ [.str (mkS (lineC t))])] := append_at _ rfl hx
  generalize strsV ([t.2.1, t.2.2.1, t.2.2.2].map digs) = W at hc hj ⊢
  generalize mkS (joinC [32] ([t.2.1, t.2.2.1, t.2.2.2].map digs)) = J at hj c2
  show ((exS F Fq false (.asg 3 _) [dd, .ref 1, lineV t, v3] [o, .list xs]).bind _) = _
  rw [x_asg, hc, R.bind_ok, R.bind_ok]
  show ((exS F Fq false (.exp _) [dd, .ref 1, lineV t, .lst W] [o, .list xs]).bind _) = _
  have hv2 : readVar [dd, .ref 1, lineV t, .lst W] 2 = some (lineV t) := rfl
  have hv1 : readVar [dd, .ref 1, lineV t, .lst W] 1 = some (.ref 1) := rfl
  have hv3 : readVar [dd, .ref 1, lineV t, .lst W] 3 = some (.lst W) := rfl
  have e1 : evE F false (CE.p2 P2.add (CE.p2 P2.add (CE.p2 P2.index (CE.var 2) (CE.lit (V.int 0))) (CE.lit (V.str { cps := #[32] }))) (CE.sm P2.join (CE.lit (V.str { cps := #[32] })) (CE.var 3))) [dd, .ref 1, lineV t, .lst W] [o, .list xs] = .ok (.str (mkS (lineC t))) [o, .list xs] := by
    rw [x_p2, if_neg (by simp [loud2]), x_p2, if_neg (by simp [loud2]), x_p2, if_neg (by simp [loud2]), x_var, hv2, R.lift_some, R.bind_ok, x_lit, R.bind_ok, hi0, R.lift_some, R.bind_ok, x_lit, R.bind_ok, c1, R.lift_some, R.bind_ok,
      x_sm, x_lit, R.bind_ok, strOf_str, Option.isSome_some, if_pos (rfl : true = true), x_var, hv3, R.lift_some, R.bind_ok, hj, R.lift_some, R.bind_ok, c2, R.lift_some]
  rw [x_exp, x_append, x_var, hv1, R.lift_some, R.bind_ok, if_pos (by rfl : isListV [o, .list xs] (.ref 1) = true), e1, R.bind_ok, ha, R.bind_ok, R.bind_ok]
  rfl

theorem f105o {d : Nat} {ls : List Ln} (h : Order ls) : ∃ σ', callFn T07 (d + 1) false 105 [.tup [.str (mkS ORD), .ref 0]] [.list (ls.map lineV)] = .ok (.str (mkS (orderC ls))) ([.list (ls.map lineV)] ++ σ') := by
  have hld := lens_lines h.lines
  have hlj := joinC_len [44, 32] (ls.map lineC)
  have hle := h.le
  have ho : (mkS ORD == ({ cps := #[111, 114, 100, 101, 114] } : Str)) = true := by decide
  obtain ⟨ρ', σ', ew, v2, v3, rfl, rfl⟩ := for_ex (F := callFn T07 d false) (Fq := callFn T07 d true) (i := 2) (k := .val) (src := [.p2 .index (.var 0) (.lit (.int 1))]) (body := tBody) (ρ := [.tup [.str (mkS ORD), .ref 0], .ref 1, .undef, .undef])
    (it := .live 0) (xs := ls.map lineV) (vs := [.ref 0]) (σ := [.list (ls.map lineV), .list []]) (σ₁ := [.list (ls.map lineV), .list []])
    (fun i ρ σ => ∃ v2 v3, ρ = [.tup [.str (mkS ORD), .ref 0], .ref 1, v2, v3] ∧ σ = [.list (ls.map lineV), .list (strsV ((ls.take i).map lineC))])
    (by simp [readVar]) (itemsBy_ref _ rfl) (fun j ρ σ hI => .inr ⟨0, rfl, by obtain ⟨_, _, _, rfl⟩ := hI; rfl⟩) ⟨_, _, rfl, rfl⟩ (by
    rintro i x ρ σ hx ⟨v2, v3, rfl, rfl⟩
    rw [List.getElem?_map] at hx
    cases hi : ls[i]? with
    | none => rw [hi] at hx; cases hx
    | some t =>
      rw [hi] at hx
      obtain rfl : lineV t = x := by simpa using hx
      have hm : t ∈ ls := List.mem_of_getElem? hi
      have ht : ls.take (i + 1) = ls.take i ++ [t] := by rw [List.take_add_one, hi]; rfl
      have := t_exec (F := callFn T07 d false) (Fq := callFn T07 d true) (dd := .tup [.str (mkS ORD), .ref 0]) (v3 := v3) (o := .list (ls.map lineV)) (xs := strsV ((ls.take i).map lineC)) (h.lines t hm) (by simp [LIM]; omega)
      refine ⟨_, _, this, _, _, rfl, ?_⟩
      rw [ht]
      simp [strsV])
  rw [List.length_map, List.take_length] at ew
  have hj : ev2 .join [.list (ls.map lineV), .list (strsV (ls.map lineC))] (.str { cps := #[44, 32] }) (.ref 1) = some (.str (mkS (joinC [44, 32] (ls.map lineC)))) :=
    join_ev _ (sep := [44, 32]) (l := ls.map lineC) rfl (by simp; omega)
  have hcat : ev2 .add [.list (ls.map lineV), .list (strsV (ls.map lineC))] (.str { cps := #[111, 114, 100, 101, 114, 32] }) (.str (mkS (joinC [44, 32] (ls.map lineC)))) = some (.str (mkS (orderC ls))) :=
    cat_ev _ (a := [111, 114, 100, 101, 114, 32]) (by simp at hlj ⊢; omega)
  refine ⟨[.list (strsV (ls.map lineC))], call_ok (fn := f07_105) rfl rfl ?_⟩
  simp only [f07_105, List.cons_append, List.nil_append, List.replicate]
  have hfor := ew
  simp only [tBody, f07_105] at hfor
  simp [readVar, ho, doTrk, hfor, hj, hcat]
end Mine
end

/-! # L07f -/
section
set_option autoImplicit false
set_option linter.unusedSimpArgs false
set_option linter.unusedVariables false
namespace Mine
open PySem

noncomputable def WORDS : List (List Nat) := [[100, 101, 108, 105, 118, 101, 114], [98, 97, 99, 107], [115, 119, 97, 112], [99, 114, 101, 100, 105, 116], [109, 111, 118, 101], [112, 97, 121], [114, 101, 102, 117, 110, 100], [111, 114, 100, 101, 114]]
noncomputable def PAY : List Nat := [112, 97, 121]
noncomputable def REF : List Nat := [114, 101, 102, 117, 110, 100]

theorem fdiv_small (σ : Sto) (x : Int) {k : Nat} (hk : k < 100) : ev2 .fdiv σ (.int x) (.int ((k : Int) + 1)) = some (.int (x.fdiv ((k : Int) + 1))) := by
  refine ev2_fdiv σ _ _ ?_
  have h1 : ((k : Int) + 1 == 0) = false := by
    rw [beq_eq_false_iff_ne]; omega
  have h2 : decide (1073741824 ≤ ((k : Int) + 1).natAbs) = false := by
    rw [decide_eq_false_iff_not]; omega
  rw [h1, h2]; rfl

/-- three numbers -/
theorem three {d : Nat} {σ : Sto} {way : Int} {ρ : List V} {e : CE} {c : Nat → Int} (h2 : readVar ρ 2 = some (.int way)) (hl : ρ.length = 7) (he : ∀ k : Nat, k < 3 → evE (callFn T07 (d + 1) false) false e (ρ ++ [V.int (k : Int)]) σ = .ok (.int (c k)) σ) :
    ∃ a b n, Num a ∧ Num b ∧ Num n ∧ evE (callFn T07 (d + 1) false) false (.comp (.call 102 [e, .p2 .fdiv (.var 2) (.p2 .add (.var 7) (.lit (.int 1)))]) .range1 [.lit (.int 3)] none) ρ σ = .ok (.lst (nV [a, b, n])) σ := by
  have hq : ∀ k : Nat, ∃ n : Nat, Num n ∧ callFn T07 (d + 1) false 102 [.int (c k), .int (way.fdiv ((k : Int) + 1))] σ = .ok (.int n) σ := fun k => f07n
  let g (k : Nat) : Nat := Classical.choose (hq k)
  have hg : ∀ k, Num (g k) ∧ callFn T07 (d + 1) false 102 [.int (c k), .int (way.fdiv ((k : Int) + 1))] σ = .ok (.int (g k)) σ := fun k => Classical.choose_spec (hq k)
  refine ⟨g 0, g 1, g 2, (hg 0).1, (hg 1).1, (hg 2).1, ?_⟩
  rw [evE_comp (l := List.range 3) (φ := fun k : Nat => V.int (k : Int)) (σ₁ := σ) (vs := [.int 3]) (it := .now (rangeL 0 3)) (fun _ => true) (fun k => V.int (g k : Int))]
  · rw [filter_tt]; rfl
  · simp
  · exact itemsBy_range1 σ (by simp [LIM])
  · exact .inl (by simp [rangeL])
  · simp [LIM]
  · simp
  · intro k hk _
    have hk : k < 3 := by simpa using hk
    have hv : readVar (ρ ++ [V.int (k : Int)]) 7 = some (.int k) := by
      unfold readVar
      rw [List.getElem?_append_right (by omega), hl]; rfl
    have hv2 : readVar (ρ ++ [V.int (k : Int)]) 2 = some (.int way) := by
      unfold readVar at h2 ⊢
      rw [List.getElem?_append_left (by omega)]; exact h2
    have hf := fdiv_small σ way (k := k) (by omega)
    rw [x_call, x_cons, he k hk, R.bind_ok, x_cons, x_p2, if_neg (by simp [loud2]), x_var, hv2, R.lift_some, R.bind_ok, x_p2, if_neg (by simp [loud2]), x_var, hv, R.lift_some, R.bind_ok, x_lit, R.bind_ok, ev2_add, R.lift_some, R.bind_ok, hf, R.lift_some, R.bind_ok, x_nil, R.bind_ok, R.bind_ok, R.bind_ok]
    exact (hg k).2

theorem simple3 {k : Nat} {w : List Nat} {a b n : Nat} (hw : WORDS[k]? = some w) (hk : k < 5) (ha : Num a) (hb : Num b) (hn : Num n) : Simple w [a, b, n] := by
  have hnum : ∀ m ∈ [a, b, n], Num m := by
    intro m hm
    simp only [List.mem_cons, List.not_mem_nil, or_false] at hm
    rcases hm with rfl | rfl | rfl <;> assumption
  have key : ∀ k : Nat, k < 5 → ∀ w, WORDS[k]? = some w → 32 ∉ w ∧ w.length ≤ 10 ∧ (mkS w == ({ cps := #[111, 114, 100, 101, 114] } : Str)) = false ∧ (partsTable.any fun p => p.1 == mkS w) = true ∧ (partsTable.find? fun p => p.1 == mkS w).map (·.2) = some 4 := by
    intro k hk w hw
    match k, hk, hw with
    | 0, _, hw => cases hw; exact ⟨by decide, by decide, by decide, by decide +kernel, by decide +kernel⟩
    | 1, _, hw => cases hw; exact ⟨by decide, by decide, by decide, by decide +kernel, by decide +kernel⟩
    | 2, _, hw => cases hw; exact ⟨by decide, by decide, by decide, by decide +kernel, by decide +kernel⟩
    | 3, _, hw => cases hw; exact ⟨by decide, by decide, by decide, by decide +kernel, by decide +kernel⟩
    | 4, _, hw => cases hw; exact ⟨by decide, by decide, by decide, by decide +kernel, by decide +kernel⟩
  obtain ⟨h1, h2, h3, h4, h5⟩ := key k hk w hw
  exact ⟨h1, h2, h3, h4, h5, hnum, by simp, by simp⟩

theorem simple2 {w : List Nat} {a b : Nat} (hw : w = PAY ∨ w = REF) (ha : Num a) (hb : Num b) : Simple w [a, b] := by
  have hnum : ∀ m ∈ [a, b], Num m := by
    intro m hm
    simp only [List.mem_cons, List.not_mem_nil, or_false] at hm
    rcases hm with rfl | rfl <;> assumption
  rcases hw with rfl | rfl
  · exact ⟨by decide, by decide, by decide, by decide +kernel, (by decide +kernel : (partsTable.find? fun p => p.1 == mkS PAY).map (·.2) = some 3), hnum, by simp, by simp⟩
  · exact ⟨by decide, by decide, by decide, by decide +kernel, (by decide +kernel : (partsTable.find? fun p => p.1 == mkS REF).map (·.2) = some 3), hnum, by simp, by simp⟩

/-- what the law builds -/
noncomputable def Built (r : R V) : Prop := (∃ w ns, Simple w ns ∧ r = .ok (.tup (.str (mkS w) :: nV ns)) []) ∨ ∃ ls, Order ls ∧ r = .ok (.tup [.str (mkS ORD), .ref 0]) [.list (ls.map lineV)]

theorem head104 {d : Nat} {s : List Int} {k : Nat} {w : List Nat} {σ : Sto} (hk : (gI s 0).fmod 8 = (k : Int)) (hw : WORDS[k]? = some w) :
    evE (callFn T07 (d + 1) false) false (CE.p2 P2.index (CE.list [CE.lit (V.str { cps := #[100, 101, 108, 105, 118, 101, 114] }), CE.lit (V.str { cps := #[98, 97, 99, 107] }), CE.lit (V.str { cps := #[115, 119, 97, 112] }), CE.lit (V.str { cps := #[99, 114, 101, 100, 105, 116] }), CE.lit (V.str { cps := #[109, 111, 118, 101] }), CE.lit (V.str { cps := #[112, 97, 121] }), CE.lit (V.str { cps := #[114, 101, 102, 117, 110, 100] }), CE.lit (V.str { cps := #[111, 114, 100, 101, 114] })])
      (CE.p2 P2.mod (CE.call 100 [CE.var 0, CE.lit (V.int 0)]) (CE.lit (V.int 8)))) [.lst (iv s), .undef, .undef, .undef, .undef, .undef, .undef] σ = .ok (.str (mkS w)) σ := by
  have hc : callFn T07 (d + 1) false 100 [.lst (iv s), .int 0] σ = .ok (.int (gI s 0)) σ := f07c (k := 0)
  have hi : ev2 .index σ (.lst [V.str { cps := #[100, 101, 108, 105, 118, 101, 114] }, V.str { cps := #[98, 97, 99, 107] }, V.str { cps := #[115, 119, 97, 112] }, V.str { cps := #[99, 114, 101, 100, 105, 116] }, V.str { cps := #[109, 111, 118, 101] }, V.str { cps := #[112, 97, 121] }, V.str { cps := #[114, 101, 102, 117, 110, 100] }, V.str { cps := #[111, 114, 100, 101, 114] }]) (.int k) = some (.str (mkS w)) := by
    refine index_lst' σ ?_
    show (strsV WORDS)[k]? = _
    unfold strsV
    rw [List.getElem?_map, hw]; rfl
  simp [readVar, hc, ev2_mod, hk, hi]

noncomputable def oBody : List CS := match f07_104.body with
  | [_, _, .ite _ [_, .for _ _ _ b, _] _, _, _, _] => b
  | _ => []

theorem o_exec {d : Nat} {s : List Int} {w way v5 v6 : V} {wy : Int} (hw : way = .int wy) {k : Nat} {xs : List V} (hk : k < 25) (hx : xs.length < LIM) :
    ∃ t v5' v6', Line t ∧ exL (callFn T07 (d + 1) false) (callFn T07 (d + 1) true) false oBody [.lst (iv s), w, way, .ref 0, .int (k : Int), v5, v6] [.list xs] = .ok (.next [.lst (iv s), w, way, .ref 0, .int (k : Int), v5', v6']) [.list (xs ++ [lineV t])] := by
  subst hw
  have h0 : 0 ≤ (k : Int).fmod 6 := Int.fmod_nonneg_of_pos _ (by decide)
  obtain ⟨j, hj⟩ : ∃ j : Nat, 3 + (k : Int).fmod 6 = (j : Int) := ⟨(3 + (k : Int).fmod 6).toNat, by omega⟩
  have hcell : callFn T07 (d + 1) false 100 [.lst (iv s), .int (j : Int)] [.list xs] = .ok (.int (gI s j)) [.list xs] := f07c
  have hsm : smallFactor ((k : Int) + 1) = true := by simp [smallFactor]; omega
  generalize hC : gI s j * ((k : Int) + 1) + (k : Int) = cell
  obtain ⟨it, hit, hitem⟩ := f103 (d := d) (cell := cell) (σ := [.list xs])
  obtain ⟨a, b, n, ha, hb, hn, hnums⟩ := three (d := d) (σ := [.list xs]) (way := wy) (ρ := [.lst (iv s), w, .int wy, .ref 0, .int (k : Int), .int cell, v6]) (e := .p2 .fdiv (.var 5) (.p2 .add (.var 7) (.lit (.int 1)))) (c := fun k => cell.fdiv ((k : Int) + 1)) rfl rfl (fun k hk => by
    have hf := fdiv_small [O.list xs] cell (k := k) (by omega)
    simp [readVar, hf])
  have ha' : doAppend [.list xs] (.ref 0) (lineV (it, a, b, n)) = .ok .none [.list (xs ++ [lineV (it, a, b, n)])] := append_at _ rfl hx
  have i0 : ev2 .index [.list xs] (.lst (nV [a, b, n])) (.int 0) = some (.int a) := index_lst' _ (i := 0) rfl
  have i1 : ev2 .index [.list xs] (.lst (nV [a, b, n])) (.int 1) = some (.int b) := index_lst' _ (i := 1) rfl
  have i2 : ev2 .index [.list xs] (.lst (nV [a, b, n])) (.int 2) = some (.int n) := index_lst' _ (i := 2) rfl
  refine ⟨(it, a, b, n), .int cell, .lst (nV [a, b, n]), ⟨hit, ha, hb, hn⟩, ?_⟩
  have hlv : V.tup [V.str (mkS it), V.int (a : Int), V.int (b : Int), V.int (n : Int)] = lineV (it, a, b, n) := rfl
  simp only [oBody, f07_104]
  simp [readVar, ev2_mod, hj, hcell, ev2_mul, hsm, hC, hnums, hitem, i0, i1, i2, isListV, listOf?, hlv, ha']

theorem f104 {d : Nat} {s : List Int} : Built (callFn T07 (d + 2) false 104 [.lst (iv s)] []) := by
  have h0 : 0 ≤ (gI s 0).fmod 8 := Int.fmod_nonneg_of_pos _ (by decide)
  have h1 : (gI s 0).fmod 8 < 8 := Int.fmod_lt_of_pos _ (by decide)
  obtain ⟨k, hk⟩ : ∃ k : Nat, (gI s 0).fmod 8 = (k : Int) := ⟨((gI s 0).fmod 8).toNat, by omega⟩
  have hk8 : k < 8 := by omega
  obtain ⟨w, hw⟩ : ∃ w, WORDS[k]? = some w := by
    have : ∀ k : Nat, k < 8 → ∃ w, WORDS[k]? = some w := by
      intro k hk
      exact ⟨_, List.getElem?_eq_getElem (show k < WORDS.length from hk)⟩
    exact this k hk8
  have hh := head104 (d := d) (σ := []) hk hw
  have hc1 : callFn T07 (d + 1) false 100 [.lst (iv s), .int 1] [] = .ok (.int (gI s 1)) [] := f07c (k := 1)
  have hc2 : callFn T07 (d + 1) false 100 [.lst (iv s), .int 2] [.list []] = .ok (.int (gI s 2)) [.list []] := f07c (k := 2)
  by_cases hord : k = 7
  · right
    subst hord
    obtain rfl : w = ORD := by cases hw; rfl
    have ho : (mkS ORD == ({ cps := #[111, 114, 100, 101, 114] } : Str)) = true := by decide
    have g0 : 0 ≤ (gI s 2).fmod 25 := Int.fmod_nonneg_of_pos _ (by decide)
    have g1 : (gI s 2).fmod 25 < 25 := Int.fmod_lt_of_pos _ (by decide)
    obtain ⟨N, hN⟩ : ∃ N : Nat, 1 + (gI s 2).fmod 25 = (N : Int) := ⟨(1 + (gI s 2).fmod 25).toNat, by omega⟩
    obtain ⟨ρ', σ', ew, ls, v4, v5, v6, rfl, rfl, hlen, hlines⟩ := for_ex (F := callFn T07 (d + 1) false) (Fq := callFn T07 (d + 1) true) (i := 4) (k := .range1) (src := [CE.p2 (P2.add) (CE.lit (V.int 1)) (CE.p2 (P2.mod) (CE.call 100 [CE.var 0, CE.lit (V.int 2)]) (CE.lit (V.int 25)))]) (body := oBody)
      (ρ := [.lst (iv s), .str (mkS ORD), .int (gI s 1), .ref 0, .undef, .undef, .undef]) (it := .now (rangeL 0 N)) (xs := rangeL 0 N) (vs := [.int N]) (σ := [.list []]) (σ₁ := [.list []])
      (fun i ρ σ => ∃ (ls : List Ln) (v4 v5 v6 : V), ρ = [.lst (iv s), .str (mkS ORD), .int (gI s 1), .ref 0, v4, v5, v6] ∧ σ = [.list (ls.map lineV)] ∧ ls.length = i ∧ ∀ t ∈ ls, Line t)
      (by simp [readVar, hc2, ev2_mod, hN]) (itemsBy_range1 _ (by simp [LIM]; omega)) (fun _ _ _ _ => .inl rfl) ⟨[], _, _, _, rfl, rfl, rfl, fun _ h => nomatch h⟩ (by
      rintro i x ρ σ hx ⟨ls, v4, v5, v6, rfl, rfl, hl, hL⟩
      have hi : i < N := by have := (List.getElem?_eq_some_iff.mp hx).1; simpa [rangeL] using this
      obtain rfl : V.int (i : Int) = x := by simpa [rangeL, hi] using hx
      obtain ⟨t, v5', v6', ht, e⟩ := o_exec (d := d) (s := s) (w := .str (mkS ORD)) (way := .int (gI s 1)) (v5 := v5) (v6 := v6) rfl (k := i) (xs := ls.map lineV) (by omega) (by simp [LIM]; omega)
      refine ⟨_, _, e, ls ++ [t], _, _, _, rfl, by simp, by simp [hl], fun u hu => ?_⟩
      rcases List.mem_append.mp hu with h | h
      · exact hL u h
      · rw [List.mem_singleton.mp h]; exact ht)
    have hlen : ls.length = N := by rw [hlen]; simp [rangeL]
    refine ⟨ls, ⟨hlines, by omega, by omega⟩, call_ok (fn := f07_104) rfl rfl ?_⟩
    simp only [oBody, f07_104] at ew
    simp only [f07_104, List.cons_append, List.nil_append, List.replicate]
    have hOL : V.str { cps := #[111, 114, 100, 101, 114] } = V.str (mkS ORD) := rfl
    rw [x_lcons, x_asg, hh, R.bind_ok, R.bind_ok]
    simp [readVar, hc1, ho, doTrk, ew, hOL]
  · left
    have hno : (mkS w == ({ cps := #[111, 114, 100, 101, 114] } : Str)) = false := by
      have : ∀ k : Nat, k < 8 → k ≠ 7 → ∀ w, WORDS[k]? = some w → (mkS w == ({ cps := #[111, 114, 100, 101, 114] } : Str)) = false := by
        intro k hk h7 w hw
        match k, hk, h7, hw with
        | 0, _, _, hw => cases hw; decide
        | 1, _, _, hw => cases hw; decide
        | 2, _, _, hw => cases hw; decide
        | 3, _, _, hw => cases hw; decide
        | 4, _, _, hw => cases hw; decide
        | 5, _, _, hw => cases hw; decide
        | 6, _, _, hw => cases hw; decide
        | 7, _, h, _ => exact absurd rfl h
      exact this k hk8 hord w hw
    obtain ⟨a, b, n, ha, hb, hn, hnums⟩ := three (d := d) (σ := []) (way := gI s 1) (ρ := [.lst (iv s), .str (mkS w), .int (gI s 1), .undef, .undef, .undef, .undef]) (e := .call 100 [.var 0, .p2 .add (.lit (.int 2)) (.var 7)]) (c := fun k => gI s (2 + k)) rfl rfl (fun k hk => by
      have hcc : callFn T07 (d + 1) false 100 [.lst (iv s), .int (2 + (k : Int))] [] = .ok (.int (gI s (2 + k))) [] := by
        have := f07c (d := d) (s := s) (k := 2 + k) (σ := [])
        simpa using this
      simp [readVar, hcc])
    have i0 : ev2 .index [] (.lst (nV [a, b, n])) (.int 0) = some (.int a) := index_lst' _ (i := 0) rfl
    have i1 : ev2 .index [] (.lst (nV [a, b, n])) (.int 1) = some (.int b) := index_lst' _ (i := 1) rfl
    have i2 : ev2 .index [] (.lst (nV [a, b, n])) (.int 2) = some (.int n) := index_lst' _ (i := 2) rfl
    generalize nV [a, b, n] = L at hnums i0 i1 i2
    by_cases hpr : w = PAY ∨ w = REF
    · refine ⟨w, [a, b], simple2 hpr ha hb, call_ok (fn := f07_104) rfl rfl ?_⟩
      simp only [f07_104, List.cons_append, List.nil_append, List.replicate]
      rw [x_lcons, x_asg, hh, R.bind_ok, R.bind_ok]
      have hpr2 : (mkS w == ({ cps := #[112, 97, 121] } : Str)) = true ∨ (mkS w == ({ cps := #[112, 97, 121] } : Str)) = false ∧ (mkS w == ({ cps := #[114, 101, 102, 117, 110, 100] } : Str)) = true := by
        rcases hpr with rfl | rfl
        · exact .inl (by decide)
        · exact .inr ⟨by decide, by decide⟩
      rcases hpr2 with h1 | ⟨h1, h2⟩
      · simp [readVar, hc1, hno, hnums, h1, i0, i1, nV]
      · simp [readVar, hc1, hno, hnums, h1, h2, i0, i1, nV]
    · have hk5 : k < 5 := by
        have : ∀ k : Nat, k < 8 → k ≠ 7 → ∀ w, WORDS[k]? = some w → ¬ (w = PAY ∨ w = REF) → k < 5 := by
          intro k hk h7 w hw hp
          match k, hk, h7, hw with
          | 0, _, _, hw => decide
          | 1, _, _, hw => decide
          | 2, _, _, hw => decide
          | 3, _, _, hw => decide
          | 4, _, _, hw => decide
          | 5, _, _, hw => cases hw; exact absurd (.inl rfl) hp
          | 6, _, _, hw => cases hw; exact absurd (.inr rfl) hp
          | 7, _, h, _ => exact absurd rfl h
        exact this k hk8 hord w hw hpr
      have hq1 : (mkS w == ({ cps := #[112, 97, 121] } : Str)) = false := by
        rw [beq_eq_false_iff_ne]
        intro e
        have := congrArg codes (show mkS w = mkS PAY from e)
        rw [codes_mkS, codes_mkS] at this
        exact hpr (.inl this)
      have hq2 : (mkS w == ({ cps := #[114, 101, 102, 117, 110, 100] } : Str)) = false := by
        rw [beq_eq_false_iff_ne]
        intro e
        have := congrArg codes (show mkS w = mkS REF from e)
        rw [codes_mkS, codes_mkS] at this
        exact hpr (.inr this)
      refine ⟨w, [a, b, n], simple3 hw hk5 ha hb hn, call_ok (fn := f07_104) rfl rfl ?_⟩
      simp only [f07_104, List.cons_append, List.nil_append, List.replicate]
      rw [x_lcons, x_asg, hh, R.bind_ok, R.bind_ok]
      simp [readVar, hc1, hno, hnums, hq1, hq2, i0, i1, i2, nV]
end Mine
end

/-! # L07g -/
section
set_option autoImplicit false
set_option linter.unusedSimpArgs false
set_option linter.unusedVariables false
namespace Mine
open PySem

noncomputable def Flat (v : V) : Prop := (∃ i, v = .int i) ∨ ∃ s, v = .str s

theorem flat_py {σ : Sto} {k : Nat} : ∀ {vs : List V}, (∀ v ∈ vs, Flat v) → ∃ ds, vs.mapM (toPy σ (k + 1)) = some ds ∧ PyData.eqvAll ds ds = true
  | [], _ => ⟨[], rfl, rfl⟩
  | v :: vs, h => by
    obtain ⟨ds, e, q⟩ := flat_py (σ := σ) (k := k) fun u hu => h u (List.mem_cons_of_mem _ hu)
    rcases h v List.mem_cons_self with ⟨i, rfl⟩ | ⟨x, rfl⟩
    · refine ⟨.int i :: ds, by rw [List.mapM_cons, e]; rfl, ?_⟩
      show ((i == i) && PyData.eqvAll ds ds) = true
      rw [q]; simp
    · refine ⟨.str x :: ds, by rw [List.mapM_cons, e]; rfl, ?_⟩
      show ((x == x) && PyData.eqvAll ds ds) = true
      rw [q]; simp

theorem ne_tup (σ : Sto) {vs : List V} (h : ∀ v ∈ vs, Flat v) : ev2 .ne σ (.tup vs) (.tup vs) = some (.bool false) := by
  obtain ⟨ds, e, q⟩ := flat_py (σ := σ) (k := 6) h
  have hp : toPy σ eqDepth (.tup vs) = some (.tuple ds) := by
    show (vs.mapM (toPy σ 7)).map PyData.tuple = _
    rw [e]; rfl
  show (((toPy σ eqDepth (.tup vs)).bind fun x => (toPy σ eqDepth (.tup vs)).map fun y => PyData.eqv x y)).map (fun r => V.bool !r) = _
  rw [hp]
  show some (V.bool !(PyData.eqvAll ds ds)) = _
  rw [q]; rfl

theorem flat_line (t : Ln) : ∀ v ∈ [V.str (mkS t.1), V.int (t.2.1 : Int), V.int (t.2.2.1 : Int), V.int (t.2.2.2 : Int)], Flat v := by
  intro v hv
  simp only [List.mem_cons, List.not_mem_nil, or_false] at hv
  rcases hv with rfl | rfl | rfl | rfl
  · exact .inr ⟨_, rfl⟩
  · exact .inl ⟨_, rfl⟩
  · exact .inl ⟨_, rfl⟩
  · exact .inl ⟨_, rfl⟩
theorem flat_simple (w ns : List Nat) : ∀ v ∈ V.str (mkS w) :: nV ns, Flat v := by
  intro v hv
  rcases List.mem_cons.mp hv with rfl | hv
  · exact .inr ⟨_, rfl⟩
  · obtain ⟨n, _, rfl⟩ := List.mem_map.mp hv
    exact .inl ⟨_, rfl⟩

theorem lines_py {σ : Sto} {k : Nat} : ∀ (ls : List Ln), ∃ ds, (ls.map lineV).mapM (toPy σ (k + 2)) = some ds ∧ PyData.eqvAll ds ds = true
  | [] => ⟨[], rfl, rfl⟩
  | t :: ls => by
    obtain ⟨ds, e, q⟩ := lines_py (σ := σ) (k := k) ls
    obtain ⟨d1, e1, q1⟩ := flat_py (σ := σ) (k := k) (flat_line t)
    have hp : toPy σ (k + 2) (lineV t) = some (.tuple d1) := by
      show (List.mapM (toPy σ (k + 1)) [V.str (mkS t.1), V.int (t.2.1 : Int), V.int (t.2.2.1 : Int), V.int (t.2.2.2 : Int)]).map PyData.tuple = _
      rw [e1]; rfl
    refine ⟨.tuple d1 :: ds, by rw [List.map_cons, List.mapM_cons, hp, e]; rfl, ?_⟩
    show (PyData.eqvAll d1 d1 && PyData.eqvAll ds ds) = true
    rw [q, q1]; rfl

theorem ne_order {ls : List Ln} {rest : Sto} : ev2 .ne ([O.list (ls.map lineV)] ++ rest) (.tup [.str (mkS ORD), .lst (ls.map lineV)]) (.tup [.str (mkS ORD), .ref 0]) = some (.bool false) := by
  obtain ⟨ds, e, q⟩ := lines_py (σ := [O.list (ls.map lineV)] ++ rest) (k := 4) ls
  have hp1 : toPy ([O.list (ls.map lineV)] ++ rest) eqDepth (.tup [.str (mkS ORD), .lst (ls.map lineV)]) = some (.tuple [.str (mkS ORD), .list ds]) := by
    show (List.mapM (toPy ([O.list (ls.map lineV)] ++ rest) 7) [.str (mkS ORD), .lst (ls.map lineV)]).map PyData.tuple = _
    have h1 : toPy ([O.list (ls.map lineV)] ++ rest) 7 (.lst (ls.map lineV)) = some (.list ds) := by
      show ((ls.map lineV).mapM (toPy ([O.list (ls.map lineV)] ++ rest) 6)).map PyData.list = _
      rw [e]; rfl
    rw [List.mapM_cons, List.mapM_cons, h1]; rfl
  have hp2 : toPy ([O.list (ls.map lineV)] ++ rest) eqDepth (.tup [.str (mkS ORD), .ref 0]) = some (.tuple [.str (mkS ORD), .list ds]) := by
    show (List.mapM (toPy ([O.list (ls.map lineV)] ++ rest) 7) [.str (mkS ORD), .ref 0]).map PyData.tuple = _
    have h1 : toPy ([O.list (ls.map lineV)] ++ rest) 7 (.ref 0) = some (.list ds) := by
      show ((ls.map lineV).mapM (toPy ([O.list (ls.map lineV)] ++ rest) 6)).map PyData.list = _
      rw [e]; rfl
    rw [List.mapM_cons, List.mapM_cons, h1]; rfl
  show (((toPy _ eqDepth (.tup [.str (mkS ORD), .lst (ls.map lineV)])).bind fun x => (toPy _ eqDepth (.tup [.str (mkS ORD), .ref 0])).map fun y => PyData.eqv x y)).map (fun r => V.bool !r) = _
  rw [hp1, hp2]
  show some (V.bool !((mkS ORD == mkS ORD) && (PyData.eqvAll ds ds && true))) = _
  rw [q]; simp

/-! ## alike -/
theorem f106 {d : Nat} {vs : List V} {σ : Sto} (h : ∀ v ∈ vs, Flat v) : callFn T07 (d + 2) false 106 [.tup vs, .tup vs] σ = .ok (.bool true) σ := by
  refine call_ok (fn := f07_106) rfl rfl ?_
  simp only [f07_106, List.cons_append, List.nil_append, List.replicate]
  have hne := ne_tup σ h
  rw [x_lcons]
  have e1 : exS (callFn T07 (d + 1) false) (callFn T07 (d + 1) true) false (CS.ite (CE.or (CE.p1 (P1.not) (CE.p1 (P1.isInst (Kd.tuple)) (CE.var 0))) (CE.p2 (P2.ne) (CE.var 0) (CE.var 1))) [CS.ret (CE.lit (V.bool false))] []) [.tup vs, .tup vs, .undef] σ = .ok (.next [.tup vs, .tup vs, .undef]) σ := by
    simp [readVar, hne]
  rw [e1, R.bind_ok]
  show ((exS _ _ false (.for 2 .val [.var 0] _) _ σ).bind _) = _
  refine for_then (it := .now vs) (xs := vs) (vs := [.tup vs]) (σ₁ := σ) (fun i ρ σ' => ∃ v, ρ = [.tup vs, .tup vs, v] ∧ σ' = σ) (by simp [readVar]) (itemsBy_tup σ) (fun _ _ _ _ => .inl rfl) ⟨_, rfl, rfl⟩ ?_ ?_
  · rintro i x ρ σ' hx ⟨v, rfl, rfl⟩
    refine ⟨[.tup vs, .tup vs, x], σ', ?_, x, rfl, rfl⟩
    rcases h x (List.mem_of_getElem? hx) with ⟨n, rfl⟩ | ⟨y, rfl⟩
    · simp [readVar, f07w]
    · simp [readVar]
  · rintro ρ' σ' ⟨v, rfl, rfl⟩
    simp

theorem f107s {d : Nat} {w ns : List Nat} {σ : Sto} (h : Simple w ns) : callFn T07 (d + 3) false 107 [.tup (.str (mkS w) :: nV ns), .tup (.str (mkS w) :: nV ns)] σ = .ok (.bool true) σ := by
  refine call_ok (fn := f07_107) rfl rfl ?_
  simp only [f07_107, List.cons_append, List.nil_append, List.replicate]
  simp [readVar, h.nord, f106 (flat_simple w ns)]

theorem f107o {d : Nat} {ls : List Ln} {rest : Sto} (h : Order ls) : callFn T07 (d + 3) false 107 [.tup [.str (mkS ORD), .lst (ls.map lineV)], .tup [.str (mkS ORD), .ref 0]] ([O.list (ls.map lineV)] ++ rest) = .ok (.bool true) ([O.list (ls.map lineV)] ++ rest) := by
  refine call_ok (fn := f07_107) rfl rfl ?_
  simp only [f07_107, List.cons_append, List.nil_append, List.replicate]
  have ho : (mkS ORD == ({ cps := #[111, 114, 100, 101, 114] } : Str)) = true := by decide
  have hle := h.le
  generalize hσ : O.list (ls.map lineV) :: rest = σ
  have h0 : σ[0]? = some (.list (ls.map lineV)) := by rw [← hσ]; rfl
  have hlen := ev1_len_ref σ h0
  rw [x_lcons]
  have e1 : exS (callFn T07 (d + 2) false) (callFn T07 (d + 2) true) false (CS.ite (CE.p2 (P2.ne) (CE.p2 (P2.index) (CE.var 1) (CE.lit (V.int 0))) (CE.lit (V.str { cps := #[111, 114, 100, 101, 114] }))) [CS.ret (CE.call 106 [CE.var 0, CE.var 1])] [])
      [.tup [.str (mkS ORD), .lst (ls.map lineV)], .tup [.str (mkS ORD), .ref 0], .undef] σ = .ok (.next [.tup [.str (mkS ORD), .lst (ls.map lineV)], .tup [.str (mkS ORD), .ref 0], .undef]) σ := by
    simp [readVar, ho]
  rw [e1, R.bind_ok]
  show ((exS _ _ false (.ite _ _ _) _ σ).bind _) = _
  have e2 : exS (callFn T07 (d + 2) false) (callFn T07 (d + 2) true) false (CS.ite
               (CE.or
                 (CE.p1 (P1.not) (CE.p1 (P1.isInst (Kd.tuple)) (CE.var 0)))
                 (CE.or
                   (CE.p2 (P2.ne) (CE.p1 (P1.len) (CE.var 0)) (CE.lit (V.int 2)))
                   (CE.p2 (P2.ne) (CE.p2 (P2.index) (CE.var 0) (CE.lit (V.int 0))) (CE.lit (V.str { cps := #[111, 114, 100, 101, 114] })))))
               [CS.ret (CE.lit (V.bool false))]
               []) [.tup [.str (mkS ORD), .lst (ls.map lineV)], .tup [.str (mkS ORD), .ref 0], .undef] σ = .ok (.next [.tup [.str (mkS ORD), .lst (ls.map lineV)], .tup [.str (mkS ORD), .ref 0], .undef]) σ := by
    simp [readVar, ho]
  rw [e2, R.bind_ok]
  show ((exS _ _ false (.ite _ _ _) _ σ).bind _) = _
  have e3 : exS (callFn T07 (d + 2) false) (callFn T07 (d + 2) true) false (CS.ite
               (CE.or
                 (CE.p1 (P1.not) (CE.p1 (P1.isInst (Kd.list)) (CE.p2 (P2.index) (CE.var 0) (CE.lit (V.int 1)))))
                 (CE.p2
                   (P2.ne)
                   (CE.p1 (P1.len) (CE.p2 (P2.index) (CE.var 0) (CE.lit (V.int 1))))
                   (CE.p1 (P1.len) (CE.p2 (P2.index) (CE.var 1) (CE.lit (V.int 1))))))
               [CS.ret (CE.lit (V.bool false))]
               []) [.tup [.str (mkS ORD), .lst (ls.map lineV)], .tup [.str (mkS ORD), .ref 0], .undef] σ = .ok (.next [.tup [.str (mkS ORD), .lst (ls.map lineV)], .tup [.str (mkS ORD), .ref 0], .undef]) σ := by
    simp [readVar, hlen]
  rw [e3, R.bind_ok]
  show ((exS _ _ false (.for 2 .range1 _ _) _ σ).bind _) = _
  refine for_then (it := .now (rangeL 0 ls.length)) (xs := rangeL 0 ls.length) (vs := [.int ls.length]) (σ₁ := σ) (fun i ρ σ' => ∃ v, ρ = [.tup [.str (mkS ORD), .lst (ls.map lineV)], .tup [.str (mkS ORD), .ref 0], v] ∧ σ' = σ) (by simp [readVar, hlen]) (itemsBy_range1 σ (by simp [LIM]; omega)) (fun _ _ _ _ => .inl rfl) ⟨_, rfl, rfl⟩ ?_ ?_
  · rintro i x ρ σ' hx ⟨v, rfl, rfl⟩
    have hi : i < ls.length := by have := (List.getElem?_eq_some_iff.mp hx).1; simpa [rangeL] using this
    obtain rfl : V.int (i : Int) = x := by simpa [rangeL, hi] using hx
    have hg : (ls.map lineV)[i]? = some (lineV ls[i]) := by simp [hi]
    have i1 := index_lst' σ' hg
    have i2 := index_ref' σ' h0 hg
    refine ⟨_, σ', ?_, V.int i, rfl, rfl⟩
    have h6 : callFn T07 (d + 2) false 106 [lineV ls[i], lineV ls[i]] σ' = .ok (.bool true) σ' := f106 (d := d) (flat_line ls[i])
    simp [readVar, i1, i2, h6]
  · rintro ρ' σ' ⟨v, rfl, rfl⟩
    simp

theorem law07 {d : Nat} {s : List Int} : ∃ σ', callFn T07 (d + 6) false 109 [.lst (iv s)] [] = .ok (.bool true) σ' := by
  rcases f104 (d := d + 3) (s := s) with ⟨w, ns, hS, e⟩ | ⟨ls, hO, e⟩
  · have e28 := f28s (d := d + 4) (σ := []) hS
    have e105 := f105s (d := d + 4) (σ := []) hS
    have e31 := f31s (d := d + 2) (σ := []) hS
    have e108 : callFn T07 (d + 5) false 108 [.str (mkS (textC w ns))] [] = .ok (.tup (.str (mkS w) :: nV ns)) [] := by
      refine call_ok (fn := f07_108) rfl rfl ?_
      simp [f07_108, readVar, e31, R.calm]
    have e107 := f107s (d := d + 2) (σ := []) hS
    have hne := ne_tup [] (flat_simple w ns)
    refine ⟨[], call_ok (fn := f07_109) rfl rfl ?_⟩
    simp only [f07_109, List.cons_append, List.nil_append, List.replicate]
    have hnn : ev1 .isNotNone [] (.tup (.str (mkS w) :: nV ns)) = some (.bool true) := rfl
    simp [readVar, e, hS.nord, e28, e105, hne, e108, e107, hnn]
  · obtain ⟨rest, e105⟩ := f105o (d := d + 4) hO
    have e28 := f28o (d := d + 4) (σ := [.list (ls.map lineV)]) hO
    have e31 := f31o (d := d + 1) (σ := [O.list (ls.map lineV)] ++ rest) hO
    have e108 : callFn T07 (d + 5) false 108 [.str (mkS (orderC ls))] ([O.list (ls.map lineV)] ++ rest) = .ok (.tup [.str (mkS ORD), .lst (ls.map lineV)]) ([O.list (ls.map lineV)] ++ rest) := by
      refine call_ok (fn := f07_108) rfl rfl ?_
      generalize [O.list (ls.map lineV)] ++ rest = σ at e31 ⊢
      simp [f07_108, readVar, e31, R.calm]
    have e107 := f107o (d := d + 2) (rest := rest) hO
    have hne := ne_order (ls := ls) (rest := rest)
    have ho : (mkS ORD == ({ cps := #[111, 114, 100, 101, 114] } : Str)) = true := by decide
    have htl : ev1 .toList [O.list (ls.map lineV)] (.ref 0) = some (.lst (ls.map lineV)) := rfl
    have hOL : V.str { cps := #[111, 114, 100, 101, 114] } = V.str (mkS ORD) := rfl
    generalize [O.list (ls.map lineV)] ++ rest = σ at e105 e31 e108 e107 hne
    refine ⟨σ, call_ok (fn := f07_109) rfl rfl ?_⟩
    simp only [f07_109, List.cons_append, List.nil_append, List.replicate]
    have hnn : ev1 .isNotNone σ (.tup [.str (mkS ORD), .lst (ls.map lineV)]) = some (.bool true) := rfl
    simp [readVar, e, ho, htl, hOL, e28, e105, hne, e108, e107, hnn]
end Mine
end

/-! # Walk07 -/
section
set_option autoImplicit false
namespace Mine
open PySem PySem.W PyProof.Rows
noncomputable def C07 : Ctx := { fns := [("is_item", 21), ("shown", 28), ("number_of", 29), ("line_of", 30), ("read", 31), ("_law_cell_at", 100), ("_law_whole", 101), ("_law_number_by", 102), ("_law_item_by", 103), ("_law_any_deed", 104), ("_law_text_of", 105), ("_law_parts_alike", 106), ("_law_deed_alike", 107), ("_law_read", 108), ("law", 109)], meths := [], consts := [("LETTERS", .str { cps := #[97, 98, 99, 100, 101, 102, 103, 104, 105, 106, 107, 108, 109, 110, 111, 112, 113, 114, 115, 116, 117, 118, 119, 120, 121, 122] }), ("MOST_SIGNS", .int 12), ("FIGURES", .str { cps := #[48, 49, 50, 51, 52, 53, 54, 55, 56, 57] }), ("MOST_FIGURES", .int 30), ("PARTS", .parts)], excs := [], attrs := [], book := false, trks := trks07 }
theorem clean07 : Clean C07 := ⟨by rfl, by rfl, by rfl⟩
theorem law07T {s : List Int} : ∃ σ', callFn (fun k => tab07.lookup k) 6 false 109 [.lst (s.map V.int)] [] = .ok (.bool true) σ' := law07 (d := 0)
theorem addr07 {mg : Str → Option Value} {fa : Addr} (h : mg ("law" : Str) = some (.ref fa)) : fnAddr C07 mg 109 = fa := by
  unfold fnAddr
  rw [show C07.fns.find? (fun p => p.2 == 109) = some (("law" : Str), 109) from rfl]
  simp only [h]

/-- the table of parts, as the top leaves it -/
noncomputable def pEs (P : Params) : List DictEntry := [⟨PyData.keyHash P "order", .str "order" 235, .int 2 236⟩, ⟨PyData.keyHash P "deliver", .str "deliver" 237, .int 4 238⟩, ⟨PyData.keyHash P "back", .str "back" 239, .int 4 240⟩, ⟨PyData.keyHash P "swap", .str "swap" 241, .int 4 242⟩,
  ⟨PyData.keyHash P "credit", .str "credit" 243, .int 4 244⟩, ⟨PyData.keyHash P "pay", .str "pay" 245, .int 3 246⟩, ⟨PyData.keyHash P "refund", .str "refund" 247, .int 3 248⟩, ⟨PyData.keyHash P "move", .str "move" 249, .int 4 250⟩]
noncomputable def pObj (P : Params) : Obj := { cls := .type "dict", data := .dict (pEs P).toArray 8 }

theorem parts_find (P : Params) (x : Str) : ∃ t, ((pEs P).find? fun e => Value.isStrOf x e.key).map (·.val) = ((partsTable.find? fun p => p.1 == x).map fun p => Value.int p.2 t) := by
  have key : ∀ (l : List (Str × Int × Nat × Nat)), ∃ t, ((l.map fun q => (⟨PyData.keyHash P q.1, .str q.1 q.2.2.1, .int q.2.1 q.2.2.2⟩ : DictEntry)).find? fun e => Value.isStrOf x e.key).map (·.val) = (((l.map fun q => (q.1, q.2.1)).find? fun p => p.1 == x).map fun p => Value.int p.2 t) := by
    intro l
    induction l with
    | nil => exact ⟨0, rfl⟩
    | cons q l ih =>
      rw [List.map_cons, List.map_cons, List.find?_cons, List.find?_cons]
      have hq : Value.isStrOf x (Value.str q.1 q.2.2.1) = (q.1 == x) := rfl
      simp only [hq]
      cases h : (q.1 == x) with
      | true => exact ⟨q.2.2.2, rfl⟩
      | false => exact ih
  exact key [("order", 2, 235, 236), ("deliver", 4, 237, 238), ("back", 4, 239, 240), ("swap", 4, 241, 242), ("credit", 4, 243, 244), ("pay", 3, 245, 246), ("refund", 3, 247, 248), ("move", 4, 249, 250)]

theorem parts_at {S : Stat} {dA : Addr} (hp : S.parts = .ref dA) (hd : (dA == sysModules) = false) (ho : S.hb.get? dA = some (pObj S.w.params)) : PartsAt S S.hb := fun _ => by
  refine ⟨dA, fun x => ((pEs S.w.params).find? fun e => Value.isStrOf x e.key).map (·.val), hp, hd, ⟨_, (pEs S.w.params).toArray, 8, ho, ⟨rfl, rfl, rfl⟩, rfl, fun e he => ?_, fun k => ?_⟩, fun x => parts_find _ x⟩
  · have he : e ∈ pEs S.w.params := by simpa using he
    simp only [pEs, List.mem_cons, List.not_mem_nil, or_false] at he
    rcases he with rfl | rfl | rfl | rfl | rfl | rfl | rfl | rfl <;> exact ⟨_, beq_self_eq_true _, rfl⟩
  · show ((pEs S.w.params).toArray.find? _).map _ = _
    rw [List.find?_toArray]; rfl

theorem walk07 {v p : Program} {loose : List Str} {w : World} {s₁ : Shared} {mean : ExcName → Option Value} {mg mb : Str → Option Value} {fa a dA : Addr} {ns : List Int} (T : Top v loose mean mg mb s₁.heap) (k1 : tabOf C07 (recsOf v) = some tab07) (k2 : fnsOk C07 (recsOf v) = true) (k3 : ((recsOf v).map (·.name)).Nodup) (k4 : freeOk v loose C07 = true)
    (v1 : valOf v "LETTERS" = some (.str { cps := #[97, 98, 99, 100, 101, 102, 103, 104, 105, 106, 107, 108, 109, 110, 111, 112, 113, 114, 115, 116, 117, 118, 119, 120, 121, 122] })) (v2 : valOf v "MOST_SIGNS" = some (.int 12)) (v3 : valOf v "FIGURES" = some (.str { cps := #[48, 49, 50, 51, 52, 53, 54, 55, 56, 57] })) (v4 : valOf v "MOST_FIGURES" = some (.int 30))
    (hP : mg ("PARTS" : Str) = some (.ref dA)) (hd : (dA == sysModules) = false) (ho : s₁.heap.get? dA = some (pObj w.params)) (hmg : mg ("law" : Str) = some (.ref fa))
    (W : Well w.params s₁.heap (.ref a) (ofPy (.list (ns.map PyData.int)))) (hlen : ns.length ≤ 63) :
    codeAny (model p w) callerA (.call (.ref fa) ⟨[.ref a], []⟩) (fun r s' => r = .ok (.ret (.bool true)) ∧ (∀ b o, s₁.heap.get? b = some o → s'.heap.get? b = some o) ∧ s'.os = s₁.os ∧ s'.gens = s₁.gens) s₁ := by
  have key : ∀ S : Stat, S.hb = s₁.heap → S.fn = fnAddr C07 mg → S.hasParts = true → S.parts = .ref dA → S.prog = p → S.w = w → codeAny (model S.prog S.w) callerA (.call (.ref (S.fn 109)) ⟨[.ref a], []⟩) (fun r s' => r = .ok (.ret (.bool true)) ∧ (∀ b o, s₁.heap.get? b = some o → s'.heap.get? b = some o) ∧ s'.os = s₁.os ∧ s'.gens = s₁.gens) s₁ := by
    intro S h1 h2 h3 h4 h5 h6
    have TS : Top v loose mean mg mb S.hb := h1 ▸ T
    have cstr : ∀ {x y : Str}, valOf v x = some (.str y) → y.length ≤ LIM → PyData.strOk y = true → ∃ w, mg x = some w ∧ VR S [] [] S.hb (.str y) w := fun hv hl hk => by
      obtain ⟨u, e, r⟩ := T.const _ _ hv
      have := r S.hb
      cases this
      exact ⟨_, e, by rw [VR]; exact ⟨⟨_, rfl⟩, hl, hk⟩⟩
    have cint : ∀ {x : Str} {i : Int}, valOf v x = some (.int i) → ∃ w, mg x = some w ∧ VR S [] [] S.hb (.int i) w := fun hv => by
      obtain ⟨u, e, r⟩ := T.const _ _ hv
      have := r S.hb
      cases this
      exact ⟨_, e, by rw [VR]; exact ⟨_, rfl⟩⟩
    have hc : ∀ x u, C07.consts.lookup x = some u → ∃ w, mg x = some w ∧ VR S [] [] S.hb u w := fun x u h => by
      have hm := lookup_mem h
      simp only [C07, List.mem_cons, Prod.mk.injEq, List.not_mem_nil, or_false] at hm
      rcases hm with ⟨rfl, rfl⟩ | ⟨rfl, rfl⟩ | ⟨rfl, rfl⟩ | ⟨rfl, rfl⟩ | ⟨rfl, rfl⟩
      · exact cstr v1 (by decide) (by decide +kernel)
      · exact cint v2
      · exact cstr v3 (by decide) (by decide +kernel)
      · exact cint v4
      · exact ⟨_, hP, by rw [VR]; exact ⟨h3, h4.symm⟩⟩
    have fs := facts_of TS k2 h2 k3 k1 k4 hc (fun h => by cases h) (fun x c h => by cases h) (parts_at h4 hd (by rw [h1, h6]; exact ho)) (by rw [h4]; simp)
    exact law_call fs clean07 (fnAt_of TS k2 h2 k3 k1) h1 (by decide) (VR_script (P := w.params) (h1 ▸ W) (by simp only [LIM]; omega)) law07T
  have := key ⟨p, w, s₁.heap, fun _ => .none, 0, .ref dA, true, fnAddr C07 mg⟩ rfl rfl rfl rfl rfl rfl
  simp only [addr07 hmg] at this
  exact this
end Mine
end

/-! # HdA07 -/
section
open PySem PySem.W PyProof.Rows
set_option Elab.async false
set_option maxRecDepth 100000
namespace Mine
noncomputable def v07 : Program := PySem.W.view PySem.Challenge.pw_uf040020_07 [1, 2, 4, 5, 6, 7, 9, 10, 11, 12, 13, 14, 16, 17, 18, 19, 20, 21, 22, 23, 24, 25]
noncomputable def x07 (s : Shared) : Bool := xlAt v07 [] s && recOk [] s
noncomputable def y07 (s : Shared) : Bool × Option Value × Option Obj := (s.heap.isNs mainGlobals, s.heap.nsMap mainGlobals "PARTS", s.heap.get? 45)
noncomputable def a07 (w : World) : Bool × Option Value × Option Obj := (true, some (.ref 45), some (pObj w.params))
theorem l07a : ∀ w : World, Option.map (fun s => (openSeen v07 [("PARTS" : Str)] (importedModules PySem.Challenge.pw_uf040020_07.main.body) x07 true s, y07 s)) (openEnds treeTable PySem.Challenge.pw_uf040020_07 (w.withFollow "special-get-raises" false) 2178) = some (openGood v07 [("PARTS" : Str)], a07 (w.withFollow "special-get-raises" false)) := by
  intro w; kernel_rfl
theorem l07b : ∀ w : World, Option.map (fun s => (openSeen v07 [("PARTS" : Str)] (importedModules PySem.Challenge.pw_uf040020_07.main.body) x07 true s, y07 s)) (openEnds treeTable PySem.Challenge.pw_uf040020_07 (w.withFollow "special-get-raises" true) 2178) = some (openGood v07 [("PARTS" : Str)], a07 (w.withFollow "special-get-raises" true)) := by
  intro w; kernel_rfl
theorem well07 : PySem.Challenge.rw_uf040020_07.wellSaid = true := by kernel_rfl
end Mine
end

/-! # Fin07 -/
section
open PySem PySem.W PyProof.Rows
set_option Elab.async false
set_option maxRecDepth 100000
namespace Mine
theorem left07 : LeftO PySem.Challenge.pw_uf040020_07 v07 [("PARTS" : Str)] x07 y07 a07 2178 := byRow2 "special-get-raises" l07a l07b
noncomputable def says07 (w : World) (h : Heap) : Prop := ∃ mg, h.Ns mainGlobals mg ∧ mg ("PARTS" : Str) = some (.ref 45) ∧ h.get? 45 = some (pObj w.params)
theorem of07 (w : World) (s : Shared) (h : y07 s = a07 w) : says07 w s.heap := by
  have h : (_, _, _) = (_, _, _) := h
  obtain ⟨a, b⟩ := Prod.mk.inj h
  obtain ⟨b, c⟩ := Prod.mk.inj b
  exact ⟨_, .of_isNs a, b, c⟩
theorem keeps07 (w : World) (h h' : Heap) (x : says07 w h) (k : ∀ b o, h.get? b = some o → h'.get? b = some o) : says07 w h' :=
  let ⟨mg, ⟨o, es, ep, a, b⟩, c, d⟩ := x; ⟨mg, ⟨o, es, ep, k _ _ a, b⟩, c, k _ _ d⟩
theorem parts07 {w : World} {h : Heap} {mg : Str → Option Value} (N : h.Ns mainGlobals mg) (x : says07 w h) : mg ("PARTS" : Str) = some (.ref 45) ∧ h.get? 45 = some (pObj w.params) := by
  obtain ⟨mg', N', c, d⟩ := x
  rw [N.eq_nsMap, ← N'.eq_nsMap]; exact ⟨c, d⟩
end Mine
set_option maxHeartbeats 8000000 in
theorem PySem.Challenge.cw_uf040020_07_holds : PySem.Challenge.rw_uf040020_07.Holds := by
  w_on
  refine holds_law Mine.well07 fun said => ?_
  refine holds_open (q := Mine.v07) (loose := [("PARTS" : Str)]) (Xt := Mine.x07) (XP := XL Mine.v07 []) (Yf := Mine.y07) (Ya := Mine.a07) (YP := Mine.says07) (N := 2178) Mine.left07 Mine.of07 Mine.keeps07 (fun s e => xl_of s (Bool.and_eq_true_iff.mp e).1) XL.keeps (by rfl) (by rfl) (by rfl) (fun s e => recFacts_of (Bool.and_eq_true_iff.mp e).2) (by rfl) (by first | assumption | decide +kernel) (by decide +kernel) ⟨rfl, rfl, rfl, rfl, rfl, by decide +kernel⟩ ?hw ?hc
  case hw => w_witness2
  intro w s₀ s₁ mg mb G Y fa o pm cd doc dV kV ho hd hcd hD hmg hg args vals as hpre hlay hrd hwl hlo
  have hmg' : mg ("law" : Str) = some (.ref fa) := hmg
  clear hd hcd hD hmg
  refine Ground.open G ?_
  intro T B D TE TW
  have P := Mine.parts07 T.g Y
  wrow_args hpre hlay hrd hwl hlo
  refine enter_call ?_
  rename_i ns _ _ _ _ _ _ _ a _ _ _ _ W _ _ _ hlen _
  refine codeAny_mono (Mine.walk07 T (by kernel_rfl) (by decide +kernel) (by decide +kernel) (by decide +kernel) (by kernel_rfl) (by kernel_rfl) (by kernel_rfl) (by kernel_rfl) P.1 rfl P.2 hmg' W (by omega)) fun r s' h => ?_
  obtain ⟨rfl, hk, hos, hgs⟩ := h
  exact Mine.law_good PySem.Challenge.rw_uf040020_07 hk hos hg hgs
end

