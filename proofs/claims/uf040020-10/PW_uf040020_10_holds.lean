import PyProof.Rows.All
import PyProof.P3Statements
import PyProof.StrBlockL
import PyProof.Rows.StrNews2
import KE.KIntText
import PyProof.Cells
import PyProof.CompFree
import PyProof.RulesTry
import PyProof.RulesAs
import PyProof.StationsW
import PyProof.DictList
import PyProof.TupleOps
import PyProof.ListOps
import PyProof.DictKinds
import PyProof.ExcClass2
import PyProof.ObjNew
import PyProof.InstLoad
import PyProof.InstStoreFacts
import PyProof.EqLayable
import PyProof.Rows.StrJoin2
import PyProof.Rows.StrJoinMade
import PyProof.CallStr
import PyProof.Rows.StrSplitAre
import PyProof.DictRoads
import PyProof.RaisesMany
import PyProof.Rows.PlainStore
import PyProof.StrLoop
import PyProof.StrWalks
import PyProof.Rows.TupAssign
import PyProof.ExcBaseAll.ValueError
import PyProof.NsDelKeeps
import PyProof.CallRoads
import PyProof.AssignAttr
import PyProof.Rows.Own
import PyProof.DictDisplay
import Wide.All
import OpenK.KLine
import Open.Line
import Open.Seg
import Open.Boot
import Wide.FinOn
import Lean
import PySem.Challenge.RW_uf040020_10
set_option Elab.async false
set_option genSizeOf false
set_option genInjectivity false

/-! # Core -/
section
set_option autoImplicit false
namespace Mine
open PySem
inductive Cls where
  | FlowError | NoDeed | NoLines | NoItem | NoNumber | FullBook | NoOrder | SameOrder | NoLine | TooMuch | NothingDone | ValueError
  deriving DecidableEq
noncomputable def Cls.sub (c d : Cls) : Bool := c == d || d == .ValueError || (d == .FlowError && c != .ValueError)
inductive V where
  | undef
  | none
  | bool (b : Bool)
  | int (i : Int)
  | str (s : Str)
  | tup (xs : List V)
  | lst (xs : List V)
  | ref (n : Nat)
  | exc (c : Cls)
  | parts
inductive O where
  | list (xs : List V)
  | dict (es : List (Int × V))
  | inst (attrs : List (Nat × V))
noncomputable abbrev Sto := List O
inductive R (α : Type) where
  | ok (a : α) (σ : Sto)
  | exc (c : Cls) (σ : Sto)
  | stuck
noncomputable def R.bind {α β : Type} : R α → (α → Sto → R β) → R β
  | .ok a σ, f => f a σ
  | .exc c σ, _ => .exc c σ
  | .stuck, _ => .stuck
@[simp] theorem R.bind_ok {α β : Type} (a : α) (σ : Sto) (f : α → Sto → R β) : (R.ok a σ).bind f = f a σ := rfl
@[simp] theorem R.bind_exc {α β : Type} (c : Cls) (σ : Sto) (f : α → Sto → R β) : (R.exc c σ : R α).bind f = .exc c σ := rfl
@[simp] theorem R.bind_stuck {α β : Type} (f : α → Sto → R β) : (R.stuck : R α).bind f = .stuck := rfl
noncomputable def R.lift {α : Type} (σ : Sto) : Option α → R α
  | some a => .ok a σ
  | none => .stuck
@[simp] theorem R.lift_some {α : Type} (σ : Sto) (a : α) : R.lift σ (some a) = .ok a σ := rfl
@[simp] theorem R.lift_none {α : Type} (σ : Sto) : R.lift σ (none : Option α) = .stuck := rfl
inductive Kd where
  | int | bool | str | list | tuple | exc (c : Cls)
  deriving DecidableEq
inductive P1 where
  | not | neg | abs | len | toList | toTup | toInt | toStr | sum | min | max | all | isNone | isNotNone | isInst (k : Kd) | count
inductive P2 where
  | add | sub | mul | fdiv | mod | pow
  | eq | ne | lt | le | gt | ge | isIn | notIn
  | index | min | max | join | split | partition | startswith
noncomputable def itemsOf (σ : Sto) : V → Option (List V)
  | .tup xs => some xs
  | .lst xs => some xs
  | .ref n => match σ[n]? with
    | some (.list xs) => some xs
    | _ => none
  | _ => none
noncomputable def listR : Option O → Option (List V)
  | some (.list xs) => some xs
  | _ => none
noncomputable def listOf? (σ : Sto) : V → Option (List V)
  | .lst xs => some xs
  | .ref n => listR σ[n]?
  | _ => none
noncomputable def intOf? : V → Option Int
  | .int i => some i
  | _ => none
noncomputable def strOf? : V → Option Str
  | .str s => some s
  | _ => none
noncomputable def boolOf? : V → Option Bool
  | .bool b => some b
  | _ => none
noncomputable def ints? (xs : List V) : Option (List Int) := xs.mapM intOf?
noncomputable def strs? (xs : List V) : Option (List Str) := xs.mapM strOf?
noncomputable def bools? (xs : List V) : Option (List Bool) := xs.mapM boolOf?
noncomputable def truthy (σ : Sto) : V → Option Bool
  | .none => some false
  | .bool b => some b
  | .int i => some (i != 0)
  | .str s => some (s.length != 0)
  | .tup xs => some (!xs.isEmpty)
  | .lst xs => some (!xs.isEmpty)
  | .ref n => match σ[n]? with
    | some (.list xs) => some (!xs.isEmpty)
    | _ => none
  | _ => none
noncomputable def LIM : Nat := 1048576
noncomputable def toPyO (g : V → Option PyData) : Option O → Option PyData
  | some (.list xs) => (xs.mapM g).map .list
  | _ => none
noncomputable def toPy (σ : Sto) : Nat → V → Option PyData
  | 0, _ => none
  | d + 1, v => match v with
    | .none => some .none
    | .bool b => some (.bool b)
    | .int i => some (.int i)
    | .str s => some (.str s)
    | .tup xs => (xs.mapM (toPy σ d)).map .tuple
    | .lst xs => (xs.mapM (toPy σ d)).map .list
    | .ref n => toPyO (toPy σ d) σ[n]?
    | _ => none
noncomputable def eqDepth : Nat := 8
noncomputable def eqV (σ : Sto) (a b : V) : Option Bool :=
  match listOf? σ a, listOf? σ b with
  | some xs, some ys => if xs.length != ys.length then some false else eqD a b
  | _, _ => eqD a b
where
  eqD (a b : V) : Option Bool := (toPy σ eqDepth a).bind fun x => (toPy σ eqDepth b).map fun y => PyData.eqv x y
noncomputable def mkS (l : List Nat) : Str := ⟨l.toArray⟩
noncomputable def codes (s : Str) : List Nat := s.cps.toList
noncomputable def partsTable : List (Str × Int) := [("order", 2), ("deliver", 4), ("back", 4), ("swap", 4), ("credit", 4), ("pay", 3), ("refund", 3), ("move", 4)]
noncomputable def smallFactor (a : Int) : Bool := a.natAbs < 2 ^ 64
noncomputable def normIndex (n : Nat) (i : Int) : Option Nat :=
  if 0 ≤ i then (if i.toNat < n then some i.toNat else none)
  else if 0 ≤ i + n then some (i + n).toNat else none
noncomputable def sliceStart (n : Nat) : Option Int → Nat
  | none => 0
  | some i => if i < 0 then (i + n).toNat else min i.toNat n
noncomputable def sliceStop (n : Nat) : Option Int → Nat
  | none => n
  | some i => if i < 0 then (i + n).toNat else min i.toNat n
noncomputable def sliceL {α : Type} (xs : List α) (lo hi : Option Int) : List α :=
  (xs.take (sliceStop xs.length hi)).drop (sliceStart xs.length lo)
noncomputable def minL : List Int → Option Int
  | [] => none
  | x :: xs => some (xs.foldl (fun m y => if y < m then y else m) x)
noncomputable def maxL : List Int → Option Int
  | [] => none
  | x :: xs => some (xs.foldl (fun m y => if y > m then y else m) x)
noncomputable def refK : Option O → Kd → Option Bool
  | some (.list _), k => (match k with
    | .list => some true
    | .tuple => some false
    | .str => some false
    | .int => some false
    | _ => none)
  | _, _ => none
noncomputable def instK (σ : Sto) (k : Kd) : V → Option Bool
  | .undef => none
  | .parts => none
  | .none => (match k with | .exc _ => none | _ => some false)
  | .int _ => (match k with | .int => some true | .exc _ => none | _ => some false)
  | .bool _ => (match k with | .int => some true | .bool => some true | .exc _ => none | _ => some false)
  | .str _ => (match k with | .str => some true | .exc _ => none | _ => some false)
  | .tup _ => (match k with | .tuple => some true | .exc _ => none | _ => some false)
  | .lst _ => (match k with | .list => some true | .exc _ => none | _ => some false)
  | .exc c => (match k with | .exc d => some (c.sub d) | _ => none)
  | .ref n => refK σ[n]? k
noncomputable def ev1 (o : P1) (σ : Sto) (a : V) : Option V :=
  match o with
  | .not => (truthy σ a).map fun b => .bool !b
  | .neg => match a with | .int i => some (.int (-i)) | _ => none
  | .abs => match a with | .int i => some (.int i.natAbs) | _ => none
  | .len => match a with
    | .str s => some (.int s.length)
    | .ref n => match σ[n]? with
      | some (.list xs) => some (.int xs.length)
      | _ => none
    | a => (itemsOf σ a).map fun xs => .int xs.length
  | .toList => (itemsOf σ a).map .lst
  | .toTup => (listOf? σ a).map .tup
  | .toInt => match a with
    | .bool b => some (.int (if b then 1 else 0))
    | .int i => some (.int i)
    | .str x => if x.length ≤ 640 then (intText? x).map .int else none
    | _ => none
  | .toStr => match a with | .int i => if 0 ≤ i ∧ i < 10 ^ 100 then some (.str (Str.ofString (toString i))) else none | _ => none
  | .sum => (listOf? σ a).bind fun xs => (ints? xs).map fun l => .int l.sum
  | .min => (listOf? σ a).bind fun xs => (ints? xs).bind fun l => (minL l).map .int
  | .max => (listOf? σ a).bind fun xs => (ints? xs).bind fun l => (maxL l).map .int
  | .all => (listOf? σ a).bind fun xs => (bools? xs).map fun l => .bool (l.all id)
  | .isNone => match a with | .undef => none | .none => some (.bool true) | _ => some (.bool false)
  | .isNotNone => match a with | .undef => none | .none => some (.bool false) | _ => some (.bool true)
  | .isInst k => (instK σ k a).map .bool
  | .count => (listOf? σ a).bind fun xs => (bools? xs).map fun l => .int (l.count true)
noncomputable def inV (σ : Sto) (a b : V) : Option Bool :=
  match a, b with
  | .str x, .str y => match codes x with
    | [c] => some ((codes y).contains c)
    | _ => none
  | .str x, .parts => some (partsTable.any fun p => p.1 == x)
  | .str x, b => (itemsOf σ b).bind fun xs => (strs? xs).map fun l => l.contains x
  | _, _ => none
noncomputable def joinV (σ : Sto) (a b : V) : Option V := (strOf? a).bind fun sep => (listOf? σ b).bind fun xs => (strs? xs).bind fun l =>
  if (l.map (·.length)).sum + l.length * sep.length ≤ 100000 then some (.str (Txt.join sep l)) else none
noncomputable def splitV (a b : V) : Option V := (strOf? a).bind fun s => (strOf? b).bind fun sep =>
  if (sep.length == 0) || decide (10000 < s.length) then none else some (.lst ((Txt.split s sep).map .str))
noncomputable def partV (a b : V) : Option V := (strOf? a).bind fun s => (strOf? b).bind fun sep =>
  if (sep.length == 0) || decide (10000 < s.length) then none else some (.tup [.str (Txt.partition s sep).1, .str (Txt.partition s sep).2.1, .str (Txt.partition s sep).2.2])
noncomputable def ev2 (o : P2) (σ : Sto) (a b : V) : Option V :=
  match o with
  | .add => match a, b with
    | .int x, .int y => some (.int (x + y))
    | .str x, .str y => if x.length + y.length ≤ 10000 then some (.str (x ++ y)) else none
    | .tup xs, .tup ys => if xs.length + ys.length ≤ LIM then some (.tup (xs ++ ys)) else none
    | a, b => (listOf? σ a).bind fun xs => (listOf? σ b).bind fun ys => if xs.length + ys.length ≤ LIM then some (.lst (xs ++ ys)) else none
  | .sub => match a, b with | .int x, .int y => some (.int (x - y)) | _, _ => none
  | .mul => match a, b with
    | .int x, .int y => if smallFactor x || smallFactor y then some (.int (x * y)) else none
    | _, _ => none
  | .fdiv => match a, b with | .int x, .int y => if y == 0 || 1073741824 ≤ y.natAbs then none else some (.int (x.fdiv y)) | _, _ => none
  | .mod => match a, b with | .int x, .int y => if y == 0 then none else some (.int (x.fmod y)) | _, _ => none
  | .pow => match a, b with | .int x, .int y => if x == 10 && 0 ≤ y && y ≤ 40 then some (.int (x ^ y.toNat)) else none | _, _ => none
  | .eq => (eqV σ a b).map .bool
  | .ne => (eqV σ a b).map fun r => .bool !r
  | .lt => match a, b with | .int x, .int y => some (.bool (x < y)) | _, _ => none
  | .le => match a, b with | .int x, .int y => some (.bool (x ≤ y)) | _, _ => none
  | .gt => match a, b with | .int x, .int y => some (.bool (x > y)) | _, _ => none
  | .ge => match a, b with | .int x, .int y => some (.bool (x ≥ y)) | _, _ => none
  | .isIn => (inV σ a b).map .bool
  | .notIn => (inV σ a b).map fun r => .bool !r
  | .index => match a, b with
    | .str s, .int i => (normIndex s.length i).bind fun k => (codes s)[k]?.map fun c => .str (mkS [c])
    | .parts, .str x => (partsTable.find? fun p => p.1 == x).map fun p => .int p.2
    | .ref n, .int i => match σ[n]? with
      | some (.list xs) => (normIndex xs.length i).bind fun k => xs[k]?
      | some (.dict es) => (es.find? fun p => p.1 == i).map fun p => p.2
      | _ => none
    | a, .int i => (itemsOf σ a).bind fun xs => (normIndex xs.length i).bind fun k => xs[k]?
    | _, _ => none
  | .min => match a, b with | .int x, .int y => some (.int (if y < x then y else x)) | _, _ => none
  | .max => match a, b with | .int x, .int y => some (.int (if y > x then y else x)) | _, _ => none
  | .join => joinV σ a b
  | .split => splitV a b
  | .partition => partV a b
  | .startswith => none
noncomputable def evSlice (σ : Sto) (a : V) (lo hi : Option Int) : Option V :=
  match a with
  | .tup xs => some (.tup (sliceL xs lo hi))
  | a => (listOf? σ a).map fun xs => .lst (sliceL xs lo hi)
inductive SK where
  | val | range1 | range2
  deriving DecidableEq
inductive CE where
  | lit (v : V)
  | var (i : Nat)
  | p1 (o : P1) (a : CE)
  | p2 (o : P2) (a b : CE)
  | chain (a : CE) (ops : List P2) (es : List CE)
  | slice (a : CE) (lo hi : Option CE)
  | and (a b : CE)
  | or (a b : CE)
  | tup (es : List CE)
  | list (es : List CE)
  | dict0
  | dict1 (k v : CE)
  | comp (elt : CE) (k : SK) (src : List CE) (cond : Option CE)
  | call (f : Nat) (args : List CE)
  | callm (f : Nat) (o : CE) (args : List CE)
  | new
  | attr (e : CE) (a : Nat)
  | append (l x : CE)
  | sm (o : P2) (a b : CE)
  | pop (l : CE)
  | clear (l : CE)
  | trk (e : CE)
inductive TK where
  | ret
  | asg (i : Nat)
  | exp
structure Hd where
  cls : Cls
  as : Option Nat
  tk : TK
  e : CE
inductive CS where
  | asg (i : Nat) (e : CE)
  | setItem (o i v : CE)
  | setAttr (o : CE) (a : Nat) (v : CE)
  | unpack3 (i j k : Nat) (e : CE)
  | ite (c : CE) (a b : List CS)
  | for (i : Nat) (k : SK) (src : List CE) (body : List CS)
  | while (c : CE) (body : List CS)
  | ret (e : CE)
  | exp (e : CE)
  | raise (c : Cls)
  | try (k : TK) (e : CE) (hs : List Hd)
  | pass
  | stuck
inductive Fl where
  | next (ρ : List V)
  | ret (v : V)
structure Fn where
  params : Nat
  slots : Nat
  body : List CS
noncomputable def readVar (ρ : List V) (i : Nat) : Option V :=
  match ρ[i]? with
  | none | some .undef => none
  | some v => some v
noncomputable def rangeL (lo hi : Int) : List V := (List.range (hi - lo).toNat).map fun (k : Nat) => V.int (lo + (k : Int))
inductive Items where
  | now (xs : List V)
  | live (n : Nat)
  | keys (n : Nat) (ks : List Int)
noncomputable def charsOf (x : Str) : List V := (codes x).map fun c => .str (mkS [c])
noncomputable def refItems (n : Nat) : Option O → Option Items
  | some (.list _) => some (.live n)
  | _ => none
noncomputable def valItems (σ : Sto) : V → Option Items
  | .tup xs => some (.now xs)
  | .lst xs => some (.now xs)
  | .ref n => refItems n σ[n]?
  | .str x => if x.cps.all (· < 128) then some (.now (charsOf x)) else none
  | _ => none
noncomputable def int1 (g : Int → Option Items) : V → Option Items
  | .int i => g i
  | _ => none
noncomputable def itemsBy (σ : Sto) (k : SK) : List V → Option Items
  | [] => none
  | [v] => (match k with
    | .range1 => int1 (fun n => if n.natAbs ≤ LIM then some (.now (rangeL 0 n)) else none) v
    | .val => valItems σ v
    | .range2 => none)
  | [v, w] => (match k with
    | .range2 => int1 (fun a => int1 (fun b => if 0 ≤ a && a ≤ LIM && b.natAbs ≤ LIM then some (.now (rangeL a b)) else none) w) v
    | _ => none)
  | _ => none
noncomputable def nextIt (σ : Sto) (it : Items) (i : Nat) : Option (Option V) :=
  match it with
  | .now xs => some xs[i]?
  | .live n => match σ[n]? with
    | some (.list xs) => some xs[i]?
    | _ => none
  | .keys n ks => match σ[n]? with
    | some (.dict es) => if es.map (·.1) = ks then some (ks[i]?.map .int) else none
    | _ => none
noncomputable def itFuel (σ : Sto) (it : Items) : Nat :=
  match it with
  | .now xs => xs.length + 1
  | .live n => match σ[n]? with
    | some (.list xs) => xs.length + 1
    | _ => 0
  | .keys _ ks => ks.length + 1
noncomputable def foldIt {β : Type} (it : Items) (f : V → β → Sto → R β) : Nat → Nat → β → Sto → R β
  | 0, _, _, _ => .stuck
  | fuel + 1, i, b, σ => match nextIt σ it i with
    | none => .stuck
    | some none => .ok b σ
    | some (some x) => (f x b σ).bind fun b σ => foldIt it f fuel (i + 1) b σ
noncomputable def foldItems {β : Type} (it : Items) (f : V → β → Sto → R β) (b : β) (σ : Sto) : R β := foldIt it f (itFuel σ it) 0 b σ
noncomputable def R.calm {α : Type} : R α → R α
  | .ok a σ => .ok a σ
  | _ => .stuck
noncomputable def isInst (σ : Sto) : V → Bool
  | .ref n => match σ[n]? with
    | some (.inst _) => true
    | _ => false
  | _ => false
noncomputable def isListV (σ : Sto) (v : V) : Bool := (listOf? σ v).isSome
noncomputable def setDict (es : List (Int × V)) (k : Int) (v : V) : List (Int × V) :=
  if es.any (fun p => p.1 == k) then es.map fun p => if p.1 == k then (k, v) else p else es ++ [(k, v)]
noncomputable def setObj (σ : Sto) (n : Nat) (k : Int) (v : V) : Option O → R Unit
  | some (.list xs) => if 0 ≤ k ∧ k.toNat < xs.length then .ok () (σ.set n (.list (xs.set k.toNat v))) else .stuck
  | some (.dict es) => if es.length < LIM then .ok () (σ.set n (.dict (setDict es k v))) else .stuck
  | _ => .stuck
noncomputable def doSetItem (σ : Sto) (o i v : V) : R Unit :=
  match o, i with
  | .ref n, .int k => setObj σ n k v σ[n]?
  | _, _ => .stuck
noncomputable def setAttrO (σ : Sto) (n a : Nat) (v : V) : Option O → R Unit
  | some (.inst es) => if a < 2 then .ok () (σ.set n (.inst ((a, v) :: es))) else .stuck
  | _ => .stuck
noncomputable def doSetAttr (σ : Sto) (o : V) (a : Nat) (v : V) : R Unit :=
  match o with
  | .ref n => setAttrO σ n a v σ[n]?
  | _ => .stuck
noncomputable def attrO (a : Nat) : Option O → Option V
  | some (.inst es) => es.lookup a
  | _ => none
noncomputable def doAttr (σ : Sto) (o : V) (a : Nat) : Option V :=
  match o with
  | .ref n => attrO a σ[n]?
  | _ => none
noncomputable def doAppend (σ : Sto) (o x : V) : R V :=
  match o with
  | .ref n => match σ[n]? with
    | some (.list xs) => if xs.length < LIM then .ok .none (σ.set n (.list (xs ++ [x]))) else .stuck
    | _ => .stuck
  | _ => .stuck
noncomputable def doPop (σ : Sto) (o : V) : R V :=
  match o with
  | .ref n => match σ[n]? with
    | some (.list xs) => match xs.getLast? with
      | some x => .ok x (σ.set n (.list xs.dropLast))
      | none => .stuck
    | _ => .stuck
  | _ => .stuck
noncomputable def doClear (σ : Sto) (o : V) : R V :=
  match o with
  | .ref n => match σ[n]? with
    | some (.list _) => .ok .none (σ.set n (.list []))
    | _ => .stuck
  | _ => .stuck
noncomputable def doTrk (σ : Sto) : V → R V
  | .lst xs => .ok (.ref σ.length) (σ ++ [.list xs])
  | _ => .stuck
noncomputable def dict1O (n : Nat) (σ : Sto) (k : Int) (v : V) : Option O → R V
  | some (.dict []) => .ok (.ref n) (σ.set n (.dict [(k, v)]))
  | _ => .stuck
noncomputable def doDict1 (n : Nat) (σ : Sto) (k v : V) : R V :=
  match k with
  | .int k => dict1O n σ k v σ[n]?
  | _ => .stuck
noncomputable def newEnd (n : Nat) : V → Sto → R V
  | .none, σ => .ok (.ref n) σ
  | _, _ => .stuck
noncomputable abbrev Calls := Nat → List V → Sto → R V
noncomputable def loud1 : P1 → Bool
  | .sum | .min | .max | .all => true
  | _ => false
noncomputable def loud2 : P2 → Bool
  | .min | .max | .join => true
  | _ => false
mutual
noncomputable def evE (F : Calls) (q : Bool) : CE → List V → Sto → R V
  | .lit v, _, σ => .ok v σ
  | .var i, ρ, σ => R.lift σ (readVar ρ i)
  | .p1 o a, ρ, σ => if loud1 o && q then .stuck else (evE F q a ρ σ).bind fun a σ => R.lift σ (ev1 o σ a)
  | .p2 o a b, ρ, σ => if loud2 o && q then .stuck else (evE F q a ρ σ).bind fun a σ => (evE F q b ρ σ).bind fun b σ => R.lift σ (ev2 o σ a b)
  | .chain a ops es, ρ, σ => (evE F q a ρ σ).bind fun a σ => evChain F q ops es a ρ σ
  | .slice a lo hi, ρ, σ => (evE F q a ρ σ).bind fun a σ => (evO F q lo ρ σ).bind fun lo σ => (evO F q hi ρ σ).bind fun hi σ => R.lift σ (evSlice σ a lo hi)
  | .and a b, ρ, σ => (evE F q a ρ σ).bind fun a σ => (R.lift σ (truthy σ a)).bind fun t σ => if t then evE F q b ρ σ else .ok a σ
  | .or a b, ρ, σ => (evE F q a ρ σ).bind fun a σ => (R.lift σ (truthy σ a)).bind fun t σ => if t then .ok a σ else evE F q b ρ σ
  | .tup es, ρ, σ => (evL F q es ρ σ).bind fun vs σ => .ok (.tup vs) σ
  | .list es, ρ, σ => (evL F q es ρ σ).bind fun vs σ => .ok (.lst vs) σ
  | .dict0, _, σ => .ok (.ref σ.length) (σ ++ [.dict []])
  | .dict1 k v, ρ, σ => (evE F q k ρ (σ ++ [.dict []])).bind fun a σ₁ => (evE F q v ρ σ₁).bind fun b σ₂ => doDict1 σ.length σ₂ a b
  | .comp elt k src cond, ρ, σ => if q then .stuck else (evL F q src ρ σ).bind fun vs σ => (R.lift σ (itemsBy σ k vs)).bind fun it σ =>
      (foldItems it (fun x acc σ => (evC F q cond (ρ ++ [x]) σ).calm.bind fun t σ => if t then (evE F q elt (ρ ++ [x]) σ).calm.bind fun y σ => (if acc.length < LIM then .ok (acc ++ [y]) σ else .stuck) else .ok acc σ) [] σ).bind fun acc σ => .ok (.lst acc) σ
  | .call f args, ρ, σ => (evL F q args ρ σ).bind fun vs σ => F f vs σ
  | .callm f o args, ρ, σ => (evE F q o ρ σ).bind fun o σ => if isInst σ o then (evL F q args ρ σ).bind fun vs σ => F f (o :: vs) σ else .stuck
  | .new, _, σ => (F 0 [.ref σ.length] (σ ++ [.inst []])).bind (newEnd σ.length)
  | .attr e a, ρ, σ => (evE F q e ρ σ).bind fun o σ => R.lift σ (doAttr σ o a)
  | .sm o a b, ρ, σ => (evE F q a ρ σ).bind fun a σ => if (strOf? a).isSome then (evE F q b ρ σ).bind fun b σ => R.lift σ (ev2 o σ a b) else .stuck
  | .append l x, ρ, σ => (evE F q l ρ σ).bind fun o σ => if isListV σ o then (evE F q x ρ σ).bind fun x σ => doAppend σ o x else .stuck
  | .pop l, ρ, σ => (evE F q l ρ σ).bind fun o σ => doPop σ o
  | .clear l, ρ, σ => (evE F q l ρ σ).bind fun o σ => doClear σ o
  | .trk e, ρ, σ => (evE F q e ρ σ).bind fun v σ => doTrk σ v
noncomputable def evL (F : Calls) (q : Bool) : List CE → List V → Sto → R (List V)
  | [], _, σ => .ok [] σ
  | e :: es, ρ, σ => (evE F q e ρ σ).bind fun v σ => (evL F q es ρ σ).bind fun vs σ => .ok (v :: vs) σ
noncomputable def evO (F : Calls) (q : Bool) : Option CE → List V → Sto → R (Option Int)
  | none, _, σ => .ok none σ
  | some e, ρ, σ => (evE F q e ρ σ).bind fun v σ => match v with
    | .int i => .ok (some i) σ
    | _ => .stuck
noncomputable def evC (F : Calls) (q : Bool) : Option CE → List V → Sto → R Bool
  | none, _, σ => .ok true σ
  | some e, ρ, σ => (evE F q e ρ σ).bind fun v σ => R.lift σ (truthy σ v)
noncomputable def evChain (F : Calls) (q : Bool) : List P2 → List CE → V → List V → Sto → R V
  | [op], [e], a, ρ, σ => if loud2 op && q then .stuck else (evE F q e ρ σ).bind fun b σ => R.lift σ (ev2 op σ a b)
  | op :: ops, e :: es, a, ρ, σ => if loud2 op && q then .stuck else (evE F q e ρ σ).bind fun b σ => (R.lift σ (ev2 op σ a b)).bind fun c σ => (R.lift σ (truthy σ c)).bind fun t σ => if t then evChain F q ops es b ρ σ else .ok c σ
  | _, _, _, _, _ => .stuck
end
noncomputable def whileL (c : List V → Sto → R Bool) (b : List V → Sto → R Fl) : Nat → List V → Sto → R Fl
  | 0, _, _ => .stuck
  | n + 1, ρ, σ => (c ρ σ).bind fun t σ => if t then (b ρ σ).bind fun fl σ => match fl with
      | .next ρ => whileL c b n ρ σ
      | .ret v => .ok (.ret v) σ
    else .ok (.next ρ) σ
noncomputable def forIt (it : Items) (f : V → List V → Sto → R Fl) : Nat → Nat → List V → Sto → R Fl
  | 0, _, _, _ => .stuck
  | fuel + 1, i, ρ, σ => match nextIt σ it i with
    | none => .stuck
    | some none => .ok (.next ρ) σ
    | some (some x) => (f x ρ σ).bind fun fl σ => match fl with
      | .next ρ => forIt it f fuel (i + 1) ρ σ
      | .ret v => .ok (.ret v) σ
noncomputable def forItems (it : Items) (f : V → List V → Sto → R Fl) (ρ : List V) (σ : Sto) : R Fl := forIt it f (itFuel σ it) 0 ρ σ
noncomputable def R.orElse {α β : Type} (r : R α) (f : α → Sto → R β) (g : Cls → Sto → R β) : R β :=
  match r with
  | .ok a σ => f a σ
  | .exc c σ => g c σ
  | .stuck => .stuck
noncomputable def tkFl (k : TK) (v : V) (ρ : List V) : Fl :=
  match k with
  | .ret => .ret v
  | .asg i => .next (ρ.set i v)
  | .exp => .next ρ
noncomputable def Fl.unset (i : Nat) : Fl → Fl
  | .next ρ => .next (ρ.set i .undef)
  | .ret v => .ret v
noncomputable def hdEnv (as : Option Nat) (c : Cls) (ρ : List V) : List V :=
  match as with
  | none => ρ
  | some i => ρ.set i (.exc c)
noncomputable def hdEnd (as : Option Nat) (fl : Fl) : Fl :=
  match as with
  | none => fl
  | some i => fl.unset i
noncomputable def exH (Fq : Calls) : List Hd → List V → Cls → Sto → R Fl
  | [], _, _, _ => .stuck
  | h :: hs, ρ, c, σ => if c.sub h.cls then ((evE Fq true h.e (hdEnv h.as c ρ) σ).calm.bind fun v σ => .ok (hdEnd h.as (tkFl h.tk v (hdEnv h.as c ρ))) σ) else exH Fq hs ρ c σ
noncomputable def wFuel : Nat := 100000
mutual
noncomputable def exS (F Fq : Calls) (q : Bool) : CS → List V → Sto → R Fl
  | .asg i e, ρ, σ => (evE F q e ρ σ).bind fun v σ => .ok (.next (ρ.set i v)) σ
  | .setItem o i v, ρ, σ => (evE F q v ρ σ).bind fun v σ => (evE F q o ρ σ).bind fun o σ => (evE F q i ρ σ).bind fun i σ => (doSetItem σ o i v).bind fun _ σ => .ok (.next ρ) σ
  | .setAttr o a v, ρ, σ => (evE F q v ρ σ).bind fun v σ => (evE F q o ρ σ).bind fun o σ => (doSetAttr σ o a v).bind fun _ σ => .ok (.next ρ) σ
  | .unpack3 i j k e, ρ, σ => if q then .stuck else (evE F q e ρ σ).bind fun v σ => match v with
    | .tup [x, y, z] => .ok (.next (((ρ.set i x).set j y).set k z)) σ
    | _ => .stuck
  | .ite c a b, ρ, σ => (evE F q c ρ σ).bind fun v σ => (R.lift σ (truthy σ v)).bind fun t σ => if t then exL F Fq q a ρ σ else exL F Fq q b ρ σ
  | .for i k src body, ρ, σ => if q then .stuck else (evL F q src ρ σ).bind fun vs σ => (R.lift σ (itemsBy σ k vs)).bind fun it σ =>
      forItems it (fun x ρ σ => (exL F Fq q body (ρ.set i x) σ).calm) ρ σ
  | .while c body, ρ, σ => if q then .stuck else whileL (fun ρ σ => ((evE F q c ρ σ).bind fun v σ => R.lift σ (truthy σ v)).calm) (fun ρ σ => (exL F Fq q body ρ σ).calm) wFuel ρ σ
  | .ret e, ρ, σ => (evE F q e ρ σ).bind fun v σ => .ok (.ret v) σ
  | .exp e, ρ, σ => (evE F q e ρ σ).bind fun _ σ => .ok (.next ρ) σ
  | .raise c, _, σ => if q then .stuck else .exc c σ
  | .try k e hs, ρ, σ => if q then .stuck else (evE F q e ρ σ).orElse (fun v σ => .ok (tkFl k v ρ) σ) (exH Fq hs ρ)
  | .pass, ρ, σ => .ok (.next ρ) σ
  | .stuck, _, _ => .stuck
noncomputable def exL (F Fq : Calls) (q : Bool) : List CS → List V → Sto → R Fl
  | [], ρ, σ => .ok (.next ρ) σ
  | s :: ss, ρ, σ => (exS F Fq q s ρ σ).bind fun fl σ => match fl with
    | .next ρ => exL F Fq q ss ρ σ
    | .ret v => .ok (.ret v) σ
end
noncomputable def fnEnd : Fl → Sto → R V
  | .ret v, σ => .ok v σ
  | .next _, σ => .ok .none σ
noncomputable def callFn (T : Nat → Option Fn) : Nat → Bool → Calls
  | 0, _, _, _, _ => .stuck
  | d + 1, q, f, args, σ => match T f with
    | none => .stuck
    | some fn => if args.length = fn.params then
        (exL (callFn T d q) (callFn T d true) q fn.body (args ++ List.replicate (fn.slots - fn.params) .undef) σ).bind fnEnd
      else .stuck
end Mine
end

/-! # Comp -/
section
set_option autoImplicit false
namespace Mine
theorem zAA {α : Type} {x : α} {P : Prop} (h : none = some x) : P := nomatch h
theorem ff_tt {P : Prop} (h : false = true) : P := nomatch h
open PySem
structure Ctx where
  fns : List (Str × Nat)
  meths : List (Str × Nat)
  consts : List (Str × V)
  excs : List (Str × Cls)
  attrs : List (Str × Nat)
  book : Bool
  trks : List (Nat × Nat × Nat)
noncomputable def kindNames : List (Str × Kd) := [("int", .int), ("bool", .bool), ("str", .str), ("list", .list), ("tuple", .tuple)]
noncomputable def kindOf? (C : Ctx) (x : Str) : Option Kd := if (C.fns.lookup x).isSome then none else kindNames.lookup x
noncomputable def attrNames : List (Str × Nat) := [("entries", 0), ("history", 1)]
noncomputable def lastIdx (x : Str) : List Str → Option Nat
  | [] => none
  | y :: ys => match lastIdx x ys with
    | some i => some (i + 1)
    | none => if y == x then some 0 else none
noncomputable def isVar (sc : Scope) (x : Str) : Bool := match sc.names.lookup x with
  | some .local | some .cell | some .free => true
  | _ => false
noncomputable def isGlob (sc : Scope) (x : Str) : Bool := sc.names.lookup x == some .globalImplicit
noncomputable def cmpOf : CmpOp → Option P2
  | .Eq => some .eq | .NotEq => some .ne | .Lt => some .lt | .LtE => some .le | .Gt => some .gt | .GtE => some .ge
  | .In => some .isIn | .NotIn => some .notIn | _ => none
noncomputable def binOf : Operator → Option P2
  | .Add => some .add | .Sub => some .sub | .Mult => some .mul | .FloorDiv => some .fdiv | .Mod => some .mod
  | .Pow => some .pow
  | _ => none
noncomputable def b1Names : List (Str × P1) := [("len", .len),
  ("int", .toInt),
  ("all", .all), ("list", .toList), ("tuple", .toTup), ("sum", .sum)]
noncomputable def b2Names : List (Str × P2) := [("min", .min), ("max", .max)]
noncomputable def m1Names : List (Str × P2) := [("join", .join)
  ]
noncomputable def trkAt (C : Ctx) (p : Pos) (e : CE) : CE := if C.trks.contains (p.line, p.col, p.endCol) then .trk e else e
noncomputable def foldBool (isAnd : Bool) : List CE → Option CE
  | [] => none
  | [e] => some e
  | e :: es => (foldBool isAnd es).map fun r => if isAnd then .and e r else .or e r
noncomputable def cName (C : Ctx) (Γ : List Str) (sc : Scope) (x : Str) : Option CE :=
  if x == ("__debug__" : Str) || x == ("__classdict__" : Str) then none else if isVar sc x then (lastIdx x Γ).map .var else if isGlob sc x then (C.consts.lookup x).map .lit else none
noncomputable def dot0 : Str := ".0"
noncomputable def compOk (Γ : List Str) (sc scope : Scope) (x : Str) : Bool :=
  scope.kind == .function && scope.names.lookup x == some .local && !Γ.contains dot0 && x != dot0 &&
    scope.names.all fun p => match p.2 with
      | .cell => false
      | .local => (p.1 == x || p.1 == dot0) && scope.names.lookup p.1 == some .local
      | .free => sc.names.lookup p.1 == some .cell || sc.names.lookup p.1 == some .free
      | _ => true
inductive EV where
  | non
  | str (s : Str)
  | name (x : Str)
  | call (f : Expr) (a : List Expr) (k : List Keyword)
  | slice (lo hi : Option Expr)
  | attr (o : Expr) (m : Str) (p : Pos)
  | sub (o i : Expr)
  | star
  | lcomp
  | other
noncomputable def eview : Expr → EV
  | .Constant .none _ _ => .non
  | .Constant (.str s) _ _ => .str s
  | .Name x _ => .name x
  | .Call f a k _ => .call f a k
  | .Slice lo hi none _ => .slice lo hi
  | .Attribute o m p => .attr o m p
  | .Subscript o i _ => .sub o i
  | .Starred .. => .star
  | .ListComp .. => .lcomp
  | _ => .other
noncomputable def EVOk (e : Expr) : EV → Prop
  | .non => ∃ k p, e = .Constant .none k p
  | .str s => ∃ k p, e = .Constant (.str s) k p
  | .name x => ∃ p, e = .Name x p
  | .call f a k => ∃ p, e = .Call f a k p
  | .slice lo hi => ∃ p, e = .Slice lo hi none p
  | .attr o m p => e = .Attribute o m p
  | .sub o i => ∃ p, e = .Subscript o i p
  | _ => True
theorem zBm (e : Expr) : EVOk e (eview e) := by
  cases e with
  | Constant k n p =>
    cases k with
    | none => exact ⟨_, _, rfl⟩
    | str s => exact ⟨_, _, rfl⟩
    | _ => exact True.intro
  | Name x p => exact ⟨_, rfl⟩
  | Call f a k p => exact ⟨_, rfl⟩
  | Slice lo hi st p =>
    cases st with
    | none => exact ⟨_, rfl⟩
    | some _ => exact True.intro
  | Attribute o m p => exact (rfl : Expr.Attribute o m p = .Attribute o m p)
  | Subscript o i p => exact ⟨_, rfl⟩
  | _ => exact True.intro
noncomputable def EV.isNon : EV → Bool
  | .non => true
  | _ => false
noncomputable def EV.str? : EV → Option Str
  | .str s => some s
  | _ => none
noncomputable def EV.name? : EV → Option Str
  | .name x => some x
  | _ => none
noncomputable def EV.call? : EV → Option (Expr × List Expr × List Keyword)
  | .call f a k => some (f, a, k)
  | _ => none
noncomputable def EV.slice? : EV → Option (Option Expr × Option Expr)
  | .slice l h => some (l, h)
  | _ => none
noncomputable def EV.attr? : EV → Option (Expr × Str × Pos)
  | .attr o m p => some (o, m, p)
  | _ => none
noncomputable def EV.sub? : EV → Option (Expr × Expr)
  | .sub o i => some (o, i)
  | _ => none
noncomputable def EV.isStar : EV → Bool
  | .star => true
  | _ => false
noncomputable def EV.isComp : EV → Bool
  | .lcomp => true
  | _ => false
noncomputable def EV.noSuper : EV → Bool
  | .call f [] [] => (eview f).name?.isNone
  | _ => true
noncomputable def isStar (e : Expr) : Bool := (eview e).isStar
noncomputable def isComp (e : Expr) : Bool := (eview e).isComp
noncomputable def noSuper (e : Expr) : Bool := (eview e).noSuper
noncomputable def nameOf? (e : Expr) : Option Str := (eview e).name?
noncomputable def callParts? (e : Expr) : Option (Expr × List Expr × List Keyword) := (eview e).call?
noncomputable def sliceParts? (e : Expr) : Option (Option Expr × Option Expr) := (eview e).slice?
noncomputable def attrParts? (e : Expr) : Option (Expr × Str × Pos) := (eview e).attr?
noncomputable def subParts? (e : Expr) : Option (Expr × Expr) := (eview e).sub?
noncomputable def strC? (e : Expr) : Option Str := (eview e).str?
theorem nameOf?_eq {e : Expr} {x : Str} (h : nameOf? e = some x) : ∃ p, e = .Name x p := by
  have hv := zBm e
  have h : (eview e).name? = some x := h
  generalize eview e = v at hv h
  cases v with
  | name => cases h; exact hv
  | _ => exact zAA h
theorem callParts?_eq {e fn : Expr} {args : List Expr} {kws : List Keyword} (h : callParts? e = some (fn, args, kws)) : ∃ p, e = .Call fn args kws p := by
  have hv := zBm e
  have h : (eview e).call? = some _ := h
  generalize eview e = v at hv h
  cases v with
  | call => cases h; exact hv
  | _ => exact zAA h
theorem sliceParts?_eq {e : Expr} {lo hi : Option Expr} (h : sliceParts? e = some (lo, hi)) : ∃ p, e = .Slice lo hi none p := by
  have hv := zBm e
  have h : (eview e).slice? = some _ := h
  generalize eview e = v at hv h
  cases v with
  | slice => cases h; exact hv
  | _ => exact zAA h
theorem attrParts?_eq {e o : Expr} {m : Str} {p : Pos} (h : attrParts? e = some (o, m, p)) : e = .Attribute o m p := by
  have hv := zBm e
  have h : (eview e).attr? = some _ := h
  generalize eview e = v at hv h
  cases v with
  | attr => cases h; exact hv
  | _ => exact zAA h
theorem subParts?_eq {e : Expr} {p : Expr × Expr} (h : subParts? e = some p) : ∃ q, e = .Subscript p.1 p.2 q := by
  have hv := zBm e
  have h : (eview e).sub? = some _ := h
  generalize eview e = v at hv h
  cases v with
  | sub => cases h; exact hv
  | _ => exact zAA h
theorem strC?_eq {e : Expr} {s : Str} (h : strC? e = some s) : ∃ k p, e = .Constant (.str s) k p := by
  have hv := zBm e
  have h : (eview e).str? = some _ := h
  generalize eview e = v at hv h
  cases v with
  | str => cases h; exact hv
  | _ => exact zAA h
section
variable (C : Ctx) (rec : List Str → Scope → Expr → Option CE)
noncomputable def cL (Γ : List Str) (sc : Scope) : List Expr → Option (List CE)
  | [] => some []
  | e :: es => if isStar e then none else (rec Γ sc e).bind fun a => (cL Γ sc es).map fun as => a :: as
noncomputable def cOpt (Γ : List Str) (sc : Scope) : Option Expr → Option (Option CE)
  | none => some none
  | some e => (rec Γ sc e).map some
noncomputable def cIf (Γ : List Str) (sc : Scope) : List Expr → Option (Option CE)
  | [] => some none
  | [e] => (rec Γ sc e).map some
  | _ => none
noncomputable def cConst : Const → Option CE
  | .none => some (.lit .none)
  | .bool b => some (.lit (.bool b))
  | .int i => some (.lit (.int i))
  | .str s => if s.length ≤ 1000 && PyData.strOk s then some (.lit (.str s)) else none
  | _ => none
noncomputable def cCmp (Γ : List Str) (sc : Scope) (a : Expr) (ops : List CmpOp) (cs : List Expr) : Option CE :=
  if ops.length != cs.length then none else match cs, ops with
    | [b], [op] =>
      (cmpOf op).bind fun o => (rec Γ sc a).bind fun x => (rec Γ sc b).map fun y => .p2 o x y
    | cs, ops => (ops.mapM cmpOf).bind fun os => (rec Γ sc a).bind fun x => (cL rec Γ sc cs).map fun ys => .chain x os ys
noncomputable def cSrc (Γ : List Str) (sc : Scope) (e : Expr) : Option (SK × List CE) :=
  match callParts? e with
  | some (fn, args, kws) => (match nameOf? fn with
    | some f => if f == ("range" : Str) then (if isGlob sc f && kws.isEmpty then (cL rec Γ sc args).bind fun es => (match es with
        | [a] => some (.range1, [a])
        | _ => none) else none)
      else (rec Γ sc e).map fun a => (.val, [a])
    | none => (rec Γ sc e).map fun a => (.val, [a]))
  | none => (rec Γ sc e).map fun a => (.val, [a])
noncomputable def cComp (Γ : List Str) (sc : Scope) (elt : Expr) (gens : List Comprehension) (scope : Scope) : Option CE :=
  match gens with
  | [g] => (nameOf? g.target).bind fun x =>
      if g.is_async != 0 || !compOk Γ sc scope x then none else (cSrc rec Γ sc g.iter).bind fun s => (cIf rec (Γ ++ [x]) scope g.ifs).bind fun c => (rec (Γ ++ [x]) scope elt).map fun e => .comp e s.1 s.2 c
  | _ => none
noncomputable def cSub (Γ : List Str) (sc : Scope) (o i : Expr) (pos : Pos) : Option CE :=
  match sliceParts? i with
  | some (lo, hi) => (rec Γ sc o).bind fun a => (cOpt rec Γ sc lo).bind fun l => (cOpt rec Γ sc hi).map fun h => trkAt C pos (.slice a l h)
  | none => (rec Γ sc o).bind fun a => (rec Γ sc i).map fun b => .p2 .index a b
noncomputable def cMethB (Γ : List Str) (sc : Scope) (o : Expr) (m : Str) (args : List Expr) : Option CE :=
  match args with
  | [x] => if isStar x then none else if m == ("append" : Str) then (rec Γ sc o).bind fun a => (rec Γ sc x).map fun b => .append a b
    else (m1Names.lookup m).bind fun p => (rec Γ sc o).bind fun a => (rec Γ sc x).map fun b => .sm p a b
  | _ => none
noncomputable def cMeth (Γ : List Str) (sc : Scope) (o : Expr) (m : Str) (apos : Pos) (args : List Expr) (pos : Pos) : Option CE :=
  if !noSuper o || apos.endLine != pos.line then none else match C.meths.lookup m with
    | some n => (rec Γ sc o).bind fun a => (cL rec Γ sc args).map fun es => .callm n a es
    | none => cMethB rec Γ sc o m args
noncomputable def cIsinst (Γ : List Str) (sc : Scope) (args : List Expr) : Option CE :=
  match args with
  | [x, k] => if isStar x then none else (nameOf? k).bind fun kn => if isGlob sc kn then (kindOf? C kn).bind fun kd => (rec Γ sc x).map fun a => .p1 (.isInst kd) a else none
  | _ => none
noncomputable def cFun (Γ : List Str) (sc : Scope) (f : Str) (args : List Expr) (pos : Pos) : Option CE :=
  if !isGlob sc f then none
  else if f == ("isinstance" : Str) then cIsinst C rec Γ sc args
  else (cL rec Γ sc args).bind fun es => match C.fns.lookup f with
    | some n => some (.call n es)
    | none => if C.book && f == ("Book" : Str) then (if es.isEmpty then some .new else none) else (match es with
      | [a] => (b1Names.lookup f).map fun o => if f == ("list" : Str) then trkAt C pos (.p1 o a) else .p1 o a
      | [a, b] => (b2Names.lookup f).map fun o => .p2 o a b
      | _ => none)
noncomputable def cCall (Γ : List Str) (sc : Scope) (fn : Expr) (args : List Expr) (kws : List Keyword) (pos : Pos) : Option CE :=
  if !kws.isEmpty || 20 < args.length then none else match attrParts? fn with
    | some (o, m, apos) => cMeth C rec Γ sc o m apos args pos
    | none => (nameOf? fn).bind fun f => cFun C rec Γ sc f args pos
noncomputable def cDictA (Γ : List Str) (sc : Scope) (v : Expr) : Option Expr → Option CE
  | some k => (rec Γ sc k).bind fun a => (rec Γ sc v).map fun b => .dict1 a b
  | none => none
noncomputable def cDict (Γ : List Str) (sc : Scope) (ks : List (Option Expr)) : List Expr → Option CE
  | [] => if ks.isEmpty then some .dict0 else none
  | v :: vs => if vs.isEmpty then (match ks with
    | [k] => cDictA rec Γ sc v k
    | _ => none) else none
noncomputable def stepE (Γ : List Str) (sc : Scope) : Expr → Option CE
  | .Constant k _ _ => cConst k
  | .Name x _ => cName C Γ sc x
  | .BoolOp op vs _ => (cL rec Γ sc vs).bind fun es => foldBool (op == .And) es
  | .BinOp l op r pos => (binOf op).bind fun o => (rec Γ sc l).bind fun a => (rec Γ sc r).map fun b => trkAt C pos (.p2 o a b)
  | .UnaryOp .Not x _ => (rec Γ sc x).map (.p1 .not)
  | .UnaryOp .USub x _ => (rec Γ sc x).map (.p1 .neg)
  | .Compare a ops cs _ => cCmp rec Γ sc a ops cs
  | .List es pos => if es.length ≤ 1000 then (cL rec Γ sc es).map fun es => trkAt C pos (.list es) else none
  | .Tuple es _ _ => if es.length ≤ 1000 then (cL rec Γ sc es).map .tup else none
  | .ListComp elt gens scope pos => (cComp rec Γ sc elt gens scope).map fun e => trkAt C pos e
  | .Subscript o i pos => cSub C rec Γ sc o i pos
  | .Call fn args kws pos => cCall C rec Γ sc fn args kws pos
  | .Attribute o m _ => (C.attrs.lookup m).bind fun k => if noSuper o then (rec Γ sc o).map fun a => .attr a k else none
  | .Dict ks vs _ => cDict rec Γ sc ks vs
  | _ => none
end
noncomputable def cE (C : Ctx) : Nat → List Str → Scope → Expr → Option CE
  | 0 => fun _ _ _ => none
  | n + 1 => stepE C (cE C n)
noncomputable def deep : Nat := 30
noncomputable def slotOf (Γ : List Str) (sc : Scope) (x : Str) : Option Nat := if sc.names.lookup x == some .local || sc.names.lookup x == some .cell then lastIdx x Γ else none
section
variable (C : Ctx) (Γ : List Str) (sc : Scope) (rec : Stmt → CS)
noncomputable def cAsgA (t e : Expr) : Option CS :=
  match attrParts? t with
  | some p => (C.attrs.lookup p.2.1).bind fun k => if isComp e then none else (cE C deep Γ sc e).bind fun v => (cE C deep Γ sc p.1).map fun b => .setAttr b k v
  | none => none
noncomputable def cAsg (t e : Expr) : Option CS :=
  match nameOf? t with
  | some x => (slotOf Γ sc x).bind fun i => (cE C deep Γ sc e).map (.asg i)
  | none => (match subParts? t with
    | some p => if isComp e then none else (cE C deep Γ sc e).bind fun v => (cE C deep Γ sc p.1).bind fun a => (cE C deep Γ sc p.2).map fun b => .setItem a b v
    | none => cAsgA C Γ sc t e)
noncomputable def cTKr : Option Expr → Option (TK × CE)
  | some e => (cE C deep Γ sc e).map fun c => (.ret, c)
  | none => none
noncomputable def cTKa (e : Expr) : List Expr → Option (TK × CE)
  | [t] => if isComp e then none else (nameOf? t).bind fun x => (slotOf Γ sc x).bind fun i => (cE C deep Γ sc e).map fun c => (.asg i, c)
  | _ => none
noncomputable def cTK1 : Stmt → Option (TK × CE)
  | .Return v _ => cTKr C Γ sc v
  | .Assign ts e _ => cTKa C Γ sc e ts
  | .Expr e _ => if isComp e then none else (cE C deep Γ sc e).map fun c => (.exp, c)
  | _ => none
noncomputable def cTK : List Stmt → Option (TK × CE)
  | [s] => cTK1 C Γ sc s
  | _ => none
noncomputable def excOf (x : Str) : Option Cls := if isGlob sc x && x != ("__debug__" : Str) && x != ("ValueError" : Str) then C.excs.lookup x else none
noncomputable def cAs : Option Str → Option (Option Nat)
  | none => some none
  | some n => if sc.names.lookup n == some .local then (slotOf Γ sc n).bind fun _ => none else none
noncomputable def cHd : ExceptHandler → Option Hd
  | .ExceptHandler (some t) n body _ => (nameOf? t).bind fun x => (excOf C sc x).bind fun k => (cAs Γ sc n).bind fun as => (cTK C Γ sc body).map fun p => ⟨k, as, p.1, p.2⟩
  | _ => none
noncomputable def cHds : List ExceptHandler → Option (List Hd)
  | [] => some []
  | h :: hs => (cHd C Γ sc h).bind fun a => (cHds hs).map fun as => a :: as
noncomputable def cRaiseA (fn : Expr) (kws : List Keyword) : List Expr → Option CS
  | [x] => if kws.isEmpty then (strC? x).bind fun s => (nameOf? fn).bind fun f => if s.length ≤ 1000 && PyData.strOk s then (excOf C sc f).map .raise else none else none
  | _ => none
noncomputable def cRaise (e : Expr) : Option CS := (callParts? e).bind fun p => cRaiseA C sc p.1 p.2.2 p.2.1
noncomputable def stepS : Stmt → Option CS
  | .Return (some e) _ => (cE C deep Γ sc e).map .ret
  | .Assign [t] e _ => cAsg C Γ sc t e
  | .If t a b _ => (cE C deep Γ sc t).map fun t => .ite t (a.map rec) (b.map rec)
  | .For x iter body [] _ => (nameOf? x).bind fun x => (slotOf Γ sc x).bind fun i => (cSrc (cE C deep) Γ sc iter).map fun s => .for i s.1 s.2 (body.map rec)
  | .Expr e _ => if isComp e then none else (cE C deep Γ sc e).map .exp
  | .Pass _ => some .pass
  | .Raise (some e) none _ => cRaise C sc e
  | .Try body (h :: hs) [] [] _ => (cTK C Γ sc body).bind fun p => (cHds C Γ sc (h :: hs)).map fun hs => .try p.1 p.2 hs
  | _ => none
end
noncomputable def cS (C : Ctx) (Γ : List Str) (sc : Scope) : Nat → Stmt → CS
  | 0 => fun _ => .stuck
  | n + 1 => fun s => (stepS C Γ sc (cS C Γ sc n) s).getD .stuck
noncomputable def cSL (C : Ctx) (Γ : List Str) (sc : Scope) (l : List Stmt) : List CS := l.map (cS C Γ sc deep)
noncomputable def slotsOf (params : List Str) (sc : Scope) : List Str :=
  params ++ (sc.names.filter fun p => (p.2 == .local || p.2 == .cell) && !params.contains p.1).map (·.1)
end Mine
end

/-! # Xl -/
section
set_option autoImplicit false
namespace Mine
open PySem
section
variable (F Fq : Calls) (q : Bool) (ρ : List V) (σ : Sto)
@[simp] theorem x_lit (v : V) : evE F q (.lit v) ρ σ = .ok v σ := id rfl
@[simp] theorem x_var (i : Nat) : evE F q (.var i) ρ σ = R.lift σ (readVar ρ i) := id rfl
@[simp] theorem x_p1 (o : P1) (a : CE) : evE F q (.p1 o a) ρ σ = if loud1 o && q then .stuck else (evE F q a ρ σ).bind fun a σ => R.lift σ (ev1 o σ a) := id rfl
@[simp] theorem x_p2 (o : P2) (a b : CE) : evE F q (.p2 o a b) ρ σ = if loud2 o && q then .stuck else (evE F q a ρ σ).bind fun a σ => (evE F q b ρ σ).bind fun b σ => R.lift σ (ev2 o σ a b) := id rfl
@[simp] theorem x_chain (a : CE) (ops : List P2) (es : List CE) : evE F q (.chain a ops es) ρ σ = (evE F q a ρ σ).bind fun a σ => evChain F q ops es a ρ σ := id rfl
@[simp] theorem x_slice (a : CE) (lo hi : Option CE) : evE F q (.slice a lo hi) ρ σ = (evE F q a ρ σ).bind fun a σ => (evO F q lo ρ σ).bind fun lo σ => (evO F q hi ρ σ).bind fun hi σ => R.lift σ (evSlice σ a lo hi) := id rfl
@[simp] theorem x_and (a b : CE) : evE F q (.and a b) ρ σ = (evE F q a ρ σ).bind fun a σ => (R.lift σ (truthy σ a)).bind fun t σ => if t then evE F q b ρ σ else .ok a σ := id rfl
@[simp] theorem x_or (a b : CE) : evE F q (.or a b) ρ σ = (evE F q a ρ σ).bind fun a σ => (R.lift σ (truthy σ a)).bind fun t σ => if t then .ok a σ else evE F q b ρ σ := id rfl
@[simp] theorem x_tup (es : List CE) : evE F q (.tup es) ρ σ = (evL F q es ρ σ).bind fun vs σ => .ok (.tup vs) σ := id rfl
@[simp] theorem x_list (es : List CE) : evE F q (.list es) ρ σ = (evL F q es ρ σ).bind fun vs σ => .ok (.lst vs) σ := id rfl
@[simp] theorem x_call (f : Nat) (args : List CE) : evE F q (.call f args) ρ σ = (evL F q args ρ σ).bind fun vs σ => F f vs σ := id rfl
@[simp] theorem x_sm (o : P2) (a b : CE) : evE F q (.sm o a b) ρ σ = (evE F q a ρ σ).bind fun a σ => if (strOf? a).isSome then (evE F q b ρ σ).bind fun b σ => R.lift σ (ev2 o σ a b) else .stuck := id rfl
@[simp] theorem x_append (l x : CE) : evE F q (.append l x) ρ σ = (evE F q l ρ σ).bind fun o σ => if isListV σ o then (evE F q x ρ σ).bind fun x σ => doAppend σ o x else .stuck := id rfl
@[simp] theorem x_trk (e : CE) : evE F q (.trk e) ρ σ = (evE F q e ρ σ).bind fun v σ => doTrk σ v := id rfl
@[simp] theorem x_nil : evL F q [] ρ σ = .ok [] σ := id rfl
@[simp] theorem x_cons (e : CE) (es : List CE) : evL F q (e :: es) ρ σ = (evE F q e ρ σ).bind fun v σ => (evL F q es ρ σ).bind fun vs σ => .ok (v :: vs) σ := id rfl
@[simp] theorem x_onone : evO F q none ρ σ = .ok none σ := id rfl
@[simp] theorem x_osome (e : CE) : evO F q (some e) ρ σ = (evE F q e ρ σ).bind fun v σ => match v with | .int i => .ok (some i) σ | _ => .stuck := id rfl
@[simp] theorem x_cnone : evC F q none ρ σ = .ok true σ := id rfl
@[simp] theorem x_csome (e : CE) : evC F q (some e) ρ σ = (evE F q e ρ σ).bind fun v σ => R.lift σ (truthy σ v) := id rfl
@[simp] theorem x_asg (i : Nat) (e : CE) : exS F Fq q (.asg i e) ρ σ = (evE F q e ρ σ).bind fun v σ => .ok (.next (ρ.set i v)) σ := id rfl
@[simp] theorem x_setItem (o i v : CE) : exS F Fq q (.setItem o i v) ρ σ = (evE F q v ρ σ).bind fun v σ => (evE F q o ρ σ).bind fun o σ => (evE F q i ρ σ).bind fun i σ => (doSetItem σ o i v).bind fun _ σ => .ok (.next ρ) σ := id rfl
@[simp] theorem x_ite (c : CE) (a b : List CS) : exS F Fq q (.ite c a b) ρ σ = (evE F q c ρ σ).bind fun v σ => (R.lift σ (truthy σ v)).bind fun t σ => if t then exL F Fq q a ρ σ else exL F Fq q b ρ σ := id rfl
@[simp] theorem x_ret (e : CE) : exS F Fq q (.ret e) ρ σ = (evE F q e ρ σ).bind fun v σ => .ok (.ret v) σ := id rfl
@[simp] theorem x_exp (e : CE) : exS F Fq q (.exp e) ρ σ = (evE F q e ρ σ).bind fun _ σ => .ok (.next ρ) σ := id rfl
@[simp] theorem x_unpack3 (i j k : Nat) (e : CE) : exS F Fq q (.unpack3 i j k e) ρ σ = if q then .stuck else (evE F q e ρ σ).bind fun v σ => match v with
    | .tup [x, y, z] => .ok (.next (((ρ.set i x).set j y).set k z)) σ
    | _ => .stuck := id rfl
@[simp] theorem x_try (k : TK) (e : CE) (hs : List Hd) : exS F Fq q (.try k e hs) ρ σ = if q then .stuck else (evE F q e ρ σ).orElse (fun v σ => .ok (tkFl k v ρ) σ) (exH Fq hs ρ) := id rfl
@[simp] theorem x_pass : exS F Fq q .pass ρ σ = .ok (.next ρ) σ := id rfl
@[simp] theorem x_lnil : exL F Fq q [] ρ σ = .ok (.next ρ) σ := id rfl
@[simp] theorem x_lcons (s : CS) (ss : List CS) : exL F Fq q (s :: ss) ρ σ = (exS F Fq q s ρ σ).bind fun fl σ => match fl with | .next ρ => exL F Fq q ss ρ σ | .ret v => .ok (.ret v) σ := id rfl
@[simp] theorem x_attr (e : CE) (a : Nat) : evE F q (.attr e a) ρ σ = (evE F q e ρ σ).bind fun o σ => R.lift σ (doAttr σ o a) := id rfl
@[simp] theorem x_callm (f : Nat) (o : CE) (args : List CE) : evE F q (.callm f o args) ρ σ = (evE F q o ρ σ).bind fun o σ => if isInst σ o then (evL F q args ρ σ).bind fun vs σ => F f (o :: vs) σ else .stuck := id rfl
@[simp] theorem x_new : evE F q .new ρ σ = (F 0 [.ref σ.length] (σ ++ [.inst []])).bind (newEnd σ.length) := id rfl
@[simp] theorem x_dict0 : evE F q .dict0 ρ σ = .ok (.ref σ.length) (σ ++ [.dict []]) := id rfl
@[simp] theorem x_dict1 (k v : CE) : evE F q (.dict1 k v) ρ σ = (evE F q k ρ (σ ++ [.dict []])).bind fun a σ₁ => (evE F q v ρ σ₁).bind fun b σ₂ => doDict1 σ.length σ₂ a b := id rfl
@[simp] theorem x_setAttr (o : CE) (a : Nat) (v : CE) : exS F Fq q (.setAttr o a v) ρ σ = (evE F q v ρ σ).bind fun v σ => (evE F q o ρ σ).bind fun o σ => (doSetAttr σ o a v).bind fun _ σ => .ok (.next ρ) σ := id rfl
@[simp] theorem x_raise (c : Cls) : exS F Fq q (.raise c) ρ σ = if q then .stuck else .exc c σ := id rfl
@[simp] theorem x_ch1 (op : P2) (e : CE) (a : V) : evChain F q [op] [e] a ρ σ = if loud2 op && q then .stuck else (evE F q e ρ σ).bind fun b σ => R.lift σ (ev2 op σ a b) := id rfl
@[simp] theorem x_ch2 (op op' : P2) (ops : List P2) (e e' : CE) (es : List CE) (a : V) : evChain F q (op :: op' :: ops) (e :: e' :: es) a ρ σ = if loud2 op && q then .stuck else (evE F q e ρ σ).bind fun b σ => (R.lift σ (ev2 op σ a b)).bind fun c σ => (R.lift σ (truthy σ c)).bind fun t σ => if t then evChain F q (op' :: ops) (e' :: es) b ρ σ else .ok c σ := id rfl
@[simp] theorem x_comp (elt : CE) (k : SK) (src : List CE) (cond : Option CE) : evE F q (.comp elt k src cond) ρ σ = if q then .stuck else (evL F q src ρ σ).bind fun vs σ => (R.lift σ (itemsBy σ k vs)).bind fun it σ =>
      (foldItems it (fun x acc σ => (evC F q cond (ρ ++ [x]) σ).calm.bind fun t σ => if t then (evE F q elt (ρ ++ [x]) σ).calm.bind fun y σ => (if acc.length < LIM then .ok (acc ++ [y]) σ else .stuck) else .ok acc σ) [] σ).bind fun acc σ => .ok (.lst acc) σ := id rfl
theorem x_for (i : Nat) (k : SK) (src : List CE) (body : List CS) : exS F Fq q (.for i k src body) ρ σ = if q then .stuck else (evL F q src ρ σ).bind fun vs σ => (R.lift σ (itemsBy σ k vs)).bind fun it σ =>
      forItems it (fun x ρ σ => (exL F Fq q body (ρ.set i x) σ).calm) ρ σ := id rfl
end
theorem forIt_zero {it : Items} {f : V → List V → Sto → R Fl} {i : Nat} {ρ : List V} {σ : Sto} : forIt it f 0 i ρ σ = .stuck := rfl
theorem forIt_succ {it : Items} {f : V → List V → Sto → R Fl} {n i : Nat} {ρ : List V} {σ : Sto} : forIt it f (n + 1) i ρ σ = match nextIt σ it i with
    | none => .stuck
    | some none => .ok (.next ρ) σ
    | some (some x) => (f x ρ σ).bind fun fl σ => match fl with
      | .next ρ => forIt it f n (i + 1) ρ σ
      | .ret v => .ok (.ret v) σ := rfl
theorem foldIt_zero {β : Type} {it : Items} {f : V → β → Sto → R β} {i : Nat} {b : β} {σ : Sto} : foldIt it f 0 i b σ = .stuck := rfl
theorem foldIt_succ {β : Type} {it : Items} {f : V → β → Sto → R β} {n i : Nat} {b : β} {σ : Sto} : foldIt it f (n + 1) i b σ = match nextIt σ it i with
    | none => .stuck
    | some none => .ok b σ
    | some (some x) => (f x b σ).bind fun b σ => foldIt it f n (i + 1) b σ := rfl
theorem zCA {T : Nat → Option Fn} {d : Nat} {q : Bool} {k : Nat} {vs : List V} {σ : Sto} : callFn T (d + 1) q k vs σ = match T k with
    | none => .stuck
    | some fn => if vs.length = fn.params then
        (exL (callFn T d q) (callFn T d true) q fn.body (vs ++ List.replicate (fn.slots - fn.params) .undef) σ).bind fnEnd
      else .stuck := rfl
end Mine
end

/-! # Plain -/
section
set_option autoImplicit false
namespace Mine
open PySem
noncomputable def Gives (σ : Sto) (it : Items) (xs : List V) : Prop := it = .now xs ∨ ∃ n, it = .live n ∧ σ[n]? = some (.list xs)
theorem Gives.next {σ : Sto} {it : Items} {xs : List V} (h : Gives σ it xs) (i : Nat) : nextIt σ it i = some xs[i]? := by
  rcases h with rfl | ⟨n, rfl, h⟩
  · rfl
  · simp [nextIt, h]
theorem Gives.fuel {σ : Sto} {it : Items} {xs : List V} (h : Gives σ it xs) : itFuel σ it = xs.length + 1 := by
  rcases h with rfl | ⟨n, rfl, h⟩
  · rfl
  · simp [itFuel, h]
theorem fold_same {β : Type} {it : Items} {f : V → β → Sto → R β} {xs : List V} {σ : Sto} (g : Nat → β) (hit : Gives σ it xs)
    (h : ∀ i x, xs[i]? = some x → f x (g i) σ = .ok (g (i + 1)) σ) : foldItems it f (g 0) σ = .ok (g xs.length) σ := by
  have key : ∀ k i, k + i = xs.length → foldIt it f (k + 1) i (g i) σ = .ok (g xs.length) σ := by
    intro k
    induction k with
    | zero =>
      intro i hi
      obtain rfl : i = xs.length := by omega
      simp [foldIt, hit.next]
    | succ k ih =>
      intro i hi
      have hlt : i < xs.length := by omega
      rw [foldIt, hit.next, List.getElem?_eq_getElem hlt]
      simp only
      rw [h i _ (List.getElem?_eq_getElem hlt)]
      exact ih (i + 1) (by omega)
  have := key xs.length 0 rfl
  rw [foldItems, hit.fuel]
  exact this
theorem R.calm_ok {α : Type} {a : α} {σ : Sto} : (R.ok a σ).calm = .ok a σ := rfl
theorem zBn {F : Calls} {elt : CE} {k : SK} {src : List CE} {cond : Option CE} {ρ vs : List V} {σ σ₁ : Sto} {it : Items} {α : Type} {l : List α} {φ : α → V}
    (p : α → Bool) (g : α → V) (hsrc : evL F false src ρ σ = .ok vs σ₁) (hit : itemsBy σ₁ k vs = some it) (hg : Gives σ₁ it (l.map φ)) (hl : l.length < LIM)
    (hc : ∀ x ∈ l, evC F false cond (ρ ++ [φ x]) σ₁ = .ok (p x) σ₁) (he : ∀ x ∈ l, p x = true → evE F false elt (ρ ++ [φ x]) σ₁ = .ok (g x) σ₁) :
    evE F false (.comp elt k src cond) ρ σ = .ok (.lst ((l.filter p).map g)) σ₁ := by
  show ((evL F false src ρ σ).bind fun vs σ => (R.lift σ (itemsBy σ k vs)).bind fun it σ =>
      (foldItems it (fun x acc σ => (evC F false cond (ρ ++ [x]) σ).calm.bind fun t σ => if t then (evE F false elt (ρ ++ [x]) σ).calm.bind fun y σ => (if acc.length < LIM then .ok (acc ++ [y]) σ else .stuck) else .ok acc σ) [] σ).bind fun acc σ => R.ok (V.lst acc) σ) = _
  simp only [hsrc, R.bind_ok, hit, R.lift_some]
  have := fold_same (f := fun x acc σ => (evC F false cond (ρ ++ [x]) σ).calm.bind fun t σ => if t then (evE F false elt (ρ ++ [x]) σ).calm.bind fun y σ => (if acc.length < LIM then .ok (acc ++ [y]) σ else .stuck) else .ok acc σ)
    (fun i => ((l.take i).filter p).map g) hg (fun i x hx => by
      rw [List.getElem?_map] at hx
      cases hi : l[i]? with
      | none => rw [hi] at hx; cases hx
      | some a =>
        rw [hi] at hx
        obtain rfl : φ a = x := by simpa using hx
        have ha : a ∈ l := List.mem_of_getElem? hi
        have hlt : i < l.length := (List.getElem?_eq_some_iff.mp hi).1
        have ht : l.take (i + 1) = l.take i ++ [a] := by rw [List.take_add_one, hi]; rfl
        simp only [hc a ha, R.calm_ok, R.bind_ok, ht, List.filter_append, List.map_append]
        cases hp : p a with
        | false => simp [hp]
        | true =>
          have hle : (((l.take i).filter p).map g).length < LIM := by
            have := List.length_filter_le p (l.take i)
            rw [List.length_map]
            have := List.length_take_le i l
            omega
          simp [he a ha hp, R.calm_ok, hp, List.length_map] at hle ⊢
          exact hle)
  simp only [List.take_zero, List.filter_nil, List.map_nil, List.length_map, List.take_length] at this
  rw [this]
  rfl
theorem for_inv {it : Items} {f : V → List V → Sto → R Fl} {xs : List V} {ρ : List V} {σ : Sto} (I : Nat → List V → Sto → Prop) (hit : ∀ i ρ σ, I i ρ σ → Gives σ it xs) (h0 : I 0 ρ σ)
    (hs : ∀ i x ρ σ, xs[i]? = some x → I i ρ σ → ∃ ρ' σ', f x ρ σ = .ok (.next ρ') σ' ∧ I (i + 1) ρ' σ') :
    ∃ ρ' σ', forItems it f ρ σ = .ok (.next ρ') σ' ∧ I xs.length ρ' σ' := by
  have key : ∀ k i ρ σ, k + i = xs.length → I i ρ σ → ∃ ρ' σ', forIt it f (k + 1) i ρ σ = .ok (.next ρ') σ' ∧ I xs.length ρ' σ' := by
    intro k
    induction k with
    | zero =>
      intro i ρ σ hi h
      obtain rfl : i = xs.length := by omega
      exact ⟨ρ, σ, by simp [forIt, (hit _ _ _ h).next], h⟩
    | succ k ih =>
      intro i ρ σ hi h
      have hlt : i < xs.length := by omega
      obtain ⟨ρ', σ', e, h'⟩ := hs i _ ρ σ (List.getElem?_eq_getElem hlt) h
      obtain ⟨ρ'', σ'', e', h''⟩ := ih (i + 1) ρ' σ' (by omega) h'
      refine ⟨ρ'', σ'', ?_, h''⟩
      rw [forIt, (hit _ _ _ h).next, List.getElem?_eq_getElem hlt]
      simp only [e, R.bind_ok]
      exact e'
  rw [forItems, (hit _ _ _ h0).fuel]
  exact key xs.length 0 ρ σ rfl h0
section
variable (σ : Sto)
@[simp] theorem ev2_add (x y : Int) : ev2 .add σ (.int x) (.int y) = some (.int (x + y)) := rfl
@[simp] theorem ev2_sub (x y : Int) : ev2 .sub σ (.int x) (.int y) = some (.int (x - y)) := rfl
@[simp] theorem zBY (x y : Int) : ev2 .lt σ (.int x) (.int y) = some (.bool (x < y)) := rfl
@[simp] theorem ev2_le (x y : Int) : ev2 .le σ (.int x) (.int y) = some (.bool (x ≤ y)) := rfl
@[simp] theorem ev2_gt (x y : Int) : ev2 .gt σ (.int x) (.int y) = some (.bool (x > y)) := rfl
@[simp] theorem ev2_ge (x y : Int) : ev2 .ge σ (.int x) (.int y) = some (.bool (x ≥ y)) := rfl
@[simp] theorem ev2_min (x y : Int) : ev2 .min σ (.int x) (.int y) = some (.int (if y < x then y else x)) := rfl
@[simp] theorem ev2_max (x y : Int) : ev2 .max σ (.int x) (.int y) = some (.int (if y > x then y else x)) := rfl
theorem ev2_pow (y : Nat) (h : y ≤ 40) : ev2 .pow σ (.int 10) (.int y) = some (.int (10 ^ y)) := by
  show (if ((10 : Int) == 10 && decide (0 ≤ (y : Int)) && decide ((y : Int) ≤ 40)) = true then some (V.int (10 ^ (y : Int).toNat)) else none) = _
  rw [if_pos (by simp; omega), Int.toNat_natCast]
theorem zAh (x y : Int) (h : smallFactor x = true ∨ smallFactor y = true) : ev2 .mul σ (.int x) (.int y) = some (.int (x * y)) := by
  show (if (smallFactor x || smallFactor y) = true then some (V.int (x * y)) else none) = _
  rw [← Bool.or_eq_true] at h; rw [if_pos h]
theorem zBH (x y : Int) (h : (y == 0 || decide (1073741824 ≤ y.natAbs)) = false) : ev2 .fdiv σ (.int x) (.int y) = some (.int (x.fdiv y)) := by
  show (if (y == 0 || decide (1073741824 ≤ y.natAbs)) = true then none else some (V.int (x.fdiv y))) = _
  rw [h]; rfl
theorem zBU (x y : Int) (h : (y == 0) = false) : ev2 .mod σ (.int x) (.int y) = some (.int (x.fmod y)) := by
  show (if (y == 0) = true then none else some (V.int (x.fmod y))) = _
  rw [h]; rfl
@[simp] theorem eqV_int (a b : Int) : eqV σ (.int a) (.int b) = some (a == b) := rfl
@[simp] theorem zBM (x y : Int) : ev2 .eq σ (.int x) (.int y) = some (.bool (x == y)) := rfl
@[simp] theorem ev2_ne (x y : Int) : ev2 .ne σ (.int x) (.int y) = some (.bool (x != y)) := rfl
@[simp] theorem ev1_neg (x : Int) : ev1 .neg σ (.int x) = some (.int (-x)) := rfl
@[simp] theorem ev1_abs (x : Int) : ev1 .abs σ (.int x) = some (.int x.natAbs) := rfl
@[simp] theorem zAa (xs : List V) : ev1 .len σ (.lst xs) = some (.int xs.length) := rfl
@[simp] theorem ev1_len_tup (xs : List V) : ev1 .len σ (.tup xs) = some (.int xs.length) := rfl
theorem zAs {n : Nat} {xs : List V} (h : σ[n]? = some (.list xs)) : ev1 .len σ (.ref n) = some (.int xs.length) := by
  show (match σ[n]? with | some (.list xs) => some (V.int xs.length) | _ => none) = _
  rw [h]
@[simp] theorem ev1_not_bool (b : Bool) : ev1 .not σ (.bool b) = some (.bool !b) := rfl
@[simp] theorem ev1_toList_lst (xs : List V) : ev1 .toList σ (.lst xs) = some (.lst xs) := rfl
@[simp] theorem ev1_toList_tup (xs : List V) : ev1 .toList σ (.tup xs) = some (.lst xs) := rfl
@[simp] theorem ev1_len_str (x : Str) : ev1 .len σ (.str x) = some (.int x.length) := rfl
@[simp] theorem instK_ss (x : Str) : instK σ .str (.str x) = some true := rfl
@[simp] theorem instK_si (i : Int) : instK σ .str (.int i) = some false := rfl
@[simp] theorem strOf_str (x : Str) : strOf? (.str x) = some x := rfl
@[simp] theorem truthy_bool (b : Bool) : truthy σ (.bool b) = some b := rfl
@[simp] theorem truthy_int (b : Int) : truthy σ (.int b) = some (b != 0) := rfl
noncomputable def iv (l : List Int) : List V := l.map V.int
@[simp] theorem iv_len (l : List Int) : (iv l).length = l.length := by simp [iv]
noncomputable def gI (l : List Int) (k : Nat) : Int := l.getD k 0
theorem ints_iv (l : List Int) : ints? (iv l) = some l := by
  induction l with
  | nil => rfl
  | cons x l ih =>
    simp only [ints?, iv, List.map_cons, List.mapM_cons] at ih ⊢
    simp [ih, intOf?]
@[simp] theorem zEd (l : List Int) : ev1 .sum σ (.lst (iv l)) = some (.int l.sum) := by
  show (ints? (iv l)).map (fun l => V.int l.sum) = _
  rw [ints_iv]; rfl
theorem zBG {n i : Nat} (h : i < n) : normIndex n (i : Int) = some i := by
  unfold normIndex
  rw [if_pos (Int.natCast_nonneg i), Int.toNat_natCast, if_pos h]
theorem zAp {l : List V} {i : Nat} {v : V} (h : l[i]? = some v) : ev2 .index σ (.lst l) (.int i) = some v := by
  show ((normIndex l.length i).bind fun k => l[k]?) = some v
  rw [zBG (List.getElem?_eq_some_iff.mp h).1]; exact h
theorem zBf {l : List V} {i : Nat} {v : V} (h : l[i]? = some v) : ev2 .index σ (.tup l) (.int i) = some v := by
  show ((normIndex l.length i).bind fun k => l[k]?) = some v
  rw [zBG (List.getElem?_eq_some_iff.mp h).1]; exact h
theorem zAK {l : List V} {i n : Nat} {v : V} (hn : σ[n]? = some (.list l)) (h : l[i]? = some v) : ev2 .index σ (.ref n) (.int i) = some v := by
  show (match σ[n]? with | some (.list xs) => (normIndex xs.length i).bind fun k => xs[k]? | some (.dict es) => (es.find? fun p => p.1 == (i : Int)).map fun p => p.2 | _ => none) = some v
  rw [hn]
  show ((normIndex l.length i).bind fun k => l[k]?) = some v
  rw [zBG (List.getElem?_eq_some_iff.mp h).1]; exact h
theorem iv_get {l : List Int} {i : Nat} (h : i < l.length) : (iv l)[i]? = some (.int (gI l i)) := by simp [iv, gI, h]
theorem zEa {l : List Int} {i : Nat} (h : i < l.length) : ev2 .index σ (.lst (iv l)) (.int i) = some (.int (gI l i)) := zAp σ (iv_get h)
theorem zAS {n : Int} (h : n.natAbs ≤ LIM) : itemsBy σ .range1 [.int n] = some (.now (rangeL 0 n)) := by
  show (if n.natAbs ≤ LIM then some (Items.now (rangeL 0 n)) else none) = _
  rw [if_pos h]
theorem itemsBy_tup {xs : List V} : itemsBy σ .val [.tup xs] = some (.now xs) := rfl
theorem zBx {n : Nat} {xs : List V} (h : σ[n]? = some (.list xs)) : itemsBy σ .val [.ref n] = some (.live n) := by
  show refItems n σ[n]? = _
  rw [h]; rfl
@[simp] theorem ev1_isInst (k : Kd) (v : V) : ev1 (.isInst k) σ v = (instK σ k v).map .bool := rfl
@[simp] theorem instK_ii (i : Int) : instK σ .int (.int i) = some true := rfl
@[simp] theorem instK_bi (i : Int) : instK σ .bool (.int i) = some false := rfl
@[simp] theorem instK_tt (xs : List V) : instK σ .tuple (.tup xs) = some true := rfl
@[simp] theorem instK_ll (xs : List V) : instK σ .list (.lst xs) = some true := rfl
theorem instK_lr {n : Nat} {xs : List V} (h : σ[n]? = some (.list xs)) : instK σ .list (.ref n) = some true := by
  show refK σ[n]? .list = _
  rw [h]; rfl
theorem zCw {n i : Nat} {xs : List V} {v : V} (hn : σ[n]? = some (.list xs)) (h : i < xs.length) : doSetItem σ (.ref n) (.int i) v = .ok () (σ.set n (.list (xs.set i v))) := by
  show setObj σ n i v σ[n]? = _
  rw [hn]
  show (if 0 ≤ (i : Int) ∧ (i : Int).toNat < xs.length then R.ok () (σ.set n (.list (xs.set (i : Int).toNat v))) else .stuck) = _
  rw [if_pos ⟨Int.natCast_nonneg i, by rwa [Int.toNat_natCast]⟩, Int.toNat_natCast]
theorem zAX {n : Nat} {xs : List V} {x : V} (hn : σ[n]? = some (.list xs)) (h : xs.length < LIM) : doAppend σ (.ref n) x = .ok .none (σ.set n (.list (xs ++ [x]))) := by
  show (match σ[n]? with | some (.list xs) => if xs.length < LIM then R.ok V.none (σ.set n (.list (xs ++ [x]))) else .stuck | _ => .stuck) = _
  rw [hn]
  show (if xs.length < LIM then R.ok V.none (σ.set n (.list (xs ++ [x]))) else .stuck) = _
  rw [if_pos h]
@[simp] theorem index_t0 (a : V) (l : List V) : ev2 .index σ (.tup (a :: l)) (.int 0) = some a := zBf σ (i := 0) rfl
@[simp] theorem index_t1 (a b : V) (l : List V) : ev2 .index σ (.tup (a :: b :: l)) (.int 1) = some b := zBf σ (i := 1) rfl
@[simp] theorem index_t2 (a b c : V) (l : List V) : ev2 .index σ (.tup (a :: b :: c :: l)) (.int 2) = some c := zBf σ (i := 2) rfl
end
theorem zAD {T : Nat → Option Fn} {d : Nat} {q : Bool} {f : Nat} {fn : Fn} {args : List V} {σ σ' : Sto} {v : V} (hT : T f = some fn) (hl : args.length = fn.params)
    (h : exL (callFn T d q) (callFn T d true) q fn.body (args ++ List.replicate (fn.slots - fn.params) .undef) σ = .ok (.ret v) σ') : callFn T (d + 1) q f args σ = .ok v σ' := by
  rw [callFn, hT]; simp only [hl, if_true, h]; rfl
theorem zCt {F Fq : Calls} {i : Nat} {k : SK} {src : List CE} {body : List CS} {ρ vs : List V} {σ σ₁ : Sto} {it : Items} {xs : List V} (I : Nat → List V → Sto → Prop)
    (hsrc : evL F false src ρ σ = .ok vs σ₁) (hit : itemsBy σ₁ k vs = some it) (hI : ∀ j ρ σ, I j ρ σ → Gives σ it xs) (h0 : I 0 ρ σ₁)
    (hs : ∀ j x ρ σ, xs[j]? = some x → I j ρ σ → ∃ ρ' σ', exL F Fq false body (ρ.set i x) σ = .ok (.next ρ') σ' ∧ I (j + 1) ρ' σ') :
    ∃ ρ' σ', exS F Fq false (.for i k src body) ρ σ = .ok (.next ρ') σ' ∧ I xs.length ρ' σ' := by
  have e : exS F Fq false (.for i k src body) ρ σ = forItems it (fun x ρ σ => (exL F Fq false body (ρ.set i x) σ).calm) ρ σ₁ := by
    show ((evL F false src ρ σ).bind fun vs σ => (R.lift σ (itemsBy σ k vs)).bind fun it σ => forItems it (fun x ρ σ => (exL F Fq false body (ρ.set i x) σ).calm) ρ σ) = _
    simp only [hsrc, R.bind_ok, hit, R.lift_some]
  rw [e]
  exact for_inv (it := it) (f := fun x ρ σ => (exL F Fq false body (ρ.set i x) σ).calm) I hI h0 (fun j x ρ σ hx h => by
    obtain ⟨ρ', σ', e, h'⟩ := hs j x ρ σ hx h
    exact ⟨ρ', σ', by rw [e]; rfl, h'⟩)
theorem zBg {α : Type} (l : List α) : l.filter (fun _ => true) = l := by simp
end Mine
end

/-! # Rel -/
section
set_option autoImplicit false
namespace Mine
open PySem
noncomputable abbrev Loc := Addr × Option Addr
noncomputable def Loc.addrs : Loc → List Addr
  | (a, none) => [a]
  | (a, some d) => [a, d]
noncomputable def addrs (f : List Loc) : List Addr := f.flatMap Loc.addrs
theorem zDQ (f g : List Loc) : addrs (f ++ g) = addrs f ++ addrs g := by simp [addrs]
theorem zAH {f g : List Loc} {a : Addr} : a ∈ addrs (f ++ g) ↔ a ∈ addrs f ∨ a ∈ addrs g := by rw [zDQ, List.mem_append]
structure Stat where
  prog : Program
  w : World
  hb : Heap
  cl : Cls → Value
  book : Addr
  parts : Value
  hasParts : Bool
  fn : Nat → Addr
  kn : List Cls
noncomputable def bmV : List Value := [.type "ValueError", .type "Exception", .type "BaseException", .type "object"]
inductive ExcCl (S : Stat) (c : Cls) : Prop where
  | mk (Ca : Addr) (bm : List Value) (N : Addr) (nm q : Str) (bs : List Value) (hdct : Bool) (sn : List Str) (sub : List Value) (ab : Bool) (col : Option Bool) (dd : Option Addr) (k0 k1 k2 k3 k5 : Option Value) (mN : Str → Option Value)
      (hcl : S.cl c = .ref Ca) (hC : S.hb.get? Ca = some (excClassObj nm q Ca N bs bm hdct sn sub ab col dd k0 k1 k2 k3 k5 "ValueError.__new__")) (hN : S.hb.Ns N mN) (hni : mN "__init__" = none) (OT : OwnTail S.hb bmV bm)
      (hm : ∀ d ∈ S.kn, (Value.ref Ca :: bm).contains (S.cl d) = c.sub d)
inductive SeqAt (X : List Addr) (f : List Loc) (I : Addr → Array Value → Nat → Prop) (P : List Value → Prop) (k : Nat) (v : Value) : Prop
  | mk (a : Addr) (vs : Array Value) (n : Nat) (e : v = .ref a) (ha : a ∉ addrs f ∧ a ∉ X) (i : I a vs n) (p : P vs.toList) (hl : k ≤ LIM)
mutual
noncomputable def VR (S : Stat) (X : List Addr) (f : List Loc) (h : Heap) : V → Value → Prop
  | .undef, _ => False
  | .none, v => v = .none
  | .bool b, v => v = .bool b
  | .int i, v => ∃ t, v = .int i t
  | .str x, v => (∃ t, v = .str x t) ∧ x.length ≤ LIM ∧ PyData.strOk x = true
  | .tup xs, v => SeqAt X f (IsT h) (VRs S X f h xs) xs.length v
  | .lst xs, v => SeqAt X f (IsL h) (VRs S X f h xs) xs.length v
  | .ref n, v => ∃ l, f[n]? = some l ∧ v = .ref l.1
  | .exc c, v => ∃ a o, v = .ref a ∧ (a ∉ addrs f ∧ a ∉ X) ∧ h.get? a = some o ∧ o.cls = S.cl c
  | .parts, v => S.hasParts = true ∧ v = S.parts
noncomputable def VRs (S : Stat) (X : List Addr) (f : List Loc) (h : Heap) : List V → List Value → Prop
  | [], [] => True
  | x :: xs, v :: vs => VR S X f h x v ∧ VRs S X f h xs vs
  | [], _ :: _ => False
  | _ :: _, [] => False
end
theorem zBO {S : Stat} {X : List Addr} {f : List Loc} {h : Heap} : ∀ {xs : List V} {vs : List Value}, VRs S X f h xs vs → xs.length = vs.length
  | [], [], _ => rfl
  | _ :: _, _ :: _, e => by rw [VRs] at e; simp [zBO e.2]
  | [], _ :: _, e => by rw [VRs] at e; exact e.elim
  | _ :: _, [], e => by rw [VRs] at e; exact e.elim
noncomputable def SameObj (o o' : Obj) : Prop := o' = o ∨ ((∃ es n, o.data = .dict es n) ∧ o'.cls = o.cls ∧ o'.dict = o.dict ∧ o'.data = o.data)
theorem SameObj.refl (o : Obj) : SameObj o o := .inl rfl
theorem SameObj.data {o o' : Obj} (x : SameObj o o') : o'.data = o.data := x.elim (fun e => by rw [e]) fun e => e.2.2.2
theorem SameObj.cls {o o' : Obj} (x : SameObj o o') : o'.cls = o.cls := x.elim (fun e => by rw [e]) fun e => e.2.1
theorem SameObj.dict {o o' : Obj} (x : SameObj o o') : o'.dict = o.dict := x.elim (fun e => by rw [e]) fun e => e.2.2.1
theorem SameObj.exact {o o' : Obj} (x : SameObj o o') (h : ∀ es n, o.data ≠ .dict es n) : o' = o := x.elim id fun e => by obtain ⟨⟨es, n, q⟩, _⟩ := e; exact absurd q (h es n)
theorem SameObj.trans {a b c : Obj} (x : SameObj a b) (y : SameObj b c) : SameObj a c := by
  rcases x with rfl | ⟨x1, x2, x3, x4⟩
  · exact y
  · exact .inr ⟨x1, y.cls.trans x2, y.dict.trans x3, y.data.trans x4⟩
structure Kp (f : List Loc) (Y : List Addr) (s s' : Shared) : Prop where
  rest : s' = { s with heap := s'.heap, toks := s'.toks }
  live : ∀ a o, s.heap.get? a = some o → ∃ o', s'.heap.get? a = some o'
  kept : ∀ a o, s.heap.get? a = some o → a ∉ addrs f → a ∉ Y → ∃ o', s'.heap.get? a = some o' ∧ SameObj o o'
  dicts : ∀ a o es n, s.heap.get? a = some o → o.data = .dict es n → a ∉ addrs f → ∃ o' es' n', s'.heap.get? a = some o' ∧ o'.data = .dict es' n'
noncomputable def Fresh (g : List Loc) (s : Shared) : Prop := ∀ a ∈ addrs g, s.heap.get? a = none
theorem Fresh.nil (s : Shared) : Fresh [] s := fun _ h => nomatch h
theorem Kp.refl (f : List Loc) (Y : List Addr) (s : Shared) : Kp f Y s s :=
  ⟨rfl, fun _ o e => ⟨o, e⟩, fun _ o e _ _ => ⟨o, e, .refl o⟩, fun _ o es n e d _ => ⟨o, es, n, e, d⟩⟩
theorem Kp.mono {f : List Loc} {Y Z : List Addr} {s s' : Shared} (k : Kp f Y s s') (h : ∀ a ∈ Y, a ∈ Z) : Kp f Z s s' :=
  ⟨k.rest, k.live, fun a o e h1 h2 => k.kept a o e h1 fun h3 => h2 (h a h3), k.dicts⟩
theorem zAY {g : List Loc} {s : Shared} (hg : Fresh g s) {a : Addr} {o : Obj} (e : s.heap.get? a = some o) : a ∉ addrs g :=
  fun h => by rw [hg a h] at e; cases e
theorem Kp.trans {f g : List Loc} {Y : List Addr} {s s₁ s₂ : Shared} (k : Kp f Y s s₁) (hg : Fresh g s) (k' : Kp (f ++ g) Y s₁ s₂) : Kp f Y s s₂ where
  rest := by rw [k'.rest, k.rest]
  live a o e := let ⟨o₁, e₁⟩ := k.live a o e; k'.live a o₁ e₁
  kept a o e h1 h2 := by
    obtain ⟨o₁, e₁, q₁⟩ := k.kept a o e h1 h2
    obtain ⟨o₂, e₂, q₂⟩ := k'.kept a o₁ e₁ (fun h => (zAH.mp h).elim h1 (zAY hg e)) h2
    exact ⟨o₂, e₂, q₁.trans q₂⟩
  dicts a o es n e d h1 := by
    obtain ⟨o₁, es₁, n₁, e₁, d₁⟩ := k.dicts a o es n e d h1
    exact k'.dicts a o₁ es₁ n₁ e₁ d₁ (fun h => (zAH.mp h).elim h1 (zAY hg e))
theorem zAc {s s₁ : Shared} (hs : ∀ a o, s.heap.get? a = some o → ∃ o', s₁.heap.get? a = some o') {a : Addr} (h : s₁.heap.get? a = none) : s.heap.get? a = none := by
  cases e : s.heap.get? a with
  | none => rfl
  | some o => obtain ⟨o', e'⟩ := hs a o e; rw [h] at e'; cases e'
theorem Fresh.trans {g g' : List Loc} {s s₁ : Shared} (hg : Fresh g s) (hs : ∀ a o, s.heap.get? a = some o → ∃ o', s₁.heap.get? a = some o') (hg' : Fresh g' s₁) : Fresh (g ++ g') s :=
  fun a h => (zAH.mp h).elim (hg a) fun h => zAc hs (hg' a h)
mutual
theorem VR.keep {S : Stat} {X X' : List Addr} {f f' : List Loc} {h h' : Heap}
    (kf : ∀ (i : Nat) (l : Loc), f[i]? = some l → f'[i]? = some l)
    (kh : ∀ a o, h.get? a = some o → a ∉ addrs f → a ∉ X → (a ∉ addrs f' ∧ a ∉ X') ∧ ∃ o', h'.get? a = some o' ∧ SameObj o o') :
    ∀ (x : V) (v : Value), VR S X f h x v → VR S X' f' h' x v
  | .undef, _, e => by rw [VR] at e; exact e.elim
  | .none, _, e => by rw [VR] at e ⊢; exact e
  | .bool _, _, e => by rw [VR] at e ⊢; exact e
  | .int _, _, e => by rw [VR] at e ⊢; exact e
  | .str _, _, e => by rw [VR] at e ⊢; exact e
  | .ref n, _, e => by
    rw [VR] at e ⊢
    obtain ⟨l, e1, e2⟩ := e
    exact ⟨l, kf _ _ e1, e2⟩
  | .exc c, _, e => by
    rw [VR] at e ⊢
    obtain ⟨a, o, e1, e2, e3, e4⟩ := e
    obtain ⟨q1, o', q2, q3⟩ := kh a o e3 e2.1 e2.2
    exact ⟨a, o', e1, q1, q2, q3.cls.trans e4⟩
  | .parts, _, e => by rw [VR] at e ⊢; exact e
  | .tup xs, _, e => by
    rw [VR] at e ⊢
    obtain ⟨a, vs, n, e1, e2, e3, e7, e8⟩ := e
    obtain ⟨q1, o', q2, q3⟩ := kh a _ e3 e2.1 e2.2
    exact ⟨a, vs, n, e1, q1, q2.trans (congrArg some (q3.exact fun _ _ q => by cases q)), VRs.keep kf kh xs vs.toList e7, e8⟩
  | .lst xs, _, e => by
    rw [VR] at e ⊢
    obtain ⟨a, vs, n, e1, e2, e3, e7, e8⟩ := e
    obtain ⟨q1, o', q2, q3⟩ := kh a _ e3 e2.1 e2.2
    exact ⟨a, vs, n, e1, q1, q2.trans (congrArg some (q3.exact fun _ _ q => by cases q)), VRs.keep kf kh xs vs.toList e7, e8⟩
theorem VRs.keep {S : Stat} {X X' : List Addr} {f f' : List Loc} {h h' : Heap}
    (kf : ∀ (i : Nat) (l : Loc), f[i]? = some l → f'[i]? = some l)
    (kh : ∀ a o, h.get? a = some o → a ∉ addrs f → a ∉ X → (a ∉ addrs f' ∧ a ∉ X') ∧ ∃ o', h'.get? a = some o' ∧ SameObj o o') :
    ∀ (xs : List V) (vs : List Value), VRs S X f h xs vs → VRs S X' f' h' xs vs
  | [], [], e => by rw [VRs] at e ⊢; exact e
  | x :: xs, v :: vs, e => by
    rw [VRs] at e ⊢
    exact ⟨VR.keep kf kh x v e.1, VRs.keep kf kh xs vs e.2⟩
  | [], _ :: _, e => by rw [VRs] at e; exact e.elim
  | _ :: _, [], e => by rw [VRs] at e; exact e.elim
end
theorem VR.keepK {S : Stat} {X : List Addr} {f g : List Loc} {Y : List Addr} {s s' : Shared} (k : Kp f Y s s') (hg : Fresh g s) (hY : ∀ a ∈ Y, a ∈ X)
    {x : V} {v : Value} (e : VR S X f s.heap x v) : VR S X (f ++ g) s'.heap x v :=
  VR.keep (fun _ _ e => List.getElem?_append_left (List.getElem?_eq_some_iff.mp e).1 ▸ e)
    (fun a o ho h1 h2 => ⟨⟨fun h => (zAH.mp h).elim h1 (zAY hg ho), h2⟩, k.kept a o ho h1 fun h => h2 (hY a h)⟩) x v e
theorem VRs.keepK {S : Stat} {X : List Addr} {f g : List Loc} {Y : List Addr} {s s' : Shared} (k : Kp f Y s s') (hg : Fresh g s) (hY : ∀ a ∈ Y, a ∈ X)
    {x : List V} {v : List Value} (e : VRs S X f s.heap x v) : VRs S X (f ++ g) s'.heap x v :=
  VRs.keep (fun _ _ e => List.getElem?_append_left (List.getElem?_eq_some_iff.mp e).1 ▸ e)
    (fun a o ho h1 h2 => ⟨⟨fun h => (zAH.mp h).elim h1 (zAY hg ho), h2⟩, k.kept a o ho h1 fun h => h2 (hY a h)⟩) x v e
theorem VR.less {S : Stat} {X X' : List Addr} {f : List Loc} {h : Heap} (hX : ∀ a ∈ X', a ∈ X) {x : V} {v : Value} (e : VR S X f h x v) : VR S X' f h x v :=
  VR.keep (fun _ _ e => e) (fun _ o ho h1 h2 => ⟨⟨h1, fun h => h2 (hX _ h)⟩, o, ho, .refl o⟩) x v e
theorem VRs.less {S : Stat} {X X' : List Addr} {f : List Loc} {h : Heap} (hX : ∀ a ∈ X', a ∈ X) {x : List V} {v : List Value} (e : VRs S X f h x v) : VRs S X' f h x v :=
  VRs.keep (fun _ _ e => e) (fun _ o ho h1 h2 => ⟨⟨h1, fun h => h2 (hX _ h)⟩, o, ho, .refl o⟩) x v e
theorem VR.more {S : Stat} {X X' : List Addr} {f : List Loc} {h : Heap} (hX : ∀ a ∈ X', a ∈ X ∨ h.get? a = none) {x : V} {v : Value} (e : VR S X f h x v) : VR S X' f h x v :=
  VR.keep (fun _ _ e => e) (fun a o ho h1 h2 => ⟨⟨h1, fun h => (hX _ h).elim h2 fun q => by rw [q] at ho; cases ho⟩, o, ho, .refl o⟩) x v e
noncomputable def attrName (k : Nat) : Str := if k = 0 then "entries" else "history"
noncomputable def OR (S : Stat) (X : List Addr) (f : List Loc) (h : Heap) : Loc → O → Prop
  | (a, none), .list xs => ∃ vs n, IsL h a vs n ∧ VRs S X f h xs vs.toList ∧ xs.length ≤ LIM
  | (a, none), .dict es => ∃ kvs, h.DictOf (intKind S.prog S.w) a kvs ∧ kvs.map (·.1) = es.map (·.1) ∧ VRs S X f h (es.map (·.2)) (kvs.map (·.2)) ∧ es.length ≤ LIM
  | (a, some d), .inst as => ∃ ob mA, h.get? a = some ob ∧ (ob.cls = .ref S.book ∧ ob.dict = some d ∧ (∀ c, ob.data ≠ .cls c) ∧ d ≠ a) ∧ h.Ns1 d mA ∧ (∀ k x, as.lookup k = some x → ∃ v, mA (attrName k) = some v ∧ VR S X f h x v) ∧ (∀ x v, mA x = some v → x = attrName 0 ∨ x = attrName 1) ∧ ∀ k, k ∈ as.map (·.1) → k < 2
  | _, _ => False
theorem dictOf_at {prog : Program} {w : World} {h h' : Heap} {a : Addr} {kvs : List (Int × Value)} (e : h'.get? a = h.get? a) (x : h.DictOf (intKind prog w) a kvs) : h'.DictOf (intKind prog w) a kvs := by
  obtain ⟨o, es, ep, ho, r⟩ := x
  exact ⟨o, es, ep, e.trans ho, r⟩
theorem OR.keep {S : Stat} {X X' : List Addr} {f f' : List Loc} {h h' : Heap} (k : ∀ x v, VR S X f h x v → VR S X' f' h' x v) (ks : ∀ x v, VRs S X f h x v → VRs S X' f' h' x v) {l : Loc} {o : O}
    (hl : ∀ a ∈ l.addrs, h'.get? a = h.get? a) (e : OR S X f h l o) : OR S X' f' h' l o := by
  obtain ⟨a, d⟩ := l
  cases d with
  | none =>
    have ha := hl a (List.mem_singleton.mpr rfl)
    cases o with
    | list xs =>
      obtain ⟨vs, n, e1, e5, e6⟩ := e
      exact ⟨vs, n, ha.trans e1, ks _ _ e5, e6⟩
    | dict es =>
      obtain ⟨kvs, e1, e2, e3, e4⟩ := e
      exact ⟨kvs, dictOf_at ha e1, e2, ks _ _ e3, e4⟩
    | inst as => exact e.elim
  | some d =>
    have ha := hl a (List.mem_cons_self)
    have hd := hl d (List.mem_cons_of_mem _ (List.mem_singleton.mpr rfl))
    cases o with
    | list xs => exact e.elim
    | dict es => exact e.elim
    | inst as =>
      obtain ⟨ob, mA, e1, e0, ⟨o, es, ep, e2, r⟩, e3, e4⟩ := e
      exact ⟨ob, mA, ha.trans e1, e0, ⟨o, es, ep, hd.trans e2, r⟩, fun i x q => let ⟨v, q1, q2⟩ := e3 i x q; ⟨v, q1, k _ _ q2⟩, e4⟩
structure Lk (S : Stat) (X : List Addr) (f : List Loc) (σ : Sto) (h : Heap) : Prop where
  base : ∀ b o, S.hb.get? b = some o → h.get? b = some o
  len : f.length = σ.length
  nodup : (addrs f).Nodup
  fresh : ∀ a ∈ addrs f, S.hb.get? a = none
  hid : ∀ a ∈ X, S.hb.get? a = none ∧ a ∉ addrs f ∧ ∃ o, h.get? a = some o
  obj : ∀ (i : Nat) (l : Loc) (o : O), f[i]? = some l → σ[i]? = some o → OR S X f h l o
theorem OR.live {S : Stat} {X : List Addr} {f : List Loc} {h : Heap} {l : Loc} {o : O} (e : OR S X f h l o) : ∀ a ∈ l.addrs, ∃ ob, h.get? a = some ob := by
  obtain ⟨a, d⟩ := l
  intro b hb
  cases d with
  | none =>
    obtain rfl := List.mem_singleton.mp hb
    cases o with
    | list xs => obtain ⟨vs, n, e1, _⟩ := e; exact ⟨_, e1⟩
    | dict es => obtain ⟨kvs, ⟨o, _, _, e1, _⟩, _⟩ := e; exact ⟨o, e1⟩
    | inst as => exact e.elim
  | some d =>
    cases o with
    | list xs => exact e.elim
    | dict es => exact e.elim
    | inst as =>
      obtain ⟨ob, mA, e1, e0, ⟨o, es, ep, e2, r⟩, _⟩ := e
      rcases List.mem_cons.mp hb with rfl | hb
      · exact ⟨_, e1⟩
      · obtain rfl := List.mem_singleton.mp hb; exact ⟨_, e2⟩
theorem mem_addrs {f : List Loc} {a : Addr} (h : a ∈ addrs f) : ∃ (i : Nat) (l : Loc), f[i]? = some l ∧ a ∈ l.addrs := by
  obtain ⟨l, hl, ha⟩ := List.mem_flatMap.mp h
  obtain ⟨i, hi⟩ := List.getElem?_of_mem hl
  exact ⟨i, l, hi, ha⟩
theorem zAb {f : List Loc} {i : Nat} {l : Loc} {a : Addr} (h : f[i]? = some l) (ha : a ∈ l.addrs) : a ∈ addrs f :=
  List.mem_flatMap.mpr ⟨l, List.mem_of_getElem? h, ha⟩
theorem Lk.live {S : Stat} {X : List Addr} {f : List Loc} {σ : Sto} {h : Heap} (L : Lk S X f σ h) {a : Addr} (ha : a ∈ addrs f) : ∃ ob, h.get? a = some ob := by
  obtain ⟨i, l, hi, hl⟩ := mem_addrs ha
  have hlt : i < σ.length := L.len ▸ (List.getElem?_eq_some_iff.mp hi).1
  exact (L.obj i l _ hi (List.getElem?_eq_getElem hlt)).live a hl
inductive ExcR (S : Stat) (X : List Addr) (f : List Loc) (σ : Sto) (h h₀ : Heap) (ea : Addr) (k : Cls) : Prop where
  | mk (e1 : h₀.get? ea = none) (ec : ExcCl S k) (hs : List Addr) (oe : Obj) (vs : Array Value) (L : Lk S (hs ++ X) f σ h) (e4 : h.get? ea = some oe) (e5 : oe.cls = S.cl k) (e6 : oe.data = .fields vs) (e8 : (hs = [ea] ∧ vs[1]? = some .none) ∨
      ∃ T oT ts, hs = [ea, T] ∧ h₀.get? T = none ∧ T ≠ ea ∧ vs[1]? = some (.ref T) ∧ h.get? T = some oT ∧ oT.data = .fields ts ∧ ts[3]? = some .none)
theorem ExcR.back {S : Stat} {X : List Addr} {f : List Loc} {σ : Sto} {h h₀ h₁ : Heap} {ea : Addr} {k : Cls} (e : ExcR S X f σ h h₁ ea k) (hl : ∀ a, h₁.get? a = none → h₀.get? a = none) : ExcR S X f σ h h₀ ea k := by
  obtain ⟨e1, ec, hs, oe, vs, L, e4, e5, e6, e8⟩ := e
  refine ⟨hl _ e1, ec, hs, oe, vs, L, e4, e5, e6, e8.imp id ?_⟩
  rintro ⟨T, oT, ts, t0, t1, t2⟩
  exact ⟨T, oT, ts, t0, hl _ t1, t2⟩
section
variable {α β γ δ : Type}
inductive QS (S : Stat) (X Y : List Addr) (f : List Loc) (P : α → β → List Loc → Shared → Prop) (s : Shared) (r : R β) (a : α) (s' : Shared) : Prop where
  | mk (b : β) (σ' : Sto) (g : List Loc) (e : r = .ok b σ') (hg : Fresh g s) (k : Kp f Y s s') (L : Lk S X (f ++ g) σ' s'.heap) (p : P a b (f ++ g) s')
inductive ES (S : Stat) (X Y : List Addr) (f : List Loc) (tr : Bool) (s : Shared) (r : R β) (e : Value) (s' : Shared) : Prop where
  | mk (k : Cls) (σ' : Sto) (g : List Loc) (ea : Addr) (e1 : e = .ref ea) (e2 : r = .exc k σ') (hg : Fresh g s) (kp : Kp f Y s s') (L : Lk S X (f ++ g) σ' s'.heap) (x : ExcR S X (f ++ g) σ' s'.heap s.heap ea k)
noncomputable def Sim (S : Stat) (A : Around) (X Y : List Addr) (f : List Loc) (P : α → β → List Loc → Shared → Prop) (t : Sem α) (r : R β) (s : Shared) : Prop :=
  r ≠ .stuck → wpAny (model S.prog S.w) A t (QS S X Y f P s r) (ES S X Y f false s r) s
variable {S : Stat} {A : Around} {X Y : List Addr} {f : List Loc} {P : α → β → List Loc → Shared → Prop} {P' : γ → δ → List Loc → Shared → Prop}
theorem QS.here {s : Shared} {σ : Sto} {a : α} {b : β} (L : Lk S X f σ s.heap) (p : P a b f s) : QS S X Y f P s (.ok b σ) a s :=
  ⟨b, σ, [], rfl, .nil s, .refl f Y s, by rwa [List.append_nil], by rwa [List.append_nil]⟩
end
end Mine
end

/-! # Ops -/
section
set_option autoImplicit false
namespace Mine
open PySem PyProof.Rows
structure Ext (s s' : Shared) : Prop where
  rest : s' = { s with heap := s'.heap, toks := s'.toks }
  keep : ∀ b o, s.heap.get? b = some o → s'.heap.get? b = some o
theorem Ext.refl (s : Shared) : Ext s s := ⟨rfl, fun _ _ e => e⟩
theorem Ext.toks (s : Shared) (t : Nat) : Ext s { s with toks := t } := ⟨rfl, fun _ _ e => e⟩
theorem Ext.heap {s : Shared} {h : Heap} {t : Nat} (k : ∀ b o, s.heap.get? b = some o → h.get? b = some o) : Ext s { s with heap := h, toks := t } := ⟨rfl, k⟩
theorem Ext.push (s : Shared) (o : Obj) : Ext s { s with heap := s.heap.push o } := ⟨rfl, fun _ _ e => Heap.get?_push_of_some _ e⟩
theorem Ext.trans {a b c : Shared} (x : Ext a b) (y : Ext b c) : Ext a c := ⟨by rw [y.rest, x.rest], fun d o e => y.keep d o (x.keep d o e)⟩
theorem Ext.kp {s s' : Shared} (e : Ext s s') (f : List Loc) (Y : List Addr) : Kp f Y s s' :=
  ⟨e.rest, fun a o h => ⟨o, e.keep a o h⟩, fun a o h _ _ => ⟨o, e.keep a o h, .refl o⟩, fun a o es n h d _ => ⟨o, es, n, e.keep a o h, d⟩⟩
section
variable {S : Stat} {X Y : List Addr} {f : List Loc} {σ : Sto} {s s' : Shared}
theorem Ext.vr (e : Ext s s') {x : V} {v : Value} (h : VR S X f s.heap x v) : VR S X f s'.heap x v :=
  VR.keep (fun _ _ e => e) (fun a o h h1 h2 => ⟨⟨h1, h2⟩, o, e.keep a o h, .refl o⟩) x v h
theorem Ext.vrs (e : Ext s s') {x : List V} {v : List Value} (h : VRs S X f s.heap x v) : VRs S X f s'.heap x v :=
  VRs.keep (fun _ _ e => e) (fun a o h h1 h2 => ⟨⟨h1, h2⟩, o, e.keep a o h, .refl o⟩) x v h
theorem Ext.lk (e : Ext s s') (L : Lk S X f σ s.heap) : Lk S X f σ s'.heap where
  base b o h := e.keep b o (L.base b o h)
  len := L.len
  nodup := L.nodup
  fresh := L.fresh
  hid a ha := ⟨(L.hid a ha).1, (L.hid a ha).2.1, let ⟨o, q⟩ := (L.hid a ha).2.2; ⟨o, e.keep a o q⟩⟩
  obj i l o hi ho := (L.obj i l o hi ho).keep (fun _ _ => e.vr) (fun _ _ => e.vrs) fun a ha => by
    obtain ⟨ob, h⟩ := L.live (zAb hi ha)
    rw [h]; exact e.keep a ob h
noncomputable def PV (S : Stat) (X : List Addr) (v : Value) (x : V) (f : List Loc) (s : Shared) : Prop := VR S X f s.heap x v
theorem QS.leaf {x : V} {v : Value} (L : Lk S X f σ s.heap) (e : Ext s s') (h : VR S X f s'.heap x v) : QS S X Y f (PV S X) s (.ok x σ) v s' :=
  ⟨x, σ, [], rfl, .nil s, e.kp f Y, by rw [List.append_nil]; exact e.lk L, by rw [List.append_nil]; exact h⟩
theorem Lk.new (L : Lk S X f σ s.heap) {a : Addr} (h : s.heap.get? a = none) : a ∉ addrs f ∧ a ∉ X :=
  ⟨fun q => (by obtain ⟨o, e⟩ := L.live q; rw [h] at e; cases e), fun q => (by obtain ⟨o, e⟩ := (L.hid a q).2.2; rw [h] at e; cases e)⟩
theorem zAn (h : Heap) : h.get? h.objs.size = none := Heap.get?_none_of_le (Nat.le_refl _)
inductive NewL (S : Stat) (X : List Addr) (f : List Loc) (s s' : Shared) (xs : List V) (v : Value) : Prop
  | mk (a : Addr) (vs : Array Value) (n : Nat) (e : v = .ref a) (hn : s.heap.get? a = none) (i : IsL s'.heap a vs n) (p : VRs S X f s.heap xs vs.toList) (hl : xs.length ≤ LIM)
theorem NewL.vr {xs : List V} {v : Value} (L : Lk S X f σ s.heap) (e : Ext s s') (h : NewL S X f s s' xs v) : VR S X f s'.heap (.lst xs) v := by
  obtain ⟨a, vs, n, e1, e2, e3, e4, e5⟩ := h
  rw [VR]; exact ⟨a, vs, n, e1, L.new e2, e3, e.vrs e4, e5⟩
end
section
variable {S : Stat} {X : List Addr} {f : List Loc} {σ : Sto} {h : Heap}
inductive ListAt (S : Stat) (X : List Addr) (f : List Loc) (h : Heap) (xs : List V) (v : Value) : Prop
  | mk (a : Addr) (vs : Array Value) (n : Nat) (e : v = .ref a) (i : IsL h a vs n) (p : VRs S X f h xs vs.toList) (hl : xs.length ≤ LIM)
theorem zAg (L : Lk S X f σ h) {x : V} {v : Value} {xs : List V} (e : listOf? σ x = some xs) (r : VR S X f h x v) : ListAt S X f h xs v := by
  cases x with
  | lst ys =>
    cases e
    rw [VR] at r
    obtain ⟨a, vs, n, e1, _, e3, e4, e5⟩ := r
    exact ⟨a, vs, n, e1, e3, e4, e5⟩
  | ref k =>
    rw [VR] at r
    obtain ⟨l, hl, rfl⟩ := r
    cases ho : σ[k]? with
    | none => simp only [listOf?, ho, listR] at e; cases e
    | some o =>
      simp only [listOf?, ho] at e
      cases o <;> cases e
      have := L.obj k l _ hl ho
      obtain ⟨a, d⟩ := l
      cases d with
      | none => obtain ⟨vs, n, e1, e2, e3⟩ := this; exact ⟨a, vs, n, rfl, e1, e2, e3⟩
      | some d => exact this.elim
  | _ => first | exact zAA e | exact ff_tt e | cases e
inductive ItemsAt (S : Stat) (X : List Addr) (f : List Loc) (h : Heap) (xs : List V) (v : Value) : Prop
  | mk (a : Addr) (vs : Array Value) (n : Nat) (e : v = .ref a) (i : IsL h a vs n ∨ IsT h a vs n) (p : VRs S X f h xs vs.toList) (hl : xs.length ≤ LIM)
theorem zCr (L : Lk S X f σ h) {x : V} {v : Value} {xs : List V} (e : itemsOf σ x = some xs) (r : VR S X f h x v) :
    ItemsAt S X f h xs v := by
  cases x with
  | tup ys =>
    cases e
    rw [VR] at r
    obtain ⟨a, vs, n, e1, _, e3, e4, e5⟩ := r
    exact ⟨a, vs, n, e1, .inr e3, e4, e5⟩
  | lst ys =>
    obtain ⟨a, vs, n, e1, e2, e3, e4⟩ := zAg L (x := .lst ys) (xs := xs) e r
    exact ⟨a, vs, n, e1, .inl e2, e3, e4⟩
  | ref k =>
    obtain ⟨a, vs, n, e1, e2, e3, e4⟩ := zAg L (x := .ref k) (xs := xs) e r
    exact ⟨a, vs, n, e1, .inl e2, e3, e4⟩
  | _ => first | exact zAA e | exact ff_tt e | cases e
theorem zDK : ∀ {xs : List V} {vs : List Value}, VRs S X f h xs vs → ∀ {i : Nat} {x : V}, xs[i]? = some x → ∃ v, vs[i]? = some v ∧ VR S X f h x v
  | x :: xs, v :: vs, r, 0, y, e => by rw [VRs] at r; simp at e; subst e; exact ⟨v, by simp, r.1⟩
  | x :: xs, v :: vs, r, i + 1, y, e => by rw [VRs] at r; simp at e; obtain ⟨w, h1, h2⟩ := zDK r.2 e; exact ⟨w, by simpa using h1, h2⟩
  | [], _, _, _, _, e => by simp at e
  | _ :: _, [], r, _, _, _ => by rw [VRs] at r; exact r.elim
theorem zBB : ∀ {xs ys : List V} {vs ws : List Value}, VRs S X f h xs vs → VRs S X f h ys ws → VRs S X f h (xs ++ ys) (vs ++ ws)
  | [], _, [], _, _, b => b
  | x :: xs, ys, v :: vs, ws, a, b => by rw [VRs] at a; show VRs S X f h (x :: (xs ++ ys)) (v :: (vs ++ ws)); rw [VRs]; exact ⟨a.1, zBB a.2 b⟩
  | [], _, _ :: _, _, a, _ => by rw [VRs] at a; exact a.elim
  | _ :: _, _, [], _, a, _ => by rw [VRs] at a; exact a.elim
theorem VRs_take : ∀ {xs : List V} {vs : List Value}, VRs S X f h xs vs → ∀ n, VRs S X f h (xs.take n) (vs.take n)
  | [], [], _, n => by simp [VRs]
  | x :: xs, v :: vs, r, 0 => by simp [VRs]
  | x :: xs, v :: vs, r, n + 1 => by rw [VRs] at r; simp only [List.take_succ_cons]; rw [VRs]; exact ⟨r.1, VRs_take r.2 n⟩
  | [], _ :: _, a, _ => by rw [VRs] at a; exact a.elim
  | _ :: _, [], a, _ => by rw [VRs] at a; exact a.elim
theorem VRs_drop : ∀ {xs : List V} {vs : List Value}, VRs S X f h xs vs → ∀ n, VRs S X f h (xs.drop n) (vs.drop n)
  | [], [], _, n => by simp [VRs]
  | x :: xs, v :: vs, r, 0 => by simpa using r
  | x :: xs, v :: vs, r, n + 1 => by rw [VRs] at r; simp only [List.drop_succ_cons]; exact VRs_drop r.2 n
  | [], _ :: _, a, _ => by rw [VRs] at a; exact a.elim
  | _ :: _, [], a, _ => by rw [VRs] at a; exact a.elim
theorem VRs_set : ∀ {xs : List V} {vs : List Value}, VRs S X f h xs vs → ∀ {i : Nat} {x : V} {v : Value}, VR S X f h x v → VRs S X f h (xs.set i x) (vs.set i v)
  | [], [], _, n, _, _, _ => by simp [VRs]
  | x :: xs, v :: vs, r, 0, _, _, q => by rw [VRs] at r; simp only [List.set_cons_zero]; rw [VRs]; exact ⟨q, r.2⟩
  | x :: xs, v :: vs, r, n + 1, _, _, q => by rw [VRs] at r; simp only [List.set_cons_succ]; rw [VRs]; exact ⟨r.1, VRs_set r.2 q⟩
  | [], _ :: _, a, _, _, _, _ => by rw [VRs] at a; exact a.elim
  | _ :: _, [], a, _, _, _, _ => by rw [VRs] at a; exact a.elim
theorem ints_at : ∀ {xs : List V} {vs : List Value} {l : List Int}, ints? xs = some l → VRs S X f h xs vs → ∃ ys : List (Int × Tok), vs = ys.map (fun p => .int p.1 p.2) ∧ ys.map (·.1) = l
  | [], [], l, e, _ => by simp [ints?] at e; subst e; exact ⟨[], rfl, rfl⟩
  | x :: xs, v :: vs, l, e, r => by
    rw [VRs] at r
    simp only [ints?, List.mapM_cons] at e
    cases x with
    | int i =>
      obtain ⟨t, rfl⟩ := (by simpa [VR] using r.1 : ∃ t, v = .int i t)
      simp only [intOf?] at e
      cases hl : xs.mapM intOf? with
      | none => first | (rw [hl] at e; exact zAA e) | simp [hl] at e
      | some l' =>
        simp [hl] at e
        obtain ⟨ys, e1, e2⟩ := ints_at (l := l') hl r.2
        subst e
        exact ⟨(i, t) :: ys, by simp [e1], by simp [e2]⟩
    | _ => simp [intOf?] at e
  | [], _ :: _, _, _, a => by rw [VRs] at a; exact a.elim
  | _ :: _, [], _, _, a => by rw [VRs] at a; exact a.elim
theorem bools_at : ∀ {xs : List V} {vs : List Value} {l : List Bool}, bools? xs = some l → VRs S X f h xs vs → vs = l.map .bool
  | [], [], l, e, _ => by simp [bools?] at e; subst e; rfl
  | x :: xs, v :: vs, l, e, r => by
    rw [VRs] at r
    simp only [bools?, List.mapM_cons] at e
    cases x with
    | bool i =>
      obtain rfl := (by simpa [VR] using r.1 : v = .bool i)
      simp only [boolOf?] at e
      cases hl : xs.mapM boolOf? with
      | none => first | (rw [hl] at e; exact zAA e) | simp [hl] at e
      | some l' =>
        simp [hl] at e
        subst e
        rw [List.map_cons, bools_at (l := l') hl r.2]
    | _ => simp [boolOf?] at e
  | [], _ :: _, _, _, a => by rw [VRs] at a; exact a.elim
  | _ :: _, [], _, _, a => by rw [VRs] at a; exact a.elim
theorem strs_at : ∀ {xs : List V} {vs : List Value} {l : List Str}, strs? xs = some l → VRs S X f h xs vs → ∃ ys : List (Str × Tok), vs = ys.map (fun p => .str p.1 p.2) ∧ ys.map (·.1) = l ∧ ∀ x ∈ l, x.length ≤ LIM ∧ PyData.strOk x = true
  | [], [], l, e, _ => by simp [strs?] at e; subst e; exact ⟨[], rfl, rfl, fun _ h => nomatch h⟩
  | x :: xs, v :: vs, l, e, r => by
    rw [VRs] at r
    simp only [strs?, List.mapM_cons] at e
    cases x with
    | str i =>
      obtain ⟨⟨t, rfl⟩, q⟩ := (by simpa [VR] using r.1 : (∃ t, v = .str i t) ∧ i.length ≤ LIM ∧ PyData.strOk i = true)
      simp only [strOf?] at e
      cases hl : xs.mapM strOf? with
      | none => first | (rw [hl] at e; exact zAA e) | simp [hl] at e
      | some l' =>
        simp [hl] at e
        obtain ⟨ys, e1, e2, e3⟩ := strs_at (l := l') hl r.2
        subst e
        exact ⟨(i, t) :: ys, by simp [e1], by simp [e2], fun x hx => (List.mem_cons.mp hx).elim (fun e => e ▸ q) (e3 x)⟩
    | _ => simp [strOf?] at e
  | [], _ :: _, _, _, a => by rw [VRs] at a; exact a.elim
  | _ :: _, [], _, _, a => by rw [VRs] at a; exact a.elim
end
end Mine
end

/-! # Ops2 -/
section
set_option autoImplicit false
namespace Mine
open PySem PyProof.Rows
theorem zAo : LIM ≤ sizeLine := by decide
theorem zAz {n : Nat} (h : n ≤ LIM) : (n : Int) < 2 ^ 63 := by have : LIM = 1048576 := rfl; omega
theorem app_arr (vs ws : Array Value) : (vs.toList ++ ws.toList).toArray = vs ++ ws := by apply Array.toList_inj.mp; simp
theorem bits_small {a : Int} (h : smallFactor a = true) : Builtin.Int.intBits a ≤ 64 := by
  have h' : a.natAbs < 2 ^ 64 := of_decide_eq_true h
  unfold Builtin.Int.intBits
  split
  · omega
  · rename_i hz
    have hne : a.natAbs ≠ 0 := by intro e; apply hz; simp; omega
    have := (Nat.log2_lt hne).mpr h'
    omega
section
variable {S : Stat} {A : Around} {X : List Addr} {f : List Loc} {σ : Sto} {s : Shared} {E : Value → Shared → Prop}
noncomputable def PE (S : Stat) (X : List Addr) (f : List Loc) (s : Shared) (x : V) (v : Value) (s' : Shared) : Prop := Ext s s' ∧ VR S X f s'.heap x v ∧ ∀ xs, x = .lst xs → NewL S X f s s' xs v
theorem PE.int {i : Int} {t tk : Nat} : PE S X f s (.int i) (.int i t) { s with toks := tk } := ⟨.toks s tk, by rw [VR]; exact ⟨t, rfl⟩, fun _ e => by cases e⟩
theorem PE.bool {b : Bool} {tk : Nat} : PE S X f s (.bool b) (.bool b) { s with toks := tk } := ⟨.toks s tk, by rw [VR], fun _ e => by cases e⟩
theorem PE.bool0 {b : Bool} : PE S X f s (.bool b) (.bool b) s := ⟨.refl s, by rw [VR], fun _ e => by cases e⟩
theorem PE.str {x : Str} {t tk : Nat} (h1 : x.length ≤ LIM) (h2 : PyData.strOk x = true) : PE S X f s (.str x) (.str x t) { s with toks := tk } := ⟨.toks s tk, by rw [VR]; exact ⟨⟨t, rfl⟩, h1, h2⟩, fun _ e => by cases e⟩
theorem PE.intH {i : Int} {t : Tok} {h' : Heap} {tk : Nat} (k : ∀ b o, s.heap.get? b = some o → h'.get? b = some o) : PE S X f s (.int i) (.int i t) { s with heap := h', toks := tk } := ⟨.heap k, by rw [VR]; exact ⟨t, rfl⟩, fun _ e => by cases e⟩
theorem PE.boolH {i : Bool} {h' : Heap} {tk : Nat} (k : ∀ b o, s.heap.get? b = some o → h'.get? b = some o) : PE S X f s (.bool i) (.bool i) { s with heap := h', toks := tk } := ⟨.heap k, by rw [VR], fun _ e => by cases e⟩
theorem zAe {i : Int} {v : Value} {h : Heap} (r : VR S X f h (.int i) v) : ∃ t, v = .int i t := by rwa [VR] at r
theorem zBv {i : Bool} {v : Value} {h : Heap} (r : VR S X f h (.bool i) v) : v = .bool i := by rwa [VR] at r
theorem zAu {i : Str} {v : Value} {h : Heap} (r : VR S X f h (.str i) v) : (∃ t, v = .str i t) ∧ i.length ≤ LIM ∧ PyData.strOk i = true := by rwa [VR] at r
theorem vr_none {v : Value} {h : Heap} (r : VR S X f h .none v) : v = .none := by rwa [VR] at r
theorem zDt {xs : List V} {v : Value} {h : Heap} (r : VR S X f h (.tup xs) v) : SeqAt X f (IsT h) (VRs S X f h xs) xs.length v := by rwa [VR] at r
theorem zBc {x y : Str} (hx : PyData.strOk x = true) (hy : PyData.strOk y = true) : PyData.strOk (x ++ y) = true := by
  show (x.cps ++ y.cps).all _ = true
  rw [Array.all_append]
  exact Bool.and_eq_true_iff.mpr ⟨hx, hy⟩
theorem length_append (x y : Str) : (x ++ y).length = x.length + y.length := by show (x.cps ++ y.cps).size = _; simp [Str.length]
theorem zAN {xs : List V} {vs : Array Value} {h : Heap} (r : VRs S X f h xs vs.toList) : vs.size = xs.length := by
  have := zBO r; simpa using this.symm
theorem zEV {vs : List Value} {xs : List V} {tk : Nat} (L : Lk S X f σ s.heap) (r : VRs S X f s.heap xs vs) (hl : xs.length ≤ LIM) :
    PE S X f s (.lst xs) (.ref s.heap.objs.size) { s with heap := s.heap.push { cls := .type "list", data := .seq vs.toArray }, toks := tk } := by
  have e : Ext s { s with heap := s.heap.push { cls := .type "list", data := .seq vs.toArray }, toks := tk } := .heap fun b o h => Heap.get?_push_of_some _ h
  have nl : NewL S X f s { s with heap := s.heap.push { cls := .type "list", data := .seq vs.toArray }, toks := tk } xs (.ref s.heap.objs.size) :=
    ⟨_, vs.toArray, 0, rfl, zAn _, Heap.get?_push_size _ rfl, by simpa using r, hl⟩
  exact ⟨e, nl.vr L e, fun ys q => by cases q; exact nl⟩
theorem zEU {vs : List Value} {xs : List V} {tk : Nat} (L : Lk S X f σ s.heap) (r : VRs S X f s.heap xs vs) (hl : xs.length ≤ LIM) :
    PE S X f s (.tup xs) (.ref s.heap.objs.size) { s with heap := s.heap.push { cls := .type "tuple", data := .seq vs.toArray }, toks := tk } := by
  have e : Ext s { s with heap := s.heap.push { cls := .type "tuple", data := .seq vs.toArray }, toks := tk } := .heap fun b o h => Heap.get?_push_of_some _ h
  refine ⟨e, ?_, fun ys q => by cases q⟩
  rw [VR]
  exact ⟨_, vs.toArray, 0, rfl, L.new (zAn _), Heap.get?_push_size _ rfl, by simpa using e.vrs r, hl⟩
theorem bin_int {op : Operator} {o : P2} (ho : binOf op = some o) {i j : Int} {x : V} {t u : Tok} (e : ev2 o σ (.int i) (.int j) = some x) :
    wpAny (model S.prog S.w) A (binaryOp op (.int i t) (.int j u)) (PE S X f s x) E s := by
  cases op <;> cases ho
  · cases e; exact PyProof.Rows.add_int .int
  · cases e; exact PyProof.Rows.sub_int .int
  · delta ev2 at e; dsimp only at e
    split at e
    · rename_i h
      cases e
      exact PyProof.Rows.mul_int .int ((Bool.or_eq_true_iff.mp h).elim (fun h => .of_left (bits_small h)) fun h => .of_right (bits_small h))
    · first | exact zAA e | exact ff_tt e | cases e
  · delta ev2 at e; dsimp only at e
    split at e
    · first | exact zAA e | exact ff_tt e | cases e
    · rename_i h
      cases e
      exact PyProof.Rows.mod_int (by simpa using h) .int
  · delta ev2 at e; dsimp only at e
    split at e
    · rename_i h
      cases e
      simp only [Bool.and_eq_true, beq_iff_eq, decide_eq_true_eq] at h
      obtain ⟨⟨rfl, h1⟩, h2⟩ := h
      exact pow_int_small h1 (by omega) (by decide) .int
    · first | exact zAA e | exact ff_tt e | cases e
  · delta ev2 at e; dsimp only at e
    split at e
    · first | exact zAA e | exact ff_tt e | cases e
    · rename_i h
      cases e
      simp only [Bool.or_eq_true, beq_iff_eq, decide_eq_true_eq, not_or, Nat.not_le] at h
      exact floordiv_int h.1 .int (.inl (PyProof.noPylong_small h.2))
theorem add_sound {a b x : V} {va vb : Value} (L : Lk S X f σ s.heap) (e : ev2 .add σ a b = some x) (ra : VR S X f s.heap a va) (rb : VR S X f s.heap b vb) :
    wpAny (model S.prog S.w) A (binaryOp .Add va vb) (PE S X f s x) E s := by
  have lists : ∀ {xs ys : List V}, listOf? σ a = some xs → listOf? σ b = some ys → xs.length + ys.length ≤ LIM → wpAny (model S.prog S.w) A (binaryOp .Add va vb) (PE S X f s (.lst (xs ++ ys))) E s := by
    intro xs ys h1 h2 h3
    obtain ⟨p, vs, n, rfl, il, r1, l1⟩ := zAg L h1 ra
    obtain ⟨q, ws, m, rfl, il', r2, l2⟩ := zAg L h2 rb
    have z1 := zAN r1
    have z2 := zAN r2
    refine P.add_list il il' ?_ (by rw [z1, z2]; exact Nat.le_trans h3 zAo)
    have := zEV (tk := s.toks) L (zBB r1 r2) (by simpa using h3)
    rwa [app_arr] at this
  have gen : ((listOf? σ a).bind fun xs => (listOf? σ b).bind fun ys => if xs.length + ys.length ≤ LIM then some (V.lst (xs ++ ys)) else none) = some x → wpAny (model S.prog S.w) A (binaryOp .Add va vb) (PE S X f s x) E s := by
    intro e
    cases h1 : listOf? σ a with
    | none => first | (rw [h1] at e; exact zAA e) | simp [h1] at e
    | some xs =>
      cases h2 : listOf? σ b with
      | none => first | (rw [h1, h2] at e; exact zAA e) | (rw [h1, Option.bind_some, h2] at e; exact zAA e) | simp [h1, h2] at e
      | some ys =>
        simp only [h1, h2, Option.bind_some] at e
        split at e
        · rename_i h3; cases e; exact lists h1 h2 h3
        · first | exact zAA e | exact ff_tt e | cases e
  cases a with
  | int i =>
    cases b with
    | int j =>
      obtain ⟨t, rfl⟩ := zAe ra
      obtain ⟨u, rfl⟩ := zAe rb
      exact bin_int rfl e
    | _ => first | exact zAA e | exact ff_tt e | cases e
  | str i =>
    cases b with
    | str j =>
      obtain ⟨⟨t, rfl⟩, a1, a2⟩ := zAu ra
      obtain ⟨⟨u, rfl⟩, b1, b2⟩ := zAu rb
      delta ev2 at e; dsimp only at e
      split at e
      · rename_i h
        cases e
        refine PyProof.Rows.add_str (fun t' tk => .str ?_ (zBc a2 b2)) (Nat.le_trans h (by decide))
        rw [length_append]; exact Nat.le_trans h (by decide)
      · first | exact zAA e | exact ff_tt e | cases e
    | _ => first | exact zAA e | exact ff_tt e | cases e
  | tup xs =>
    cases b with
    | tup ys =>
      obtain ⟨p, vs, n, rfl, q1, il, r1, l1⟩ := zDt ra
      obtain ⟨q, ws, m, rfl, q2, il', r2, l2⟩ := zDt rb
      delta ev2 at e; dsimp only at e
      split at e
      · rename_i h3
        cases e
        have z1 := zAN r1
        have z2 := zAN r2
        by_cases hv : vs = #[]
        · subst hv
          have : xs = [] := List.length_eq_zero_iff.mp (by simpa using z1.symm)
          subst this
          refine concat_meets ⟨_, il, rfl⟩ ⟨_, il', rfl⟩ noFill_tuple_add seq_tuple_add PySem.F.slot_tuple_add PySem.F.entry_tuple_add (PySem.F.args_tuple_add_2 _ _) (tuple_addW0 p q #[] ws n m none none #[] #[] (by simp)) ⟨il, il', ?_⟩
          exact ⟨.refl s, rb, fun _ q => by cases q⟩
        · by_cases hw : ws = #[]
          · subst hw
            have : ys = [] := List.length_eq_zero_iff.mp (by simpa using z2.symm)
            subst this
            refine concat_meets ⟨_, il, rfl⟩ ⟨_, il', rfl⟩ noFill_tuple_add seq_tuple_add PySem.F.slot_tuple_add PySem.F.entry_tuple_add (PySem.F.args_tuple_add_2 _ _) (tuple_addW1 p q vs #[] n m none none #[] #[] (by simpa using hv) (by simp)) ⟨il, il', ?_⟩
            rw [List.append_nil]
            exact ⟨.refl s, ra, fun _ q => by cases q⟩
          · refine P.add_tuple il il' (by simpa using hv) (by simpa using hw) ?_ (by rw [z1, z2]; exact Nat.le_trans h3 zAo)
            have := zEU (tk := s.toks) L (zBB r1 r2) (by simpa using h3)
            rwa [app_arr] at this
      · first | exact zAA e | exact ff_tt e | cases e
    | _ => first | exact zAA e | exact ff_tt e | cases e
  | lst xs => exact gen e
  | ref n => exact gen e
  | _ => first | exact zAA e | exact ff_tt e | cases e
theorem cmp_int {op : CmpOp} {o : P2} (ho : cmpOf op = some o) (hn : op ≠ .Eq ∧ op ≠ .NotEq ∧ op ≠ .In ∧ op ≠ .NotIn) {i j : Int} {x : V} {t u : Tok} (e : ev2 o σ (.int i) (.int j) = some x) :
    wpAny (model S.prog S.w) A (compareOp op (.int i t) (.int j u)) (PE S X f s x) E s := by
  cases op <;> cases ho
  · exact absurd rfl hn.1
  · exact absurd rfl hn.2.1
  · cases e; exact P.lt_int .bool0
  · cases e; exact P.le_int .bool0
  · cases e; exact P.gt_int .bool0
  · cases e; exact P.ge_int .bool0
  · exact absurd rfl hn.2.2.1
  · exact absurd rfl hn.2.2.2
theorem zCB {g : Int → Int → Option V} {a b x : V} (e : (match a, b with | .int x, .int y => g x y | _, _ => none) = some x) : ∃ i j, a = .int i ∧ b = .int j := by
  cases a with
  | int i =>
    cases b with
    | int j => exact ⟨_, _, rfl, rfl⟩
    | _ => first | exact zAA e | exact ff_tt e | cases e
  | _ => first | exact zAA e | exact ff_tt e | cases e
theorem cmp_ints {op : CmpOp} {o : P2} (ho : cmpOf op = some o) (hn : op ≠ .Eq ∧ op ≠ .NotEq ∧ op ≠ .In ∧ op ≠ .NotIn) {a b x : V} (e : ev2 o σ a b = some x) : ∃ i j, a = .int i ∧ b = .int j := by
  cases op <;> cases ho
  · exact absurd rfl hn.1
  · exact absurd rfl hn.2.1
  all_goals first
    | exact absurd rfl hn.2.2.1
    | exact absurd rfl hn.2.2.2
    | exact zCB e
theorem zAf {a : V} {va : Value} {b : Bool} (L : Lk S X f σ s.heap) (e : truthy σ a = some b) (ra : VR S X f s.heap a va) :
    wpAny (model S.prog S.w) A (PySem.truthy va) (fun c s' => c = b ∧ Ext s s') E s := by
  cases a with
  | none => obtain rfl := vr_none ra; cases e; exact wpAny_pure ⟨rfl, .refl s⟩
  | bool c => obtain rfl := zBv ra; cases e; exact wpAny_truthy_bool ⟨rfl, .refl s⟩
  | int i => obtain ⟨t, rfl⟩ := zAe ra; cases e; exact P.truthy_int ⟨rfl, .refl s⟩
  | str x =>
    obtain ⟨⟨t, rfl⟩, h1, h2⟩ := zAu ra
    cases e
    refine P.truthy_str (by have := zAz h1; omega) ⟨?_, .toks s _⟩
    cases h : x.length <;> simp
    omega
  | tup xs =>
    obtain ⟨p, vs, n, rfl, q1, il, r1, l1⟩ := zDt ra
    cases e
    have z := zAN r1
    refine PyProof.Rows.truthy_tuple ⟨_, il, rfl, n, rfl⟩ (by rw [z]; exact zAz l1) ⟨?_, .toks s _⟩
    cases xs <;> simp_all [Array.isEmpty]
  | lst xs =>
    cases e
    obtain ⟨p, vs, n, rfl, il, r1, l1⟩ := zAg L (x := .lst xs) rfl ra
    have z := zAN r1
    refine wpAny_truthy_list (IsL.isList il) (by rw [z]; exact zAz l1) ⟨?_, .toks s _⟩
    cases xs <;> simp_all [Array.isEmpty]
  | ref k =>
    delta truthy at e; dsimp only at e
    split at e
    · rename_i ys ho
      cases e
      obtain ⟨p, vs, n, rfl, il, r1, l1⟩ := zAg L (x := .ref k) (xs := ys) (by simp [listOf?, ho, listR]) ra
      have z := zAN r1
      refine wpAny_truthy_list (IsL.isList il) (by rw [z]; exact zAz l1) ⟨?_, .toks s _⟩
      cases ys <;> simp_all [Array.isEmpty]
    · first | exact zAA e | exact ff_tt e | cases e
  | undef => first | exact zAA e | exact ff_tt e | cases e
  | exc _ => first | exact zAA e | exact ff_tt e | cases e
  | parts => first | exact zAA e | exact ff_tt e | cases e
theorem len_seq {v : Value} {xs : List V} {a : Addr} {vs : Array Value} {n : Nat} (hv : v = .ref a) (il : IsL s.heap a vs n ∨ IsT s.heap a vs n) (r : VRs S X f s.heap xs vs.toList) (l : xs.length ≤ LIM) :
    wpAny (model S.prog S.w) A (call (.builtin "len") [v]) (PE S X f s (.int xs.length)) E s := by
  subst hv
  have z := zAN r
  rcases il with il | il
  · have := Calls.call_len_list (prog := S.prog) (w := S.w) (A := A) (E := E) (Q := PE S X f s (.int xs.length)) (IsL.isList il) (by rw [z]; exact zAz l) (by rw [z]; exact .int)
    exact this
  · exact PyProof.Rows.len_tuple ⟨_, il, rfl, n, rfl⟩ (by rw [z]; exact zAz l) (by rw [z]; exact .int)
theorem len_sound {a x : V} {va : Value} (L : Lk S X f σ s.heap) (e : ev1 .len σ a = some x) (ra : VR S X f s.heap a va) :
    wpAny (model S.prog S.w) A (call (.builtin "len") [va]) (PE S X f s x) E s := by
  have gen : ∀ {xs : List V}, itemsOf σ a = some xs → x = .int xs.length → wpAny (model S.prog S.w) A (call (.builtin "len") [va]) (PE S X f s x) E s := by
    intro xs h1 h2
    obtain ⟨p, vs, n, h3, il, r1, l1⟩ := zCr L h1 ra
    rw [h2]; exact len_seq h3 il r1 l1
  cases a with
  | str y =>
    obtain ⟨⟨t, rfl⟩, h1, h2⟩ := zAu ra
    cases e
    exact PyProof.Rows.len_str (by have := zAz h1; omega) .int
  | tup xs => cases e; exact gen rfl rfl
  | lst xs => cases e; exact gen rfl rfl
  | ref k =>
    delta ev1 at e; dsimp only at e
    split at e
    · rename_i ys ho
      cases e
      exact gen (xs := ys) (by simp [itemsOf, ho]) rfl
    · first | exact zAA e | exact ff_tt e | cases e
  | _ => first | exact zAA e | exact ff_tt e | cases e
theorem zBs {n : Nat} {i : Int} {k : Nat} (h : normIndex n i = some k) : seqIndex? i n = some k ∧ k < n ∧ (0 ≤ i → k = i.toNat) ∧ (i < 0 → 0 ≤ i + n ∧ k = (i + n).toNat) := by
  unfold normIndex at h
  split at h
  · rename_i h0
    split at h
    · rename_i h1
      cases h
      refine ⟨seqIndex_of h0 (by omega), h1, fun _ => rfl, fun h => by omega⟩
    · first | exact zAA h | exact ff_tt h | cases h
  · rename_i h0
    split at h
    · rename_i h1
      cases h
      refine ⟨seqIndex_neg (by omega) (by omega), by omega, fun h => by omega, fun _ => ⟨h1, rfl⟩⟩
    · first | exact zAA h | exact ff_tt h | cases h
theorem getItem_seq {xs : List V} {a : Addr} {vs : Array Value} {n : Nat} {i : Int} {t : Tok} {k : Nat} {x : V} (il : IsL s.heap a vs n ∨ IsT s.heap a vs n) (r : VRs S X f s.heap xs vs.toList) (l : xs.length ≤ LIM)
    (hk : normIndex xs.length i = some k) (hx : xs[k]? = some x) :
    wpAny (model S.prog S.w) A (getItem (.ref a) (.int i t)) (fun v s' => s' = s ∧ VR S X f s.heap x v) E s := by
  have z := zAN r
  obtain ⟨v, hv, rv⟩ := zDK r hx
  rw [Array.getElem?_toList] at hv
  obtain ⟨h1, h2, h3, h4⟩ := zBs hk
  have hl := zAz l
  rcases il with il | il
  · by_cases h0 : 0 ≤ i
    · rw [h3 h0] at hv
      exact wpAny_getItem_list (IsL.isList il) h0 (by have := h3 h0; omega) hv ⟨rfl, rv⟩
    · obtain ⟨h5, h6⟩ := h4 (by omega)
      rw [h6] at hv
      exact wpAny_getItem_list_neg (IsL.isList il) (by omega) (by rw [z]; omega) (by omega) (by rw [z]; exact hv) ⟨rfl, rv⟩
  · refine PyProof.Rows.getItem_tuple ⟨_, il, rfl, n, rfl⟩ ?_ ?_ (by rw [z]; exact h1) hv ⟨rfl, rv⟩
    · by_cases h0 : 0 ≤ i
      · omega
      · have := h4 (by omega); omega
    · by_cases h0 : 0 ≤ i
      · have := h3 h0; omega
      · omega
end
end Mine
end

/-! # Ops3 -/
section
set_option autoImplicit false
namespace Mine
open PySem PyProof.Rows
theorem clip_int (n : Nat) (i : Int) : ((if i < 0 then (i + n).toNat else min i.toNat n : Nat) : Int) = if i < 0 then max (i + n) 0 else min i n := by
  split
  · rw [Int.max_comm]; exact Int.toNat_eq_max (i + n) |>.trans (Int.max_comm _ _)
  · rename_i h
    rw [Lean.Omega.Int.ofNat_min, Int.toNat_of_nonneg (Int.not_lt.mp h)]
theorem clip_eq (n : Nat) (i : Int) : (if i < 0 then (i + n).toNat else min i.toNat n) = (max 0 (min (if i < 0 then i + n else i) n)).toNat := by
  split
  · rename_i h
    rw [Int.min_eq_left (by omega), Int.max_comm, ← Int.toNat_eq_max, Int.toNat_natCast]
  · rename_i h
    have h := Int.not_lt.mp h
    have e : (i : Int) = (i.toNat : Int) := (Int.toNat_of_nonneg h).symm
    rw [Int.max_eq_right (Int.le_min.mpr ⟨h, Int.natCast_nonneg n⟩)]
    generalize i.toNat = k at e
    subst e
    rw [← Lean.Omega.Int.ofNat_min, Int.toNat_natCast]
theorem clip_start (n : Nat) (lo : Option Int) : sliceStart n lo = lo.elim 0 (clipAt n) := by
  cases lo with
  | none => rfl
  | some i =>
    exact clip_eq n i
theorem clip_stop (n : Nat) (hi : Option Int) : sliceStop n hi = hi.elim n (clipAt n) := by
  cases hi with
  | none => rfl
  | some i =>
    exact clip_eq n i
theorem zDu {α : Type} (xs : List α) (lo hi : Option Int) : sliceL xs lo hi = (xs.drop (sliceStart xs.length lo)).take (sliceStop xs.length hi - sliceStart xs.length lo) := by
  unfold sliceL; rw [List.drop_take]
theorem zCv {α : Type} (xs : List α) (lo hi : Option Int) : (sliceL xs lo hi).length ≤ xs.length := by
  unfold sliceL; simp; omega
theorem adjust_plain (lo hi : Option Int) (n : Nat) : Builtin.Slice.sliceAdjust lo hi 1 (n : Int) = ((sliceStart n lo : Int), (sliceStop n hi : Int)) := by
  have h1 : ¬ ((1 : Int) < 0) := by omega
  unfold Builtin.Slice.sliceAdjust
  simp only [h1, if_false]
  congr 1
  · cases lo with
    | none => rfl
    | some i => exact (clip_int n i).symm
  · cases hi with
    | none => rfl
    | some i => exact (clip_int n i).symm
theorem places_plain (a b : Nat) : Builtin.Slice.slicePlaces (a : Int) (b : Int) 1 = b - a := by
  unfold Builtin.Slice.slicePlaces
  have h1 : (1 : Int) > 0 := by omega
  simp only [h1, if_true, Int.ediv_one]
  split <;> omega
theorem pick_plain (xs : Array Value) (a k : Nat) : ((List.range k).filterMap fun (i : Nat) => xs[((a : Int) + (i : Int) * 1).toNat]?).toArray = ((xs.toList.drop a).take k).toArray := by
  have e : (fun (i : Nat) => xs[((a : Int) + (i : Int) * 1).toNat]?) = fun i => xs[a + i]? := by
    funext i
    have : ((a : Int) + (i : Int) * 1).toNat = a + i := by omega
    rw [this]
  rw [e]
  have := pick_run xs a k
  rw [List.filterMap_map] at this
  have e2 : ((fun x => xs[x]?) ∘ fun x => a + x) = fun k => xs[a + k]? := rfl
  rw [e2] at this
  rw [this]
section
variable {S : Stat} {A : Around} {X : List Addr} {f : List Loc} {σ : Sto} {s : Shared} {E : Value → Shared → Prop}
theorem zCD {v : Value} {k : Option Int} {Q : Option Int → Shared → Prop} (hv : IsPart v k) (h : Q k s) : wpAny (model S.prog S.w) A (Builtin.Slice.slicePartIndex v) Q E s := by
  cases hv with
  | none => exact slicePart_none h
  | int i t => exact slicePart_int h
theorem zCE {sl : Addr} {vl vu : Value} {lo hi : Option Int} {n : Nat} {Q : Int × Int × Nat → Shared → Prop} (hs : s.heap.IsSliceOf sl vl vu .none) (pl : IsPart vl lo) (pu : IsPart vu hi)
    (h : Q ((sliceStart n lo : Int), 1, sliceStop n hi - sliceStart n lo) s) :
    wpAny (model S.prog S.w) A (Builtin.Slice.sliceApplied (.ref sl) (pure (n : Int))) Q E s := by
  obtain ⟨os, hos, hcs, hds⟩ := id hs
  unfold Builtin.Slice.sliceApplied Builtin.Slice.sliceFields
  refine wpAny_bind (wpAny_bind (wpAny_field hos hds (x := vl) rfl (wpAny_bind (wpAny_field hos hds (x := vu) rfl (wpAny_bind (wpAny_field hos hds (x := .none) rfl (wpAny_pure ?_)))))))
  refine wpAny_bind (slicePart_none ?_)
  show wpAny _ _ (if ((1 : Int) == 0) = true then _ else _) _ _ s
  rw [if_neg (by decide)]
  refine wpAny_bind (zCD pl (wpAny_bind (zCD pu (wpAny_bind (wpAny_pure ?_)))))
  show wpAny _ _ (match Builtin.Slice.sliceAdjust lo hi 1 (n : Int) with | (lo, hi) => pure (lo, (1 : Int), Builtin.Slice.slicePlaces lo hi 1)) _ _ s
  rw [adjust_plain]
  show wpAny _ _ (pure ((sliceStart n lo : Int), (1 : Int), Builtin.Slice.slicePlaces (sliceStart n lo : Int) (sliceStop n hi : Int) 1)) _ _ s
  rw [places_plain]
  exact wpAny_pure h
theorem zCu {t sl : Addr} {xs : List V} {vs : Array Value} {n : Nat} {vl vu : Value} {lo hi : Option Int} (L : Lk S X f σ s.heap) (q : t ∉ addrs f ∧ t ∉ X) (il : IsT s.heap t vs n) (r : VRs S X f s.heap xs vs.toList) (l : xs.length ≤ LIM)
    (hs : s.heap.IsSliceOf sl vl vu .none) (pl : IsPart vl lo) (pu : IsPart vu hi) :
    wpAny (model S.prog S.w) A (getItem (.ref t) (.ref sl)) (PE S X f s (.tup (sliceL xs lo hi))) E s := by
  have ht : IsTup s.heap t vs := ⟨_, il, rfl, n, rfl⟩
  have z := zAN r
  obtain ⟨os, hos, hcs, hds⟩ := id hs
  have hTs : s.TypeIs (.ref sl) "slice" := ⟨os, hos, hcs⟩
  unfold getItem
  try with_reducible refine wpAny_holding ?_
  first | refine wpAny_bind (wpAny_pure ?_) | skip
  refine wpAny_bind (wpAny_sequenceKey ht.typeIs (by decide) ?_)
  refine wpAny_bind (wpAny_callSpecial?_slot (name := Str.ofString "__getitem__") ht.typeIs slot_tuple_getitem
    (wpAny_call_entry slot_tuple_getitem ht.typeIs entry_tuple_getitem ?_ (args_tuple_getitem _ _)))
  show wpAny _ _ (Builtin.Tuple.tupleItemsOf (.ref t) >>= _) _ _ s
  refine wpAny_bind (tupleItemsOf_ ht ?_)
  refine wpAny_bind (wpAny_typeOf hTs ?_)
  rw [if_pos (by decide)]
  refine wpAny_bind (zCE hs pl pu ?_)
  show wpAny _ _ (if ((sliceStart vs.size lo : Int) == 0 && (1 : Int) == 1 && (sliceStop vs.size hi - sliceStart vs.size lo) == vs.size) = true then _ else _) _ _ s
  by_cases hw : ((sliceStart vs.size lo : Int) == 0 && (1 : Int) == 1 && (sliceStop vs.size hi - sliceStart vs.size lo) == vs.size) = true
  · rw [if_pos hw]
    simp only [Bool.and_eq_true, beq_iff_eq] at hw
    have hz : sliceStart vs.size lo = 0 := by have := hw.1.1; omega
    have he : sliceL xs lo hi = xs := by
      rw [zDu, ← z, hz, List.drop_zero, List.take_of_length_le]
      have := hw.2; rw [hz] at this; omega
    rw [he]
    have fin : PE S X f s (.tup xs) (.ref t) s := ⟨.refl s, by rw [VR]; exact ⟨t, vs, n, rfl, q, il, r, l⟩, fun _ q => by cases q⟩
    unfold Builtin.Tuple.tupleIsExact
    refine wpAny_bind (wpAny_bind (wpAny_typeOf ht.typeIs (wpAny_pure ?_)))
    rw [if_pos (by decide)]
    exact wpAny_bind (wpAny_rule (wpAny_pure ⟨_, rfl, wpAny_pure fin⟩))
  · rw [if_neg hw, pick_plain]
    have hd : ((vs.toList.drop (sliceStart vs.size lo)).take (sliceStop vs.size hi - sliceStart vs.size lo)) = sliceL vs.toList lo hi := by rw [zDu]; simp
    rw [hd]
    have hdrop : sizeOk (.seq (sliceL vs.toList lo hi).toArray) := by
      show (sliceL vs.toList lo hi).toArray.size ≤ sizeLine
      rw [List.size_toArray]
      have := zCv vs.toList lo hi
      have h2 : vs.toList.length = xs.length := by simpa using z
      have := zAo
      omega
    have rr : VRs S X f s.heap (sliceL xs lo hi) (sliceL vs.toList lo hi) := by
      unfold sliceL
      have h2 : vs.toList.length = xs.length := by simpa using z
      rw [h2]
      exact VRs_drop (VRs_take r _) _
    have h := zEU (tk := s.toks) L rr (Nat.le_trans (zCv xs lo hi) l)
    first
      | exact wpAny_bind (m := Builtin.Tuple.tupleExact _) (wpAny_newObj_type (wpAny_pure ⟨_, rfl, wpAny_pure h⟩) hdrop)
      | exact wpAny_bind (m := Builtin.Tuple.tupleExact _) (wpAny_newObj_type (wpAny_bind (wpAny_pure (wpAny_pure ⟨_, rfl, wpAny_pure h⟩))) hdrop)
      | exact wpAny_bind (wpAny_bind (m := Builtin.Tuple.tupleExact _) (wpAny_newObj_type (wpAny_pure (wpAny_pure ⟨_, rfl, wpAny_pure h⟩)) hdrop))
      | exact wpAny_bind (wpAny_bind (m := Builtin.Tuple.tupleExact _) (wpAny_newObj_type (wpAny_pure ⟨_, rfl, wpAny_pure h⟩) hdrop))
theorem zDR {t sl : Addr} {xs : List V} {vs : Array Value} {n : Nat} {vl vu : Value} {lo hi : Option Int} (L : Lk S X f σ s.heap) (il : IsL s.heap t vs n) (r : VRs S X f s.heap xs vs.toList) (l : xs.length ≤ LIM)
    (hs : s.heap.IsSliceOf sl vl vu .none) (pl : IsPart vl lo) (pu : IsPart vu hi) :
    wpAny (model S.prog S.w) A (getItem (.ref t) (.ref sl)) (PE S X f s (.lst (sliceL xs lo hi))) E s := by
  have z := zAN r
  refine wpAny_getItem_list_slice (IsL.isList il) hs pl pu .none (by simp) ?_ (by rw [z]; exact Nat.le_trans l zAo)
  rw [slicePick_plain, ← clip_start, ← clip_stop]
  have hd : ((vs.toList.drop (sliceStart vs.size lo)).take (sliceStop vs.size hi - sliceStart vs.size lo)) = sliceL vs.toList lo hi := by rw [zDu]; simp
  rw [hd]
  have rr : VRs S X f s.heap (sliceL xs lo hi) (sliceL vs.toList lo hi) := by
    unfold sliceL
    have h2 : vs.toList.length = xs.length := by simpa using z
    rw [h2]
    exact VRs_drop (VRs_take r _) _
  exact zEV (tk := s.toks) L rr (Nat.le_trans (zCv xs lo hi) l)
end
end Mine
end

/-! # Ops4 -/
section
set_option autoImplicit false
namespace Mine
open PySem PyProof.Rows
section
variable {S : Stat} {A : Around} {X : List Addr} {f : List Loc} {σ : Sto} {s : Shared} {E : Value → Shared → Prop}
theorem intItems_of (ys : List (Int × Tok)) : (ys.map fun p => Value.int p.1 p.2).toArray = intItems ys.toArray := by simp [intItems]
theorem ints_list {a : V} {va : Value} {xs : List V} {l : List Int} (L : Lk S X f σ s.heap) (h1 : listOf? σ a = some xs) (h2 : ints? xs = some l) (ra : VR S X f s.heap a va) :
    ∃ (p : Addr) (ys : List (Int × Tok)), va = .ref p ∧ s.heap.IsList p (intItems ys.toArray) ∧ ys.map (·.1) = l := by
  obtain ⟨p, vs, n, rfl, il, r, _⟩ := zAg L h1 ra
  obtain ⟨ys, e1, e2⟩ := ints_at h2 r
  refine ⟨p, ys, rfl, ?_, e2⟩
  rw [← intItems_of, ← e1]
  exact IsL.isList il
theorem sum_sound {a x : V} {va : Value} (hh : A.handled = none) (L : Lk S X f σ s.heap) (e : ev1 .sum σ a = some x) (ra : VR S X f s.heap a va) :
    wpAny (model S.prog S.w) A (call (.builtin "sum") [va]) (PE S X f s x) E s := by
  delta ev1 at e; dsimp only at e
  cases h1 : listOf? σ a with
  | none => first | (rw [h1] at e; exact zAA e) | simp [h1] at e
  | some xs =>
    cases h2 : ints? xs with
    | none => first | (rw [h1, h2] at e; exact zAA e) | (rw [h1, Option.bind_some, h2] at e; exact zAA e) | simp [h1, h2] at e
    | some l =>
      simp [h1, h2] at e
      subst e
      obtain ⟨p, ys, rfl, il, rfl⟩ := ints_list L h1 h2 ra
      refine sum_intListG hh il fun h' tk t' k => ?_
      rw [preSum_eq, List.take_of_length_le (by simp)]
      exact .intH k
theorem toList_sound {a x : V} {va : Value} (L : Lk S X f σ s.heap) (e : ev1 .toList σ a = some x) (ra : VR S X f s.heap a va) :
    wpAny (model S.prog S.w) A (call (.type "list") [va]) (PE S X f s x) E s := by
  delta ev1 at e; dsimp only at e
  cases h1 : itemsOf σ a with
  | none => first | (rw [h1] at e; exact zAA e) | simp [h1] at e
  | some xs =>
    simp [h1] at e
    subst e
    obtain ⟨p, vs, n, rfl, il, r, l⟩ := zCr L h1 ra
    have z := zAN r
    have fin : ∀ (h' : Heap) (c' : Nat), (∀ b o', s.heap.get? b = some o' → h'.get? b = some o') → h'.get? s.heap.objs.size = some { cls := .type "list", data := .seq vs c' } → PE S X f s (.lst xs) (.ref s.heap.objs.size) { s with heap := h' } := by
      intro h' c' k hl
      have e : Ext s { s with heap := h' } := .heap (t := s.toks) k
      have nl : NewL S X f s { s with heap := h' } xs (.ref s.heap.objs.size) := ⟨_, vs, c', rfl, zAn _, hl, r, l⟩
      exact ⟨e, nl.vr L e, fun ys q => by cases q; exact nl⟩
    rcases il with il | il
    · exact call_list_seq p (T := "list") (.inl rfl) il rfl rfl fin (by rw [z]; exact Nat.le_trans l zAo)
    · exact call_list_seq p (T := "tuple") (.inr rfl) il rfl rfl fin (by rw [z]; exact Nat.le_trans l zAo)
theorem neg_sound {i : Int} {t : Tok} : wpAny (model S.prog S.w) A (unaryOp .USub (.int i t)) (PE S X f s (.int (-i))) E s := PyProof.Rows.neg_int .int
theorem min2_sound {i j : Int} {t u : Tok} (hh : A.handled = none) : wpAny (model S.prog S.w) A (call (.builtin "min") [.int i t, .int j u]) (PE S X f s (.int (if j < i then j else i))) E s := by
  refine min_two_ints hh fun h' tk k => ?_
  split <;> exact .intH k
theorem max2_sound {i j : Int} {t u : Tok} (hh : A.handled = none) : wpAny (model S.prog S.w) A (call (.builtin "max") [.int i t, .int j u]) (PE S X f s (.int (if j > i then j else i))) E s := by
  refine max_two_ints hh fun h' tk k => ?_
  split <;> exact .intH k
noncomputable def ReadsD (h : Heap) (v : Value) (p : PyData) (d : Nat) : Prop := (∃ as, Reads h v p as) ∧ p.canLay0 = true ∧ p.depth ≤ d
noncomputable def ReadsDs (h : Heap) (vs : List Value) (ps : List PyData) (d : Nat) : Prop := (∃ as, ReadsAll h vs ps as) ∧ PyData.canLayAll0 ps = true ∧ PyData.depthAll ps ≤ d
theorem toPy_all {h : Heap} {d : Nat} (ih : ∀ (x : V) (v : Value) (p : PyData), toPy σ d x = some p → VR S X f h x v → ReadsD h v p d) : ∀ (xs : List V) (vs : List Value) (ps : List PyData), xs.mapM (toPy σ d) = some ps → VRs S X f h xs vs → ReadsDs h vs ps d := by
  intro xs
  induction xs with
  | nil =>
    intro vs ps e r
    cases vs with
    | nil => cases e; exact ⟨⟨_, .nil⟩, rfl, Nat.zero_le _⟩
    | cons _ _ => rw [VRs] at r; exact r.elim
  | cons x xs ih2 =>
    intro vs ps e r
    cases vs with
    | nil => rw [VRs] at r; exact r.elim
    | cons v vs =>
      rw [VRs] at r
      rw [List.mapM_cons] at e
      obtain ⟨p, h1, e⟩ := Option.bind_eq_some_iff.mp e
      obtain ⟨ps', h2, e⟩ := Option.bind_eq_some_iff.mp e
      cases e
      obtain ⟨⟨as, a1⟩, a2, a3⟩ := ih x v p h1 r.1
      obtain ⟨⟨bs, b1⟩, b2, b3⟩ := ih2 vs ps' h2 r.2
      exact ⟨⟨_, .cons a1 b1⟩, by rw [PyData.canLayAll0, a2, b2]; rfl, by rw [PyData.depthAll]; exact Nat.max_le.mpr ⟨a3, b3⟩⟩
theorem zEl {h : Heap} (L : Lk S X f σ h) (d : Nat) : ∀ (x : V) (v : Value) (p : PyData), toPy σ d x = some p → VR S X f h x v → ReadsD h v p d := by
  induction d with
  | zero => intro x v p e; cases e
  | succ d ih =>
    intro x v p e r
    have lists : ∀ {xs : List V}, listOf? σ x = some xs → (xs.mapM (toPy σ d)).map PyData.list = some p → ReadsD h v p (d + 1) := fun h1 e => by
      obtain ⟨a, vs, n, rfl, il, rs, _⟩ := zAg L h1 r
      obtain ⟨ps, e1, rfl⟩ := Option.map_eq_some_iff.mp e
      obtain ⟨⟨as, r1⟩, r2, r3⟩ := toPy_all ih _ _ _ e1 rs
      exact ⟨⟨_, .list il rfl rfl r1⟩, r2, by rw [PyData.depth]; omega⟩
    cases x with
    | none => cases e; obtain rfl := vr_none r; exact ⟨⟨_, .none⟩, rfl, Nat.zero_le _⟩
    | bool b => cases e; obtain rfl := zBv r; exact ⟨⟨_, .bool b⟩, rfl, Nat.zero_le _⟩
    | int i => cases e; obtain ⟨t, rfl⟩ := zAe r; exact ⟨⟨_, .int i t⟩, rfl, Nat.zero_le _⟩
    | str y => cases e; obtain ⟨⟨t, rfl⟩, h1, h2⟩ := zAu r; exact ⟨⟨_, .str y t⟩, h2, Nat.zero_le _⟩
    | tup xs =>
      obtain ⟨a, vs, n, rfl, _, il, rs, _⟩ := zDt r
      have e : (xs.mapM (toPy σ d)).map PyData.tuple = some p := e
      obtain ⟨ps, e1, rfl⟩ := Option.map_eq_some_iff.mp e
      obtain ⟨⟨as, r1⟩, r2, r3⟩ := toPy_all ih _ _ _ e1 rs
      exact ⟨⟨_, .tuple il rfl rfl r1⟩, r2, by rw [PyData.depth]; omega⟩
    | lst xs => exact lists rfl e
    | ref k =>
      have e : toPyO (toPy σ d) σ[k]? = some p := e
      cases ho : σ[k]? with
      | none => rw [ho] at e; first | exact zAA e | exact ff_tt e | cases e
      | some o =>
        rw [ho] at e
        cases o with
        | list xs => exact lists (show listR σ[k]? = some xs by rw [ho]; rfl) e
        | _ => first | exact zAA e | exact ff_tt e | cases e
    | undef => first | exact zAA e | exact ff_tt e | cases e
    | exc _ => first | exact zAA e | exact ff_tt e | cases e
    | parts => first | exact zAA e | exact ff_tt e | cases e
theorem eqD_sound {a b : V} {va vb : Value} {r : Bool} (hu : A.units + 64 < cLine) (L : Lk S X f σ s.heap) (e : eqV.eqD σ a b = some r) (ra : VR S X f s.heap a va) (rb : VR S X f s.heap b vb) :
    wpAny (model S.prog S.w) A (compareOp .Eq va vb) (PE S X f s (.bool r)) E s ∧ wpAny (model S.prog S.w) A (compareOp .NotEq va vb) (PE S X f s (.bool !r)) E s := by
  unfold eqV.eqD at e
  cases h1 : toPy σ eqDepth a with
  | none => first | (rw [h1] at e; exact zAA e) | simp [h1] at e
  | some p =>
    cases h2 : toPy σ eqDepth b with
    | none => first | (rw [h1, h2] at e; exact zAA e) | (rw [h1, Option.bind_some, h2] at e; exact zAA e) | simp [h1, h2] at e
    | some q =>
      simp [h1, h2] at e
      subst e
      obtain ⟨⟨as, a1⟩, a2, a3⟩ := zEl L _ _ _ _ h1 ra
      obtain ⟨⟨bs, b1⟩, b2, b3⟩ := zEl L _ _ _ _ h2 rb
      have sa : SeqAt.shaped p = true := by unfold SeqAt.shaped; rw [a2, Bool.true_and]; exact decide_eq_true (Nat.le_trans a3 (by decide))
      have sb : SeqAt.shaped q = true := by unfold SeqAt.shaped; rw [b2, Bool.true_and]; exact decide_eq_true (Nat.le_trans b3 (by decide))
      exact ⟨SeqAt.compareEq_shaped a1 b1 sa sb hu .bool0, SeqAt.compareNe_shaped a1 b1 sa sb hu .bool0⟩
end
end Mine
end

/-! # Ops5 -/
section
set_option autoImplicit false
namespace Mine
open PySem PyProof.Rows
section
variable {S : Stat} {A : Around} {X : List Addr} {f : List Loc} {σ : Sto} {s : Shared} {E : Value → Shared → Prop}
theorem zEi (l : List Bool) : (List.range l.length).all (fun i => (l[i]?).getD true) = l.all id := by
  rw [Bool.eq_iff_iff, List.all_eq_true, List.all_eq_true]
  constructor
  · intro h x hx
    obtain ⟨i, hi, rfl⟩ := List.getElem_of_mem hx
    have := h i (List.mem_range.mpr hi)
    rw [List.getElem?_eq_getElem hi] at this
    exact this
  · intro h i hi
    rw [List.getElem?_eq_getElem (List.mem_range.mp hi)]
    exact h _ (List.getElem_mem _)
theorem toTup_sound {a x : V} {va : Value} (L : Lk S X f σ s.heap) (e : ev1 .toTup σ a = some x) (ra : VR S X f s.heap a va) :
    wpAny (model S.prog S.w) A (call (.type "tuple") [va]) (PE S X f s x) E s := by
  delta ev1 at e; dsimp only at e; simp only [Option.map_eq_some_iff] at e
  obtain ⟨xs, h1, rfl⟩ := e
  obtain ⟨p, vs, n, rfl, il, r, l⟩ := zAg L h1 ra
  have z := zAN r
  refine call_tuple_list (IsL.isList il) (fun h' k => ?_) (by rw [z]; exact Nat.le_trans l zAo)
  have e1 : Ext s { s with heap := h'.push { cls := .type "tuple", data := .seq vs } } := .heap (t := s.toks) fun b o q => Heap.get?_push_of_some _ (k b o q)
  have hn : s.heap.get? h'.objs.size = none := by
    cases q : s.heap.get? h'.objs.size with
    | none => rfl
    | some o => have := zAn h'; rw [k _ _ q] at this; cases this
  refine ⟨e1, ?_, fun _ q => by cases q⟩
  rw [VR]
  exact ⟨_, vs, 0, rfl, L.new hn, Heap.get?_push_size _ rfl, e1.vrs r, l⟩
theorem toInt_sound {a x : V} {va : Value} (e : ev1 .toInt σ a = some x) (ra : VR S X f s.heap a va) :
    wpAny (model S.prog S.w) A (call (.type "int") [va]) (PE S X f s x) E s := by
  cases a with
  | bool b => obtain rfl := zBv ra; cases e; exact call_int_bool .int
  | int i => obtain ⟨t, rfl⟩ := zAe ra; cases e; exact call_int_int (.int (tk := s.toks))
  | str y =>
    obtain ⟨⟨t, rfl⟩, _⟩ := zAu ra
    have e : (if y.length ≤ 640 then (intText? y).map V.int else none) = some x := e
    split at e
    · rename_i hl
      simp only [Option.map_eq_some_iff] at e
      obtain ⟨n, hn, rfl⟩ := e
      exact PySem.W.KIN.call_text hn hl .int
    · first | exact zAA e | exact ff_tt e | cases e
  | _ => first | exact zAA e | exact ff_tt e | cases e
noncomputable def tyName : Kd → String
  | .int => "int" | .bool => "bool" | .str => "str" | .list => "list" | .tuple => "tuple" | .exc _ => "ValueError"
theorem of_pe {x a : V} {t : Sem Value} (e : some a = some x) (h : wpAny (model S.prog S.w) A t (PE S X f s a) E s) : wpAny (model S.prog S.w) A t (PE S X f s x) E s := Option.some.inj e ▸ h
theorem isInst_sound {a x : V} {va : Value} {k : Kd} (hk : ∀ c, k ≠ .exc c) (L : Lk S X f σ s.heap) (e : ev1 (.isInst k) σ a = some x) (ra : VR S X f s.heap a va) :
    wpAny (model S.prog S.w) A (call (.builtin "isinstance") [va, .type (tyName k)]) (PE S X f s x) E s := by
  cases a with
  | undef => first | exact zAA e | exact ff_tt e | cases e
  | parts => first | exact zAA e | exact ff_tt e | cases e
  | exc c => cases k <;> first | exact absurd rfl (hk _) | exact zAA e | skip
  | none =>
    obtain rfl := vr_none ra
    cases k <;> first | exact absurd rfl (hk _) | exact zAA e | skip
    · exact of_pe e (IsiPair.NoneType_int .bool)
    · exact of_pe e (IsiPair.NoneType_bool .bool)
    · exact of_pe e (IsiPair.NoneType_str .bool)
    · exact of_pe e (IsiPair.NoneType_list .bool)
    · exact of_pe e (IsiPair.NoneType_tuple .bool)
  | bool b =>
    obtain rfl := zBv ra
    cases k <;> first | exact absurd rfl (hk _) | exact zAA e | skip
    · exact of_pe e (IsiPair.bool_int .bool0)
    · exact of_pe e (IsiPair.bool_bool .bool0)
    · exact of_pe e (IsiPair.bool_str .bool)
    · exact of_pe e (IsiPair.bool_list .bool)
    · exact of_pe e (IsiPair.bool_tuple .bool)
  | int i =>
    obtain ⟨t, rfl⟩ := zAe ra
    cases k <;> first | exact absurd rfl (hk _) | exact zAA e | skip
    · exact of_pe e (IsiPair.int_int .bool0)
    · exact of_pe e (IsiPair.int_bool .bool)
    · exact of_pe e (IsiPair.int_str .bool)
    · exact of_pe e (IsiPair.int_list .bool)
    · exact of_pe e (IsiPair.int_tuple .bool)
  | str y =>
    obtain ⟨⟨t, rfl⟩, _⟩ := zAu ra
    cases k <;> first | exact absurd rfl (hk _) | exact zAA e | skip
    · exact of_pe e (IsiPair.str_int .bool)
    · exact of_pe e (IsiPair.str_bool .bool)
    · exact of_pe e (IsiPair.str_str .bool0)
    · exact of_pe e (IsiPair.str_list .bool)
    · exact of_pe e (IsiPair.str_tuple .bool)
  | tup xs =>
    obtain ⟨p, vs, n, rfl, _, il, _⟩ := zDt ra
    cases k <;> first | exact absurd rfl (hk _) | exact zAA e | skip
    · exact of_pe e (IsiPair.tuple_int il rfl .bool)
    · exact of_pe e (IsiPair.tuple_bool il rfl .bool)
    · exact of_pe e (IsiPair.tuple_str il rfl .bool)
    · exact of_pe e (IsiPair.tuple_list il rfl .bool)
    · exact of_pe e (IsiPair.tuple_tuple il rfl .bool0)
  | lst xs =>
    obtain ⟨p, vs, n, rfl, il, _⟩ := zAg L (x := .lst xs) rfl ra
    cases k <;> first | exact absurd rfl (hk _) | exact zAA e | skip
    · exact of_pe e (IsiPair.list_int il rfl .bool)
    · exact of_pe e (IsiPair.list_bool il rfl .bool)
    · exact of_pe e (IsiPair.list_str il rfl .bool)
    · exact of_pe e (IsiPair.list_list il rfl .bool0)
    · exact of_pe e (IsiPair.list_tuple il rfl .bool)
  | ref m =>
    cases ho : σ[m]? with
    | none => have e : (refK σ[m]? k).map V.bool = some x := e; rw [ho] at e; cases e
    | some o =>
      cases o with
      | list ys =>
        obtain ⟨p, vs, n, rfl, il, _⟩ := zAg L (x := .ref m) (xs := ys) (by simp [listOf?, ho, listR]) ra
        have e : (refK σ[m]? k).map V.bool = some x := e
        rw [ho] at e
        cases k <;> first | exact absurd rfl (hk _) | exact zAA e | skip
        · exact of_pe e (IsiPair.list_int il rfl .bool)
        · exact of_pe e (IsiPair.list_str il rfl .bool)
        · exact of_pe e (IsiPair.list_list il rfl .bool0)
        · exact of_pe e (IsiPair.list_tuple il rfl .bool)
      | dict es => have e : (refK σ[m]? k).map V.bool = some x := e; rw [ho] at e; cases e
      | inst es => have e : (refK σ[m]? k).map V.bool = some x := e; rw [ho] at e; cases e
end
end Mine
end

/-! # Ops6 -/
section
set_option autoImplicit false
namespace Mine
open PySem PyProof.Rows
section
variable {S : Stat} {A : Around} {X : List Addr} {f : List Loc} {σ : Sto} {s : Shared} {E : Value → Shared → Prop}
theorem all_sound {a x : V} {va : Value} (hh : A.handled = none) (L : Lk S X f σ s.heap) (e : ev1 .all σ a = some x) (ra : VR S X f s.heap a va) :
    wpAny (model S.prog S.w) A (call (.builtin "all") [va]) (PE S X f s x) E s := by
  delta ev1 at e; dsimp only at e
  cases h1 : listOf? σ a with
  | none => first | (rw [h1] at e; exact zAA e) | simp [h1] at e
  | some xs =>
    cases h2 : bools? xs with
    | none => first | (rw [h1, h2] at e; exact zAA e) | (rw [h1, Option.bind_some, h2] at e; exact zAA e) | simp [h1, h2] at e
    | some l =>
      simp [h1, h2] at e
      subst e
      obtain ⟨p, vs, n, rfl, il, r, _⟩ := zAg L h1 ra
      have hv := bools_at h2 r
      have hlist := IsL.isList il
      have hlt : p < s.heap.objs.size := Heap.lt_size il
      refine call_all_walk (wpAny_pyIter_list hlist ?_)
      refine ⟨s.heap.objs.size, _, _, vs.size, _, _, fun i => (l[i]?).getD true, rfl, Walks.list (A := A.in1) hh s.heap.objs.size p (Nat.ne_of_lt hlt) vs,
        ⟨⟨_, Heap.get?_push_size _ rfl, rfl, rfl⟩, hlist.push _⟩, ?_, fun h' tk k => ?_⟩
      · intro i v s₁ Q E' hP hQ
        rw [← Array.getElem?_toList, hv, List.getElem?_map] at hP
        cases hl : l[i]? with
        | none => rw [hl] at hP; first | exact zAA hP | exact ff_tt hP | cases hP
        | some b => rw [hl] at hP; cases hP; exact wpAny_truthy_bool (by simpa [hl] using hQ)
      · have hz : vs.size = l.length := by rw [← Array.length_toList, hv, List.length_map]
        rw [hz, zEi]
        exact .boolH (old_kept k)
theorem contains_str (l : List Str) (x : Str) (ys : List (Str × Tok)) (h : ys.map (·.1) = l) : (ys.map fun p => Value.str p.1 p.2).any (fun y => match y with | .str z _ => z.cps.toList == x.cps.toList | _ => false) = l.contains x := by
  subst h
  induction ys with
  | nil => rfl
  | cons p ps ih =>
    simp only [List.map_cons, List.any_cons, List.contains_cons, ih]
    congr 1
    rw [Bool.eq_iff_iff]
    constructor
    · intro h
      have : p.1.cps.toList = x.cps.toList := beq_iff_eq.mp h
      have : p.1 = x := by cases hp : p.1; cases hx : x; rw [hp, hx] at this; simp at this; rw [this]
      simp [this]
    · intro h
      rw [beq_iff_eq.mp h]; simp
theorem in_seq_sound {y : Str} {u : Tok} {xs : List V} {l : List Str} {p : Addr} {vs : Array Value} {n : Nat} (il : IsL s.heap p vs n ∨ IsT s.heap p vs n) (r : VRs S X f s.heap xs vs.toList) (h2 : strs? xs = some l) :
    wpAny (model S.prog S.w) A (compareOp .In (.str y u) (.ref p)) (PE S X f s (.bool (l.contains y))) E s ∧ wpAny (model S.prog S.w) A (compareOp .NotIn (.str y u) (.ref p)) (PE S X f s (.bool !(l.contains y))) E s := by
  obtain ⟨ys, e1, e2, _⟩ := strs_at h2 r
  have hany : vs.any (fun y' => match y' with | .str z _ => z.cps.toList == y.cps.toList | _ => false) = l.contains y := by
    rw [← contains_str l y ys e2, ← e1]
    exact (Array.any_toList ..).symm
  have he : ∀ v, v ∈ vs → MeetsSeq.EqGives v (.str y u) (match v with | .str z _ => z.cps.toList == y.cps.toList | _ => false) := by
    intro v hv
    have : v ∈ vs.toList := by simpa using hv
    rw [e1] at this
    obtain ⟨q, _, rfl⟩ := List.mem_map.mp this
    exact SeqRoads2.EqGives.str q.1 y q.2 u
  rcases il with il | il
  · exact ⟨SeqRoads2.in_list _ he il (by rw [hany]; exact .bool0), SeqRoads2.notIn_list _ he il (by rw [hany]; exact .bool0)⟩
  · exact ⟨SeqRoads2.in_tuple _ he il (by rw [hany]; exact .bool0), SeqRoads2.notIn_tuple _ he il (by rw [hany]; exact .bool0)⟩
theorem in_str_sound {x y : Str} {c : Nat} {t u : Tok} (hc : codes x = [c]) :
    wpAny (model S.prog S.w) A (compareOp .In (.str x t) (.str y u)) (PE S X f s (.bool ((codes y).contains c))) E s ∧ wpAny (model S.prog S.w) A (compareOp .NotIn (.str x t) (.str y u)) (PE S X f s (.bool !((codes y).contains c))) E s := by
  have hx : x = ⟨#[c]⟩ := by cases x with | mk a => simp [codes] at hc; rw [show a = #[c] from Array.toList_inj.mp hc]
  subst hx
  have e : (!(Builtin.Str.occurrences y ⟨#[c]⟩ 0 y.length 1).isEmpty) = (codes y).contains c := by
    rw [StrLaws.found_one]
    rw [Bool.eq_iff_iff]; simp [codes]
  exact ⟨PyProof.Rows.in_str (by rw [e]; exact .bool0), PyProof.Rows.notIn_str (by rw [e]; exact .bool0)⟩
noncomputable def PartsAt (S : Stat) (h : Heap) : Prop := S.hasParts = true → ∃ d g, S.parts = .ref d ∧ (d == sysModules) = false ∧ h.MapOf (strKind S.prog S.w) d g ∧ ∀ x, ∃ t, g x = ((partsTable.find? fun p => p.1 == x).map fun p => Value.int p.2 t)
theorem parts_isSome (x : Str) : ((partsTable.find? fun p => p.1 == x).map fun p => p.2).isSome = partsTable.any fun p => p.1 == x := by
  rw [Option.isSome_map, Bool.eq_iff_iff, List.find?_isSome, List.any_eq_true]
theorem zEj {x : Str} {t : Tok} (hp : PartsAt S s.heap) (hh : S.hasParts = true) :
    wpAny (model S.prog S.w) A (compareOp .In (.str x t) S.parts) (PE S X f s (.bool (partsTable.any fun p => p.1 == x))) E s ∧ wpAny (model S.prog S.w) A (compareOp .NotIn (.str x t) S.parts) (PE S X f s (.bool !(partsTable.any fun p => p.1 == x))) E s := by
  obtain ⟨d, g, e, hd, hm, hg⟩ := hp hh
  rw [e]
  obtain ⟨tk, hgx⟩ := hg x
  have hs : (g x).isSome = partsTable.any fun p => p.1 == x := by rw [hgx, ← parts_isSome x, Option.isSome_map, Option.isSome_map]
  have hk : (strKind S.prog S.w).is x (.str x t) = true := by show Value.isStrOf x (.str x t) = true; simp [Value.isStrOf]
  exact ⟨wpAny_in_of hk hd hm (by rw [hs]; exact .bool), wpAny_notIn_of hk hd hm (by rw [hs]; exact .bool)⟩
theorem in_sound {a b : V} {va vb : Value} {r : Bool} (hp : PartsAt S s.heap) (L : Lk S X f σ s.heap) (e : inV σ a b = some r) (ra : VR S X f s.heap a va) (rb : VR S X f s.heap b vb) :
    wpAny (model S.prog S.w) A (compareOp .In va vb) (PE S X f s (.bool r)) E s ∧ wpAny (model S.prog S.w) A (compareOp .NotIn va vb) (PE S X f s (.bool !r)) E s := by
  cases a with
  | str x =>
    obtain ⟨⟨t, rfl⟩, _⟩ := zAu ra
    have gen : ∀ {xs : List V}, itemsOf σ b = some xs → ((strs? xs).map fun l => l.contains x) = some r →
        wpAny (model S.prog S.w) A (compareOp .In (.str x t) vb) (PE S X f s (.bool r)) E s ∧ wpAny (model S.prog S.w) A (compareOp .NotIn (.str x t) vb) (PE S X f s (.bool !r)) E s := by
      intro xs h1 h2
      obtain ⟨p, vs, n, rfl, il, rs, _⟩ := zCr L h1 rb
      cases h3 : strs? xs with
      | none => first | (rw [h3] at h2; exact zAA h2) | simp [h3] at h2
      | some l => rw [h3, Option.map_some, Option.some.injEq] at h2; subst h2; exact in_seq_sound il rs h3
    cases b with
    | str y =>
      obtain ⟨⟨u, rfl⟩, _⟩ := zAu rb
      delta inV at e; dsimp only at e
      split at e
      · rename_i c hc; cases e; exact in_str_sound hc
      · first | exact zAA e | exact ff_tt e | cases e
    | parts => rw [VR] at rb; obtain ⟨hh, rfl⟩ := rb; cases e; exact zEj hp hh
    | tup xs => exact gen rfl e
    | lst xs => exact gen rfl e
    | ref k =>
      delta inV at e; dsimp only at e
      cases h1 : itemsOf σ (.ref k) with
      | none => first | (rw [h1] at e; exact zAA e) | simp [h1] at e
      | some xs => simp only [h1, Option.bind_some] at e; exact gen h1 e
    | _ => first | exact zAA e | exact ff_tt e | cases e
  | _ => first | exact zAA e | exact ff_tt e | cases e
theorem zEZ {y : Str} {i : Int} {t u : Tok} {k : Nat} {c : Nat} (hl : y.length ≤ LIM) (hok : PyData.strOk y = true) (h1 : normIndex y.length i = some k) (h2 : (codes y)[k]? = some c) :
    wpAny (model S.prog S.w) A (getItem (.str y t) (.int i u)) (PE S X f s (.str (mkS [c]))) E s := by
  obtain ⟨g1, g2, g3, g4⟩ := zBs h1
  have hll := zAz hl
  refine PyProof.Rows.getItem_str (c := c) ?_ ?_ ?_
  · by_cases h0 : 0 ≤ i
    · have := g3 h0; simp; omega
    · have := g4 (by omega); simp; omega
  · rw [g1]; simpa [codes] using h2
  · have hc : c < 0x110000 := by
      have hm : c ∈ y.cps.toList := List.mem_of_getElem? h2
      have := Array.all_eq_true.mp hok
      obtain ⟨j, hj, rfl⟩ := List.getElem_of_mem hm
      have := this j (by simpa using hj)
      simpa using this
    have : PyData.strOk (mkS [c]) = true := by simp [PyData.strOk, mkS, hc]
    exact PE.str (s := s) (by simp [mkS, Str.length]; decide) this
theorem dict_get {h : Heap} {i : Int} {x : V} : ∀ {es : List (Int × V)} {kvs : List (Int × Value)}, ((es.find? fun p => p.1 == i).map fun p => p.2) = some x → kvs.map (·.1) = es.map (·.1) → VRs S X f h (es.map (·.2)) (kvs.map (·.2)) → ∃ v, valueAt kvs i = some v ∧ VR S X f h x v
  | [], _, e, _, _ => zAA e
  | q :: qs, [], _, hk, _ => by cases hk
  | q :: qs, r :: rs, e, hk, hv => by
    simp only [List.map_cons, List.cons.injEq] at hk
    rw [List.map_cons, List.map_cons, VRs] at hv
    rw [List.find?_cons] at e
    unfold valueAt
    rw [List.find?_cons, hk.1]
    by_cases hq : q.1 = i
    · rw [hq, beq_self_eq_true] at e
      rw [hq, decide_eq_true rfl]
      cases e
      exact ⟨_, rfl, hv.1⟩
    · rw [beq_eq_false_iff_ne.mpr hq] at e
      rw [decide_eq_false hq]
      exact dict_get e hk.2 hv.2
inductive IxInv (σ : Sto) (x : V) : V → V → Prop
  | str (y : Str) (i : Int) (k c : Nat) (h4 : normIndex y.length i = some k) (h5 : (codes y)[k]? = some c) (ex : V.str (mkS [c]) = x) : IxInv σ x (.str y) (.int i)
  | seq (a : V) (xs : List V) (i : Int) (k : Nat) (h1 : itemsOf σ a = some xs) (h4 : normIndex xs.length i = some k) (h3 : xs[k]? = some x) : IxInv σ x a (.int i)
  | dict (n : Nat) (es : List (Int × V)) (i : Int) (ho : σ[n]? = some (.dict es)) (h : ((es.find? fun p => p.1 == i).map fun p => p.2) = some x) : IxInv σ x (.ref n) (.int i)
  | parts (y : Str) (h : ((partsTable.find? fun p => p.1 == y).map fun p => V.int p.2) = some x) : IxInv σ x .parts (.str y)
theorem ixSeq {σ : Sto} {a x : V} {xs : List V} {i : Int} (h1 : itemsOf σ a = some xs) (h : ((normIndex xs.length i).bind fun k => xs[k]?) = some x) : IxInv σ x a (.int i) := by
  obtain ⟨k, h4, h3⟩ := Option.bind_eq_some_iff.mp h
  exact .seq a xs i k h1 h4 h3
theorem ixRef {σ : Sto} {n : Nat} {x : V} {i : Int} (e : ev2 .index σ (.ref n) (.int i) = some x) : IxInv σ x (.ref n) (.int i) := by
  delta ev2 at e; dsimp only at e
  cases ho : σ[n]? with
  | none => rw [ho] at e; exact zAA e
  | some ob =>
    rw [ho] at e
    cases ob with
    | list xs => exact ixSeq (xs := xs) (by delta itemsOf; dsimp only; rw [ho]) e
    | dict es => exact .dict n es i ho e
    | inst _ => first | exact zAA e | exact ff_tt e | cases e
theorem ixInv {σ : Sto} {a b x : V} (e : ev2 .index σ a b = some x) : IxInv σ x a b := by
  cases b with
  | int i =>
    cases a with
    | str y =>
      obtain ⟨k, h4, e⟩ := Option.bind_eq_some_iff.mp (show ((normIndex y.length i).bind fun k => (codes y)[k]?.map fun c => V.str (mkS [c])) = some x from e)
      obtain ⟨c, h5, ex⟩ := Option.map_eq_some_iff.mp e
      exact .str y i k c h4 h5 ex
    | ref n => exact ixRef e
    | tup xs => exact ixSeq rfl e
    | lst xs => exact ixSeq rfl e
    | _ => first | exact zAA e | exact ff_tt e | cases e
  | str y =>
    cases a with
    | parts => exact .parts y e
    | _ => first | exact zAA e | exact ff_tt e | cases e
  | _ => cases a <;> exact zAA e
theorem index_sound {a b x : V} {va vb : Value} (hp : PartsAt S s.heap) (L : Lk S X f σ s.heap) (e : ev2 .index σ a b = some x) (ra : VR S X f s.heap a va) (rb : VR S X f s.heap b vb) :
    wpAny (model S.prog S.w) A (getItem va vb) (fun v s' => Ext s s' ∧ VR S X f s'.heap x v) E s := by
  have q := ixInv e
  clear e
  cases q with
  | str y i k c h4 h5 ex =>
    obtain ⟨⟨t, rfl⟩, l1, l2⟩ := zAu ra
    obtain ⟨u, rfl⟩ := zAe rb
    subst ex
    exact wpAny_mono (zEZ l1 l2 h4 h5) (fun v s' q => ⟨q.1, q.2.1⟩) fun _ _ q => q
  | seq a xs i k h1 h4 h3 =>
    obtain ⟨u, rfl⟩ := zAe rb
    obtain ⟨p, vs, n, rfl, il, rs, l⟩ := zCr L h1 ra
    exact wpAny_mono (getItem_seq il rs l h4 h3) (fun v s' q => by obtain ⟨rfl, q⟩ := q; exact ⟨.refl _, q⟩) fun _ _ q => q
  | dict n es i ho h =>
    obtain ⟨u, rfl⟩ := zAe rb
    rw [VR] at ra
    obtain ⟨l, hl, rfl⟩ := ra
    have ob := L.obj n l _ hl ho
    obtain ⟨p, d⟩ := l
    cases d with
    | some d => exact ob.elim
    | none =>
      obtain ⟨kvs, hd, hk, hv, hlen⟩ := ob
      obtain ⟨v, h1, h2⟩ := dict_get h hk hv
      exact wpAny_getItem_of (knd := intKind S.prog S.w) (k := i) (by show Value.isInt i (.int i u) = true; simp [Value.isInt]) hd.mapOf h1 ⟨.toks s _, h2⟩
  | parts y h =>
    rw [VR] at ra; obtain ⟨hh, rfl⟩ := ra
    obtain ⟨⟨u, rfl⟩, _⟩ := zAu rb
    obtain ⟨d, g, h1, hd, hm, hg⟩ := hp hh
    obtain ⟨tk, hgx⟩ := hg y
    obtain ⟨q, h2, rfl⟩ := Option.map_eq_some_iff.mp h
    rw [h2] at hgx
    rw [h1]
    exact wpAny_getItem_of (knd := strKind S.prog S.w) (k := y) (by show Value.isStrOf y (.str y u) = true; simp [Value.isStrOf]) hm hgx ⟨.toks s _, by rw [VR]; exact ⟨tk, rfl⟩⟩
end
end Mine
end

/-! # OpsS -/
section
set_option autoImplicit false
namespace Mine
open PySem PyProof.Rows Builtin Builtin.Str
section
variable {S : Stat} {A : Around} {X : List Addr} {f : List Loc} {σ : Sto} {s : Shared} {E : Value → Shared → Prop}
theorem strs_are {h : Heap} : ∀ {xs : List V} {vs : List Value} {l : List Str}, VRs S X f h xs vs → strs? xs = some l → StrsAre vs l
  | [], [], l, _, e => by cases e; exact .nil
  | x :: xs, v :: vs, l, r, e => by
    rw [VRs] at r
    unfold strs? at e
    rw [List.mapM_cons] at e
    cases x with
    | str y =>
      cases e2 : xs.mapM strOf? with
      | none => rw [e2] at e; cases e
      | some l' =>
        rw [e2] at e
        cases e
        obtain ⟨⟨t, rfl⟩, _⟩ := zAu r.1
        exact .cons y t (strs_are r.2 e2)
    | _ => first | exact zAA e | exact ff_tt e | cases e
  | [], _ :: _, _, r, _ => by rw [VRs] at r; exact r.elim
  | _ :: _, [], _, r, _ => by rw [VRs] at r; exact r.elim
theorem strOk_empty : PyData.strOk Str.empty = true := by unfold PyData.strOk Str.empty; simp
theorem zEp {sep : Str} (hs : PyData.strOk sep = true) : ∀ {l : List Str}, (∀ x ∈ l, PyData.strOk x = true) → PyData.strOk (Str.join sep l) = true
  | [], _ => strOk_empty
  | [x], h => h x List.mem_cons_self
  | x :: y :: r, h => by
    show PyData.strOk (x ++ sep ++ Str.join sep (y :: r)) = true
    exact zBc (zBc (h x List.mem_cons_self) hs) (zEp hs fun z hz => h z (List.mem_cons_of_mem _ hz))
theorem strs_ok {h : Heap} : ∀ {xs : List V} {vs : List Value} {l : List Str}, VRs S X f h xs vs → strs? xs = some l → ∀ x ∈ l, PyData.strOk x = true
  | [], [], l, _, e => by cases e; intro x hx; cases hx
  | x :: xs, v :: vs, l, r, e => by
    rw [VRs] at r
    unfold strs? at e
    rw [List.mapM_cons] at e
    cases x with
    | str y =>
      cases e2 : xs.mapM strOf? with
      | none => rw [e2] at e; cases e
      | some l' =>
        rw [e2] at e
        cases e
        obtain ⟨_, _, hk⟩ := zAu r.1
        intro z hz
        rcases List.mem_cons.mp hz with rfl | hz
        · exact hk
        · exact strs_ok r.2 e2 z hz
    | _ => first | exact zAA e | exact ff_tt e | cases e
  | [], _ :: _, _, r, _ => by rw [VRs] at r; exact r.elim
  | _ :: _, [], _, r, _ => by rw [VRs] at r; exact r.elim
theorem join_sound {a b x : V} {va vb : Value} (L : Lk S X f σ s.heap) (e : ev2 .join σ a b = some x) (ra : VR S X f s.heap a va) (rb : VR S X f s.heap b vb) :
    wpAny (model S.prog S.w) A (call (.builtin "str.join") [va, vb]) (PE S X f s x) E s := by
  have e : joinV σ a b = some x := e
  unfold joinV at e
  simp only [Option.bind_eq_some_iff] at e
  obtain ⟨sep, h1, xs, h2, l, h3, e⟩ := e
  split at e
  · rename_i hl
    cases e
    cases a with
    | str y =>
      cases h1
      obtain ⟨⟨t, rfl⟩, _, hk⟩ := zAu ra
      obtain ⟨p, vs, n, rfl, il, rs, _⟩ := zAg L h2 rb
      refine join_list (IsL.isList il) (strs_are rs h3) (by omega) fun t' k => .str ?_ ?_
      · show (glued sep l).length ≤ LIM
        rw [StrLaws.glued_eq_join]
        have := StrLaws.join_length_le sep l
        simp only [LIM]; omega
      · show PyData.strOk (glued sep l) = true
        rw [StrLaws.glued_eq_join]
        exact zEp hk (strs_ok rs h3)
    | _ => first | exact zAA h1 | exact ff_tt h1 | cases h1
  · first | exact zAA e | exact ff_tt e | cases e
end
end Mine
end

/-! # Steps -/
section
set_option autoImplicit false
namespace Mine
open PySem PyProof.Rows
section
variable {M : Model} {A : Around} {E : Value → Shared → Prop} {s : Shared} {env : Env}
theorem zBQ {x : Str} {mg : Str → Option Value} {v : Value} {Q : Value → Shared → Prop} (hk : env.scope.kind = .function) (hl : env.kindOf x = some .globalImplicit) (hg : s.heap.Ns env.globals mg) (hv : mg x = some v) (h : Q v s) :
    wpAny M A (loadName env x) Q E s := by
  unfold loadName
  simp only [Env.blockKind, hk, hl, ScopeKind.isAnnotationScope, Bool.false_and, Bool.false_eq_true, if_false]
  unfold loadGlobal
  refine wpAny_bind (wpAny_nsGet hg ?_)
  rw [hv]
  exact wpAny_pure h
theorem zDO {x : Str} {mg mb : Str → Option Value} {v : Value} {Q : Value → Shared → Prop} (hk : env.scope.kind = .function) (hl : env.kindOf x = some .globalImplicit) (hg : s.heap.Ns env.globals mg) (hn : mg x = none)
    (hb : s.heap.Ns env.builtins mb) (hv : mb x = some v) (h : Q v s) : wpAny M A (loadName env x) Q E s := by
  unfold loadName
  simp only [Env.blockKind, hk, hl, ScopeKind.isAnnotationScope, Bool.false_and, Bool.false_eq_true, if_false]
  unfold loadGlobal
  refine wpAny_bind (wpAny_nsGet hg ?_)
  rw [hn]
  refine wpAny_bind (wpAny_nsGet hb ?_)
  rw [hv]
  exact wpAny_pure h
noncomputable def Callable (s : Shared) (f : Value) : Prop := (∀ a, f ≠ .ref a) ∨ ∃ a o fd, f = .ref a ∧ s.heap.get? a = some o ∧ o.data = .func fd
theorem keeper_of {f : Value} {Q : Keeper → Shared → Prop} (hc : Callable s f) (h : ∀ k, (k = .machine ∨ k = .frame) → Q k s) : wpAny M A (keeperOf f) Q E s := by
  unfold keeperOf
  rcases hc with hc | ⟨a, o, fd, rfl, ho, hd⟩
  · cases f with
    | ref a => exact absurd rfl (hc a)
    | _ => exact wpAny_pure (h _ (.inl rfl))
  · refine wpAny_bind (wpAny_load ho ?_)
    rw [hd]
    exact wpAny_pure (h _ (.inr rfl))
theorem zAR {e : Expr} {r : List Expr} (h : isStar e = false) : starEach (e :: r) env = (false, eval e env) :: starEach r env := by
  cases e <;> first | rfl | exact ff_tt h.symm
theorem zAP {pos : Pos} (args : List Expr) (h : args.any isStar = false) : (backTo pos (starEach args env)).any (·.1) = false := by
  induction args with
  | nil => rfl
  | cons e r ih =>
    have h1 := Bool.or_eq_false_iff.mp ((List.any_cons).symm.trans h)
    rw [zAR h1.1]
    exact ih h1.2
theorem zBi {f : Value} {trees : List (Bool × Sem Value)} {Q : Args → Shared → Prop} (hn : trees.any (·.1) = false)
    (h : wpAny M A (spliced trees) (fun vs s' => Q ⟨vs, []⟩ s') E s) : wpAny M A (evalArgs f true trees []) Q E s := by
  cases trees with
  | nil => exact fun Γ p hΓ => (PyProof.Rows.evalArgs_none (show Q ⟨[], []⟩ s from h Γ p hΓ)) Γ p hΓ
  | cons t r =>
    obtain ⟨b, x⟩ := t
    have hb : b = false := by simp only [List.any_cons, Bool.or_eq_false_iff] at hn; exact hn.1
    subst hb
    exact Calls.evalArgs_plain h
theorem zAi {pos : Pos} {f : Value} {first : List Value} {trees : List (Bool × Sem Value)} {Q : Value → Shared → Prop} (hn : trees.any (·.1) = false)
    (h : wpAny M A (spliced trees) (fun vs s₁ => Callable s₁ f ∧ wpAny M A (call f (first ++ vs) []) Q E s₁) E s) : wpAny M A (callWith pos f first trees []) Q E s := by
  unfold callWith
  refine wpAny_bind (wpAny_holding (zBi hn (wpAny_mono h (fun vs s₁ h₁ => ?_) fun _ _ q => q)))
  refine wpAny_bind (wpAny_standAt ?_)
  simp only [hn, Bool.false_or, List.any_nil]
  have fin : wpAny M A (call f (first ++ vs) []) (fun r s' => wpAny M A (do holding [r] point; pure r) Q E s') E s₁ := wpAny_mono h₁.2 (fun r s' q => wpAny_bind (wpAny_holding (wpAny_point (wpAny_pure q)))) fun _ _ q => q
  refine wpAny_bind (keeper_of h₁.1 fun k hk => ?_)
  rcases hk with rfl | rfl
  · exact wpAny_bind fin
  · show wpAny M A (if trees.length + 2 * 0 > 30 then (call f (first ++ vs) [] >>= fun r => do holding [r] point; pure r) else (callMarked plainCall f (first ++ vs) [] >>= fun r => do holding [r] point; pure r)) Q E s₁
    split
    · exact wpAny_bind fin
    · exact wpAny_bind (Calls.wpAny_keep fin)
theorem zBo {o : Expr} {name : Str} (h : noSuper o = true) : attributeBase o name env (eval o env) = eval o env := by
  cases o with
  | Call fn args kws pos =>
    cases fn with
    | Name id p =>
      cases args with
      | nil =>
        cases kws with
        | nil => first | exact zAA h | exact ff_tt h | cases h
        | cons _ _ => rfl
      | cons _ _ => rfl
    | _ => rfl
  | _ => rfl
end
end Mine
end

/-! # Mut -/
section
set_option autoImplicit false
namespace Mine
open PySem PyProof.Rows
section
variable {S : Stat} {X Y : List Addr} {f g : List Loc} {σ : Sto} {s s' : Shared}
theorem nodup_at {f : List Loc} (h : (addrs f).Nodup) {i j : Nat} {l l' : Loc} (hi : f[i]? = some l) (hj : f[j]? = some l') (hne : i ≠ j) : ∀ a ∈ l.addrs, a ∉ l'.addrs := by
  induction f generalizing i j with
  | nil => simp at hi
  | cons x f ih =>
    have h1 : (x.addrs ++ addrs f).Nodup := by simpa [addrs] using h
    obtain ⟨_, h2, h3⟩ := List.nodup_append.mp h1
    cases i with
    | zero =>
      cases j with
      | zero => exact absurd rfl hne
      | succ j =>
        simp at hi hj
        subst hi
        intro a ha hb
        exact h3 a ha a (zAb hj hb) rfl
    | succ i =>
      cases j with
      | zero =>
        simp at hi hj
        subst hj
        intro a ha hb
        exact h3 a hb a (zAb hi ha) rfl
      | succ j =>
        simp at hi hj
        exact ih h2 hi hj (by omega)
theorem Lk.upd {n : Nat} {l : Loc} {o' : O} {h' : Heap} (L : Lk S X f σ s.heap) (hn : f[n]? = some l) (hs : ∀ b o, b ∉ l.addrs → s.heap.get? b = some o → h'.get? b = some o) (ho : OR S X f h' l o') : Lk S X f (σ.set n o') h' := by
  have nb : ∀ b o, b ∉ addrs f → s.heap.get? b = some o → h'.get? b = some o := fun b o hb => hs b o fun q => hb (zAb hn q)
  have kv : ∀ x v, VR S X f s.heap x v → VR S X f h' x v := VR.keep (fun _ _ e => e) fun a o q h1 h2 => ⟨⟨h1, h2⟩, o, nb a o h1 q, .refl o⟩
  have kvs : ∀ x v, VRs S X f s.heap x v → VRs S X f h' x v := VRs.keep (fun _ _ e => e) fun a o q h1 h2 => ⟨⟨h1, h2⟩, o, nb a o h1 q, .refl o⟩
  refine ⟨fun b o e => ?_, by rw [List.length_set]; exact L.len, L.nodup, L.fresh, fun a ha => ?_, fun i l' o hi hoo => ?_⟩
  · exact nb b o (fun q => by rw [L.fresh b q] at e; cases e) (L.base b o e)
  · obtain ⟨h1, h2, o, h3⟩ := L.hid a ha
    exact ⟨h1, h2, o, nb a o h2 h3⟩
  · by_cases hin : i = n
    · subst hin
      rw [hn] at hi; cases hi
      have hlt : i < σ.length := L.len ▸ (List.getElem?_eq_some_iff.mp hn).1
      rw [List.getElem?_set_self hlt] at hoo
      cases hoo
      exact ho
    · rw [List.getElem?_set_ne (fun q => hin q.symm)] at hoo
      refine (L.obj i l' o hi hoo).keep kv kvs fun a ha => ?_
      obtain ⟨ob, e⟩ := (L.obj i l' o hi hoo).live a ha
      rw [e, hs a ob (fun q => nodup_at L.nodup hi hn hin a ha q) e]
theorem Kp.upd {n : Nat} {l : Loc} {h' : Heap} {t : Nat} (hn : f[n]? = some l) (hs : ∀ b o, b ∉ l.addrs → s.heap.get? b = some o → h'.get? b = some o) (hl : ∀ a ∈ l.addrs, ∃ o, h'.get? a = some o) : Kp f Y s { s with heap := h', toks := t } := by
  have nb : ∀ b o, b ∉ addrs f → s.heap.get? b = some o → h'.get? b = some o := fun b o hb => hs b o fun q => hb (zAb hn q)
  refine ⟨rfl, fun a o e => ?_, fun a o e h1 _ => ⟨o, nb a o h1 e, .refl o⟩, fun a o es k e d h1 => ⟨o, es, k, nb a o h1 e, d⟩⟩
  by_cases ha : a ∈ l.addrs
  · exact hl a ha
  · exact ⟨o, hs a o ha e⟩
theorem Lk.track {l : Loc} {o : O} {h : Heap} (L : Lk S (l.addrs ++ X) f σ h) (hnd : l.addrs.Nodup) (hX : ∀ a ∈ l.addrs, a ∉ X) (ho : OR S X (f ++ [l]) h l o) : Lk S X (f ++ [l]) (σ ++ [o]) h := by
  have hdis : ∀ a ∈ l.addrs, a ∉ addrs f := fun a ha => (L.hid a (List.mem_append_left _ ha)).2.1
  have hl : addrs [l] = l.addrs := by simp [addrs]
  have kf : ∀ (i : Nat) (l' : Loc), f[i]? = some l' → (f ++ [l])[i]? = some l' := fun i l' e => List.getElem?_append_left (List.getElem?_eq_some_iff.mp e).1 ▸ e
  have kh : ∀ a ob, h.get? a = some ob → a ∉ addrs f → a ∉ l.addrs ++ X → (a ∉ addrs (f ++ [l]) ∧ a ∉ X) ∧ ∃ o', h.get? a = some o' ∧ SameObj ob o' := fun a ob q h1 h2 =>
    ⟨⟨fun h3 => (zAH.mp h3).elim h1 fun h4 => h2 (List.mem_append_left _ (hl ▸ h4)), fun h3 => h2 (List.mem_append_right _ h3)⟩, ob, q, .refl ob⟩
  refine ⟨L.base, by simp [L.len], ?_, fun a ha => ?_, fun a ha => ?_, fun i l' o' hi ho' => ?_⟩
  · rw [zDQ, hl]
    exact List.nodup_append.mpr ⟨L.nodup, hnd, fun a ha b hb e => hdis b hb (e ▸ ha)⟩
  · rcases zAH.mp ha with ha | ha
    · exact L.fresh a ha
    · exact (L.hid a (List.mem_append_left _ (hl ▸ ha))).1
  · obtain ⟨h1, h2, h3⟩ := L.hid a (List.mem_append_right _ ha)
    exact ⟨h1, fun q => (zAH.mp q).elim h2 fun q => hX a (hl ▸ q) ha, h3⟩
  · by_cases hlt : i < f.length
    · rw [List.getElem?_append_left hlt] at hi
      rw [List.getElem?_append_left (L.len ▸ hlt)] at ho'
      exact (L.obj i l' o' hi ho').keep (VR.keep kf kh) (VRs.keep kf kh) fun _ _ => rfl
    · have hi' : i = f.length := by
        have := (List.getElem?_eq_some_iff.mp hi).1
        simp at this; omega
      subst hi'
      rw [List.getElem?_append_right (Nat.le_refl _)] at hi
      rw [L.len, List.getElem?_append_right (Nat.le_refl _)] at ho'
      simp at hi ho'
      subst hi ho'
      exact ho
theorem Lk.hideNew {a : Addr} (L : Lk S X f σ s.heap) (e : Ext s s') (hn : s.heap.get? a = none) {o : Obj} (hl : s'.heap.get? a = some o) : Lk S (a :: X) f σ s'.heap := by
  have hb : S.hb.get? a = none := by
    cases q : S.hb.get? a with
    | none => rfl
    | some o => rw [L.base a o q] at hn; first | exact zAA hn | exact ff_tt hn | cases hn
  have kv : ∀ x v, VR S X f s.heap x v → VR S (a :: X) f s'.heap x v := VR.keep (fun _ _ e => e) fun b ob q h1 h2 =>
    ⟨⟨h1, fun h => (List.mem_cons.mp h).elim (fun h => by subst h; rw [hn] at q; cases q) h2⟩, ob, e.keep b ob q, .refl ob⟩
  have kvs : ∀ x v, VRs S X f s.heap x v → VRs S (a :: X) f s'.heap x v := VRs.keep (fun _ _ e => e) fun b ob q h1 h2 =>
    ⟨⟨h1, fun h => (List.mem_cons.mp h).elim (fun h => by subst h; rw [hn] at q; cases q) h2⟩, ob, e.keep b ob q, .refl ob⟩
  have L' := e.lk L
  refine ⟨L'.base, L'.len, L'.nodup, L'.fresh, fun b hb' => ?_, fun i l ob hi ho => (L.obj i l ob hi ho).keep kv kvs fun b hb' => ?_⟩
  · rcases List.mem_cons.mp hb' with rfl | hb'
    · exact ⟨hb, (L.new hn).1, o, hl⟩
    · exact L'.hid b hb'
  · obtain ⟨ob', q⟩ := L.live (zAb hi hb')
    rw [q]; exact e.keep b ob' q
theorem VRs.hideNew {a : Addr} (e : Ext s s') (hn : s.heap.get? a = none) {xs : List V} {vs : List Value} (r : VRs S X f s.heap xs vs) : VRs S (a :: X) f s'.heap xs vs :=
  VRs.keep (fun _ _ e => e) (fun b ob q h1 h2 => ⟨⟨h1, fun h => (List.mem_cons.mp h).elim (fun h => by subst h; rw [hn] at q; cases q) h2⟩, ob, e.keep b ob q, .refl ob⟩) xs vs r
theorem Lk.less {X' : List Addr} {h : Heap} (L : Lk S X f σ h) (hX : ∀ a ∈ X', a ∈ X) : Lk S X' f σ h :=
  ⟨L.base, L.len, L.nodup, L.fresh, fun a ha => L.hid a (hX a ha), fun i l o hi ho => (L.obj i l o hi ho).keep (fun _ _ => VR.less hX) (fun _ _ => VRs.less hX) fun _ _ => rfl⟩
theorem Lk.enter {X N : List Addr} {f : List Loc} {σ : Sto} {s s₁ : Shared} (L : Lk S X f σ s.heap) (hk : ∀ b o, s.heap.get? b = some o → s₁.heap.get? b = some o)
    (hN : ∀ a ∈ N, s.heap.get? a = none ∧ ∃ o, s₁.heap.get? a = some o) : Lk S (N ++ X) f σ s₁.heap := by
  have kv : ∀ x v, VR S X f s.heap x v → VR S (N ++ X) f s₁.heap x v := fun x v e =>
    VR.keep (fun _ _ e => e) (fun a o ho h1 h2 => ⟨⟨h1, fun h => (List.mem_append.mp h).elim (fun h => by rw [(hN a h).1] at ho; cases ho) h2⟩, o, hk a o ho, .refl o⟩) x v e
  have kvs : ∀ x v, VRs S X f s.heap x v → VRs S (N ++ X) f s₁.heap x v := fun x v e =>
    VRs.keep (fun _ _ e => e) (fun a o ho h1 h2 => ⟨⟨h1, fun h => (List.mem_append.mp h).elim (fun h => by rw [(hN a h).1] at ho; cases ho) h2⟩, o, hk a o ho, .refl o⟩) x v e
  refine ⟨fun b o h => hk b o (L.base b o h), L.len, L.nodup, L.fresh, fun a ha => ?_, fun i l o hi ho => (L.obj i l o hi ho).keep kv kvs fun a ha => ?_⟩
  · rcases List.mem_append.mp ha with h | h
    · refine ⟨?_, fun hf => ?_, (hN a h).2⟩
      · cases e : S.hb.get? a with
        | none => rfl
        | some o => have := L.base a o e; rw [(hN a h).1] at this; cases this
      · obtain ⟨o, e⟩ := L.live hf; rw [(hN a h).1] at e; cases e
    · obtain ⟨h1, h2, o, h3⟩ := L.hid a h
      exact ⟨h1, h2, o, hk a o h3⟩
  · obtain ⟨o', e⟩ := (L.obj i l o hi ho).live a ha
    rw [e, hk a o' e]
theorem ExcR.less {X' : List Addr} {h h₀ : Heap} {ea : Addr} {k : Cls} (e : ExcR S X f σ h h₀ ea k) (hX : ∀ a ∈ X', a ∈ X) : ExcR S X' f σ h h₀ ea k := by
  obtain ⟨e1, ec, hs, oe, vs, L, e4, e5, e6, e8⟩ := e
  exact ⟨e1, ec, hs, oe, vs, L.less fun a ha => (List.mem_append.mp ha).elim (fun h => List.mem_append_left _ h) fun h => List.mem_append_right _ (hX a h), e4, e5, e6, e8⟩
inductive NewQ (S : Stat) (X : List Addr) (f : List Loc) (σ : Sto) (s s' : Shared) (xs : List V) (v : Value) : Prop where
  | mk (a : Addr) (vs : Array Value) (n : Nat) (e : v = .ref a) (hn : s.heap.get? a = none) (hX : a ∉ X) (L : Lk S (a :: X) f σ s'.heap) (il : IsL s'.heap a vs n) (rs : VRs S (a :: X) f s'.heap xs vs.toList) (hl : xs.length ≤ LIM)
inductive QN (S : Stat) (X Y : List Addr) (f : List Loc) (s : Shared) (r : R V) (v : Value) (s' : Shared) : Prop where
  | mk (x : V) (σ' : Sto) (g : List Loc) (e : r = .ok x σ') (hg : Fresh g s) (k : Kp f Y s s') (L : Lk S X (f ++ g) σ' s'.heap) (p : VR S X (f ++ g) s'.heap x v) (hl : ∀ xs, x = .lst xs → NewQ S X (f ++ g) σ' s s' xs v)
theorem QN.qs {r : R V} {v : Value} (q : QN S X Y f s r v s') : QS S X Y f (PV S X) s r v s' := by
  obtain ⟨x, σ', g, e, hg, k, L, p, _⟩ := q
  exact ⟨x, σ', g, e, hg, k, L, p⟩
theorem QN.trk {r : R V} {v : Value} (hne : (r.bind fun v σ => doTrk σ v) ≠ .stuck) (q : QN S X Y f s r v s') : QS S X Y f (PV S X) s (r.bind fun v σ => doTrk σ v) v s' := by
  obtain ⟨x, σ', g, rfl, hg, k, L, p, hl⟩ := q
  cases x with
  | lst xs =>
    obtain ⟨a, vs, n, rfl, hn, hX, L', il, r, hlen⟩ := hl xs rfl
    refine ⟨.ref σ'.length, σ' ++ [.list xs], g ++ [(a, none)], rfl, ?_, k, ?_, ?_⟩
    · intro b hb
      rcases zAH.mp hb with hb | hb
      · exact hg b hb
      · have : b = a := by simpa [addrs, Loc.addrs] using hb
        rw [this]; exact hn
    · rw [← List.append_assoc]
      refine Lk.track (l := (a, none)) (X := X) L' (by simp [Loc.addrs]) (fun b hb => by have : b = a := by simpa [Loc.addrs] using hb
                                                                                         rw [this]; exact hX) ⟨vs, n, il, ?_, hlen⟩
      refine VRs.keep (fun i l' e => List.getElem?_append_left (List.getElem?_eq_some_iff.mp e).1 ▸ e) (fun b ob q h1 h2 => ⟨⟨fun h3 => ?_, fun h3 => h2 (List.mem_cons_of_mem _ h3)⟩, ob, q, .refl ob⟩) xs vs.toList r
      rcases zAH.mp h3 with h3 | h3
      · exact h1 h3
      · have : b = a := by simpa [addrs, Loc.addrs] using h3
        exact h2 (this ▸ List.mem_cons_self)
    · show VR S X (f ++ (g ++ [(a, none)])) s'.heap (.ref σ'.length) (.ref a)
      rw [VR]
      refine ⟨(a, none), ?_, rfl⟩
      rw [← List.append_assoc, ← L.len, List.getElem?_append_right (Nat.le_refl _)]
      simp
  | _ => exact absurd rfl hne
theorem PE.qn {s₁ : Shared} {x : V} {v : Value} (hg : Fresh g s) (k : Kp f Y s s₁) (L : Lk S X (f ++ g) σ s₁.heap) (p : PE S X (f ++ g) s₁ x v s') : QN S X Y f s (.ok x σ) v s' := by
  obtain ⟨e, r, hl⟩ := p
  refine ⟨x, σ, g, rfl, hg, k.trans hg (e.kp _ _), e.lk L, r, fun xs hx => ?_⟩
  obtain ⟨a, vs, n, e1, e2, e3, e4, e5⟩ := hl xs hx
  refine ⟨a, vs, n, e1, zAc k.live e2, (L.new e2).2, L.hideNew e e2 e3, e3, ?_, e5⟩
  exact VRs.hideNew e e2 e4
end
end Mine
end

/-! # Frame -/
section
set_option autoImplicit false
namespace Mine
open PySem PyProof.Rows
noncomputable def isCellKind (k : Option NameKind) : Prop := k = some .cell ∨ k = some .free
noncomputable def NameIs (env : Env) (h : Heap) (x : Str) (w : Value) : Prop :=
  (env.kindOf x = some .local ∧ ∃ m, h.Ns env.locals m ∧ m x = some w) ∨ (isCellKind (env.kindOf x) ∧ ∃ c, env.cells.lookup x = some c ∧ h.IsCell c (some w))
structure FR (S : Stat) (X : List Addr) (f : List Loc) (h : Heap) (env : Env) (Γ : List Str) (sc : Scope) (ρ : List V) : Prop where
  kind : env.scope.kind = .function
  glob : env.globals = mainGlobals
  blt : env.builtins = builtinsNs
  names : ∀ x, env.kindOf x = sc.names.lookup x ∨ (sc.names.lookup x = some .free ∧ env.kindOf x = some .cell)
  loc : env.locals ∈ X ∧ ∃ m, h.Ns env.locals m
  cells : ∀ x, isCellKind (env.kindOf x) → ∃ c o, env.cells.lookup x = some c ∧ c ∈ X ∧ h.IsCell c o
  vals : ∀ x i v, isVar sc x = true → lastIdx x Γ = some i → ρ[i]? = some v → v ≠ .undef → ∃ w, NameIs env h x w ∧ VR S X f h v w
  len : ρ.length = Γ.length
noncomputable def FrL (S : Stat) (f : List Loc) (h : Heap) (l : List Env) : Prop :=
  ∀ e ∈ l, e.scope.kind ≠ .module ∧ ∃ L o es n, e.frame = some L ∧ S.hb.get? L = none ∧ L ∉ addrs f ∧ h.get? L = some o ∧ o.data = .dict es n
structure Cx (S : Stat) (A : Around) (q : Bool) (d : Nat) (f : List Loc) (h : Heap) (fr : Option Addr) : Prop where
  depth : A.depth + 2 * d + 3 ≤ 900
  units : A.units + 5 * d + 202 ≤ 9900
  hand : q = false → A.handled = none
  frs : ∃ e0 l, A.frames = some (e0 :: l) ∧ e0.frame = fr ∧ FrL S f h (e0 :: l)
structure CxC (S : Stat) (A : Around) (q : Bool) (d : Nat) (f : List Loc) (h : Heap) : Prop where
  depth : A.depth + 2 * d + 2 ≤ 900
  units : A.units + 5 * d + 200 ≤ 9900
  hand : q = false → A.handled = none
  frs : ∃ l, A.frames = some l ∧ FrL S f h l
theorem Cx.call {S : Stat} {A : Around} {q : Bool} {d : Nat} {f : List Loc} {h : Heap} {fr : Option Addr} (c : Cx S A q d f h fr) : CxC S A q d f h :=
  ⟨by have := c.depth; omega, by have := c.units; omega, c.hand, let ⟨e0, l, h1, _, h3⟩ := c.frs; ⟨e0 :: l, h1, h3⟩⟩
section
variable {S : Stat} {A : Around} {X Y : List Addr} {f g : List Loc} {s s' : Shared} {env : Env} {Γ : List Str} {sc : Scope} {ρ : List V} {q : Bool} {d : Nat} {fr : Option Addr}
theorem kp_ns {a : Addr} {m : Str → Option Value} (k : Kp f Y s s') (hf : a ∉ addrs f) (hY : a ∉ Y) (h : s.heap.Ns a m) : s'.heap.Ns a m := by
  obtain ⟨o, es, ep, ho, hd, r⟩ := h
  obtain ⟨o', ho', e⟩ := k.kept a o ho hf hY
  exact ⟨o', es, ep, ho', e.data.trans hd, r⟩
theorem kp_cell {a : Addr} {m : Option Value} (k : Kp f Y s s') (hf : a ∉ addrs f) (hY : a ∉ Y) (h : s.heap.IsCell a m) : s'.heap.IsCell a m := by
  obtain ⟨o, ho, hd⟩ := h
  obtain ⟨o', ho', e⟩ := k.kept a o ho hf hY
  exact ⟨o', ho', e.data.trans hd⟩
theorem NameIs.keep {x : Str} {w : Value} (k : Kp f Y s s') (hl : env.locals ∉ addrs f ∧ env.locals ∉ Y) (hc : ∀ x c, env.cells.lookup x = some c → isCellKind (env.kindOf x) → c ∉ addrs f ∧ c ∉ Y) (h : NameIs env s.heap x w) : NameIs env s'.heap x w := by
  rcases h with ⟨h1, m, h2, h3⟩ | ⟨h1, c, h2, h3⟩
  · exact .inl ⟨h1, m, kp_ns k hl.1 hl.2 h2, h3⟩
  · exact .inr ⟨h1, c, h2, kp_cell k (hc x c h2 h1).1 (hc x c h2 h1).2 h3⟩
theorem FR.keep {σ : Sto} (F : FR S X f s.heap env Γ sc ρ) (L : Lk S X f σ s.heap) (k : Kp f [] s s') (hg : Fresh g s) : FR S X (f ++ g) s'.heap env Γ sc ρ := by
  have hl : env.locals ∉ addrs f := (L.hid _ F.loc.1).2.1
  have hc : ∀ x c, env.cells.lookup x = some c → isCellKind (env.kindOf x) → c ∉ addrs f := fun x c e hk => by
    obtain ⟨c', o, e', hX, _⟩ := F.cells x hk
    rw [e] at e'; cases e'
    exact (L.hid c hX).2.1
  refine ⟨F.kind, F.glob, F.blt, F.names, ⟨F.loc.1, let ⟨m, h⟩ := F.loc.2; ⟨m, kp_ns k hl (by simp) h⟩⟩, fun x hx => ?_, fun x i v h1 h2 h3 h4 => ?_, F.len⟩
  · obtain ⟨c, o, e, hX, h⟩ := F.cells x hx
    exact ⟨c, o, e, hX, kp_cell k (hc x c e hx) (by simp) h⟩
  · obtain ⟨w, h5, h6⟩ := F.vals x i v h1 h2 h3 h4
    exact ⟨w, h5.keep k ⟨hl, by simp⟩ fun x c e hk => ⟨hc x c e hk, by simp⟩, h6.keepK k hg fun a ha => nomatch ha⟩
theorem FrL.keep {l : List Env} (F : FrL S f s.heap l) (k : Kp f Y s s') (hg : Fresh g s) : FrL S (f ++ g) s'.heap l := fun e he => by
  obtain ⟨h1, L, o, es, n, h2, h3, h4, h5, h6⟩ := F e he
  obtain ⟨o', es', n', h7, h8⟩ := k.dicts L o es n h5 h6 h4
  exact ⟨h1, L, o', es', n', h2, h3, fun h => (zAH.mp h).elim h4 (zAY hg h5), h7, h8⟩
theorem Cx.keep (c : Cx S A q d f s.heap fr) (k : Kp f Y s s') (hg : Fresh g s) : Cx S A q d (f ++ g) s'.heap fr :=
  ⟨c.depth, c.units, c.hand, let ⟨e0, l, h1, h2, h3⟩ := c.frs; ⟨e0, l, h1, h2, h3.keep k hg⟩⟩
end
inductive BookAt (S : Stat) (C : Ctx) : Prop where
  | mk (N : Addr) (mN : Str → Option Value) (nm q : Str) (bs : List Value) (sn : List Str) (sub : List Value) (col : Option Bool) (dd : Option Addr) (k0 k1 k2 k3 k5 : Option Value)
      (hC : S.hb.get? S.book = some (excClassObj nm q S.book N bs [.type "object"] true sn sub false col dd k0 k1 k2 k3 k5 "object.__new__")) (hN : S.hb.Ns N mN)
      (hq : mN "__getattribute__" = none ∧ mN "__getattr__" = none ∧ mN "__setattr__" = none ∧ mN (attrName 0) = none ∧ mN (attrName 1) = none) (hini : mN "__init__" = some (.ref (S.fn 0))) (h0 : ∃ o, S.hb.get? (S.fn 0) = some o ∧ o.cls = .type "function")
      (hms : ∀ m k, C.meths.lookup m = some k → mN m = some (.ref (S.fn k)) ∧ ∃ o, S.hb.get? (S.fn k) = some o ∧ o.cls = .type "function")
inductive GF (S : Stat) (C : Ctx) : Prop where
  | mk (mg mb : Str → Option Value) (g1 : S.hb.Ns mainGlobals mg) (g2 : S.hb.Ns builtinsNs mb)
      (g3 : ∀ x v, C.consts.lookup x = some v → ∃ w, mg x = some w ∧ VR S [] [] S.hb v w)
      (g4 : ∀ x k, C.fns.lookup x = some k → mg x = some (.ref (S.fn k)))
      (g5 : ∀ x : Str, (x ∈ b1Names.map (·.1) ∨ x ∈ b2Names.map (·.1) ∨ x ∈ kindNames.map (·.1) ∨ x = ("isinstance" : Str) ∨ x = ("range" : Str)) → C.fns.lookup x = none → mg x = none ∧ mb x = bootBuiltins x)
      (g6 : C.book = true → mg "Book" = some (.ref S.book))
      (g7 : ∀ x c, C.excs.lookup x = some c → (mg x = some (S.cl c)) ∨ (mg x = none ∧ mb x = some (S.cl c)))
structure Facts (S : Stat) (C : Ctx) (T : Nat → Option Fn) : Prop where
  g : GF S C
  nolimit : S.hb.NoLimit
  book : (C.book = false ∧ C.meths = [] ∧ C.attrs = []) ∨ (C.attrs = attrNames ∧ BookAt S C)
  exc : ∀ x c, C.excs.lookup x = some c → c ∈ S.kn ∧ (x ≠ ("ValueError" : Str) → ExcCl S c)
  parts : PartsAt S S.hb
  pnn : S.parts ≠ .none
  fnObj : ∀ k fn, T k = some fn → ∃ o fd, S.hb.get? (S.fn k) = some o ∧ o.data = .func fd
section
variable (S : Stat) (C : Ctx) (F : Calls) (q : Bool) (d : Nat)
noncomputable def FS : Prop := ∀ (k : Nat) (vs : List V) (σ : Sto) (f : List Loc) (X : List Addr) (A : Around) (s : Shared) (vals : List Value), CxC S A q d f s.heap → Lk S X f σ s.heap → VRs S X f s.heap vs vals →
  F k vs σ ≠ .stuck → (∃ o fd, S.hb.get? (S.fn k) = some o ∧ o.data = .func fd) ∧
    codeAny (model S.prog S.w) A (.call (.ref (S.fn k)) ⟨vals, []⟩) (fun r s' => match r with | .ok (.ret v) => QS S X [] f (PV S X) s (F k vs σ) v s' | .ok _ => False | .error e => ES S X [] f false s (F k vs σ) e s') s
structure St (Γ : List Str) (sc : Scope) (env : Env) (ρ : List V) (f : List Loc) (X : List Addr) (σ : Sto) (s : Shared) (A : Around) : Prop where
  cx : Cx S A q d f s.heap env.frame
  fr : FR S X f s.heap env Γ sc ρ
  lk : Lk S X f σ s.heap
noncomputable def EOk (Γ : List Str) (sc : Scope) (e : Expr) (c : CE) : Prop := ∀ (env : Env) (ρ : List V) (f : List Loc) (X : List Addr) (σ : Sto) (s : Shared) (A : Around), St S q d Γ sc env ρ f X σ s A →
  Sim S A X [] f (PV S X) (eval e env) (evE F q c ρ σ) s
noncomputable def NOk (Γ : List Str) (sc : Scope) (e : Expr) (c : CE) : Prop := ∀ (env : Env) (ρ : List V) (f : List Loc) (X : List Addr) (σ : Sto) (s : Shared) (A : Around), St S q d Γ sc env ρ f X σ s A →
  evE F q c ρ σ ≠ .stuck → wpAny (model S.prog S.w) A (eval e env) (QN S X [] f s (evE F q c ρ σ)) (ES S X [] f false s (evE F q c ρ σ)) s
noncomputable def LOk (Γ : List Str) (sc : Scope) (es : List Expr) (cs : List CE) : Prop := es.any isStar = false ∧ ∀ (env : Env) (pos : Pos) (ρ : List V) (f : List Loc) (X : List Addr) (σ : Sto) (s : Shared) (A : Around), St S q d Γ sc env ρ f X σ s A →
  Sim S A X [] f (fun vs xs f s => VRs S X f s.heap xs vs) (spliced (backTo pos (starEach es env))) (evL F q cs ρ σ) s
noncomputable def TOk (Γ : List Str) (sc : Scope) (e : Expr) (c : CE) : Prop := ∀ (env : Env) (ρ : List V) (f : List Loc) (X : List Addr) (σ : Sto) (s : Shared) (A : Around), St S q d Γ sc env ρ f X σ s A →
  Sim S A X [] f (fun b t _ _ => b = t) (isTrue e env (eval e env)) ((evE F q c ρ σ).bind fun v σ => R.lift σ (truthy σ v)) s
end
theorem FR.isGlob {S : Stat} {X : List Addr} {f : List Loc} {h : Heap} {env : Env} {Γ : List Str} {sc : Scope} {ρ : List V} (fr : FR S X f h env Γ sc ρ) {x : Str} (hg : isGlob sc x = true) : env.kindOf x = some .globalImplicit := by
  have h : sc.names.lookup x = some .globalImplicit := by simpa [Mine.isGlob] using hg
  rcases fr.names x with e | ⟨e, _⟩
  · exact e.trans h
  · rw [h] at e; first | exact zAA e | exact ff_tt e | cases e
section
variable {S : Stat} {C : Ctx} {F : Calls} {q : Bool} {d : Nat} {Γ : List Str} {sc : Scope}
theorem St.keep {env : Env} {ρ : List V} {f g : List Loc} {X : List Addr} {σ σ' : Sto} {s s' : Shared} {A : Around} (st : St S q d Γ sc env ρ f X σ s A) (hg : Fresh g s) (k : Kp f [] s s') (L : Lk S X (f ++ g) σ' s'.heap) : St S q d Γ sc env ρ (f ++ g) X σ' s' A :=
  ⟨st.cx.keep k hg, st.fr.keep st.lk k hg, L⟩
theorem NOk.eok {e : Expr} {c : CE} (h : NOk S F q d Γ sc e c) : EOk S F q d Γ sc e c := fun env ρ f X σ s A st hne => wpAny_mono (h env ρ f X σ s A st hne) (fun _ _ x => x.qs) fun _ _ x => x
theorem NOk.trk {e : Expr} {c : CE} (h : NOk S F q d Γ sc e c) : EOk S F q d Γ sc e (.trk c) := fun env ρ f X σ s A st hne => by
  have hr : evE F q c ρ σ ≠ .stuck := fun e => hne (by rw [x_trk, e]; rfl)
  rw [x_trk] at hne ⊢
  refine wpAny_mono (h env ρ f X σ s A st hr) (fun _ _ x => x.trk hne) fun e s' x => ?_
  obtain ⟨k, σ', g, ea, e1, e2, hgE, kE, LE, xE⟩ := x
  exact ⟨k, σ', g, ea, e1, by rw [e2]; rfl, hgE, kE, LE, xE⟩
theorem zCC {e : Expr} {c : CE} {p : Pos} (h : NOk S F q d Γ sc e c) : EOk S F q d Γ sc e (trkAt C p c) := by
  unfold trkAt; split
  · exact h.trk
  · exact h.eok
noncomputable def Lifts {γ δ : Type} (Y : List Addr) (K : List Loc → Shared → R δ → γ → Shared → Prop) : Prop := ∀ f g s s₁ r c s', Fresh g s → Kp f Y s s₁ → K (f ++ g) s₁ r c s' → K f s r c s'
theorem QS.lifts {α β : Type} {X Y : List Addr} {P : α → β → List Loc → Shared → Prop} : Lifts Y (fun f s r a s' => QS S X Y f P s r a s') := fun f g s s₁ r c s' hg k q => by
  obtain ⟨b', σ'', g', e, hg', k', L, p⟩ := q
  rw [List.append_assoc] at L p
  exact ⟨b', σ'', g ++ g', e, hg.trans k.live hg', k.trans hg k', L, p⟩
theorem ES.lifts {β : Type} {X Y : List Addr} {tr : Bool} : Lifts (δ := β) Y (fun f s r a s' => ES S X Y f tr s r a s') := fun f g s s₁ r c s' hg k q => by
  obtain ⟨c, σ'', g', ea, e1, e2, hg', k', L, x⟩ := q
  rw [List.append_assoc] at L x
  exact ⟨c, σ'', g ++ g', ea, e1, e2, hg.trans k.live hg', k.trans hg k', L, x.back fun a h => zAc k.live h⟩
theorem QN.lifts {X Y : List Addr} : Lifts Y (fun f s r a s' => QN S X Y f s r a s') := fun f g s s₁ r c s' hg k q => by
  obtain ⟨x, σ', g', e, hg', k', L, p, hl⟩ := q
  rw [List.append_assoc] at L p
  refine ⟨x, σ', g ++ g', e, hg.trans k.live hg', k.trans hg k', L, p, fun xs hx => ?_⟩
  obtain ⟨a, vs, n, e1, e2, e3, e4, e5, e6, e7⟩ := hl xs hx
  rw [List.append_assoc] at e4 e6
  exact ⟨a, vs, n, e1, zAc k.live e2, e3, e4, e5, e6, e7⟩
theorem Sim.go {α β γ δ : Type} {A : Around} {X Y : List Addr} {f : List Loc} {P : α → β → List Loc → Shared → Prop} {K : List Loc → Shared → R δ → γ → Shared → Prop} (hK : Lifts Y K)
    {t : Sem α} {r : R β} {rk : β → Sto → R δ} {s : Shared} {W : α → Shared → Prop} {Q' : γ → Shared → Prop} {E' : Value → Shared → Prop} (h : Sim S A X Y f P t r s) (hne : r.bind rk ≠ .stuck)
    (hQ : ∀ c s'', K f s (r.bind rk) c s'' → Q' c s'') (hE : ∀ e s'', ES S X Y f false s (r.bind rk) e s'' → E' e s'')
    (hk : ∀ a b σ' g s', rk b σ' ≠ .stuck → Fresh g s → Kp f Y s s' → Lk S X (f ++ g) σ' s'.heap → P a b (f ++ g) s' → (∀ c s'', K (f ++ g) s' (rk b σ') c s'' → Q' c s'') →
      (∀ e s'', ES S X Y (f ++ g) false s' (rk b σ') e s'' → E' e s'') → W a s') : wpAny (model S.prog S.w) A t W E' s := by
  have hr : r ≠ .stuck := fun e => hne (by rw [e]; rfl)
  refine wpAny_mono (h hr) (fun a s' q => ?_) fun e s' q => hE e s' ?_
  · obtain ⟨b, σ', g, rfl, hg, k, L, p⟩ := q
    exact hk a b σ' g s' hne hg k L p (fun c s'' q => hQ c s'' (hK f g s s' _ c s'' hg k q)) fun e s'' q => hE e s'' (ES.lifts f g s s' _ e s'' hg k q)
  · obtain ⟨c, σ', g, ea, e1, rfl, hg, k, L, x⟩ := q
    exact ⟨c, σ', g, ea, e1, rfl, hg, k, L, x⟩
theorem R.bind_assoc {α β γ : Type} (r : R α) (f : α → Sto → R β) (g : β → Sto → R γ) : (r.bind f).bind g = r.bind fun a σ => (f a σ).bind g := by cases r <;> rfl
theorem PE.here {X Y : List Addr} {f : List Loc} {σ : Sto} {s s' : Shared} {x : V} {v : Value} (L : Lk S X f σ s.heap) (p : PE S X f s x v s') : QN S X Y f s (.ok x σ) v s' := by
  have := PE.qn (f := f) (g := []) (Y := Y) (.nil s) (.refl f Y s) (by rwa [List.append_nil]) (by rw [List.append_nil]; exact p)
  exact this
theorem Sim.goN {α β : Type} {A : Around} {X Y : List Addr} {f : List Loc} {P : α → β → List Loc → Shared → Prop}
    {t : Sem α} {r : R β} {rk : β → Sto → R V} {s : Shared} {W : α → Shared → Prop} {Q' : Value → Shared → Prop} {E' : Value → Shared → Prop} (h : Sim S A X Y f P t r s) (hne : r.bind rk ≠ .stuck)
    (hQ : ∀ c s'', QN S X Y f s (r.bind rk) c s'' → Q' c s'') (hE : ∀ e s'', ES S X Y f false s (r.bind rk) e s'' → E' e s'')
    (hk : ∀ a b σ' g s', rk b σ' ≠ .stuck → Fresh g s → Kp f Y s s' → Lk S X (f ++ g) σ' s'.heap → P a b (f ++ g) s' → (∀ c s'', QN S X Y (f ++ g) s' (rk b σ') c s'' → Q' c s'') →
      (∀ e s'', ES S X Y (f ++ g) false s' (rk b σ') e s'' → E' e s'') → W a s') : wpAny (model S.prog S.w) A t W E' s :=
  Sim.go (K := fun f s r a s' => QN S X Y f s r a s') QN.lifts h hne hQ hE hk
theorem Sim.goQ {α β γ δ : Type} {A : Around} {X Y : List Addr} {f : List Loc} {P : α → β → List Loc → Shared → Prop} {P' : γ → δ → List Loc → Shared → Prop}
    {t : Sem α} {r : R β} {rk : β → Sto → R δ} {s : Shared} {W : α → Shared → Prop} {Q' : γ → Shared → Prop} {E' : Value → Shared → Prop} (h : Sim S A X Y f P t r s) (hne : r.bind rk ≠ .stuck)
    (hQ : ∀ c s'', QS S X Y f P' s (r.bind rk) c s'' → Q' c s'') (hE : ∀ e s'', ES S X Y f false s (r.bind rk) e s'' → E' e s'')
    (hk : ∀ a b σ' g s', rk b σ' ≠ .stuck → Fresh g s → Kp f Y s s' → Lk S X (f ++ g) σ' s'.heap → P a b (f ++ g) s' → (∀ c s'', QS S X Y (f ++ g) P' s' (rk b σ') c s'' → Q' c s'') →
      (∀ e s'', ES S X Y (f ++ g) false s' (rk b σ') e s'' → E' e s'') → W a s') : wpAny (model S.prog S.w) A t W E' s :=
  Sim.go (K := fun f s r a s' => QS S X Y f P' s r a s') QS.lifts h hne hQ hE hk
end
end Mine
end

/-! # DictS -/
section
set_option autoImplicit false
namespace Mine
open PySem PyProof.Rows
section
variable {S : Stat} {C : Ctx} {T : Nat → Option Fn} {F Fq : Calls} {q : Bool} {d : Nat} {Γ : List Str} {sc : Scope}
variable {X X' Y Z : List Addr} {f g : List Loc} {σ : Sto} {s s' : Shared} {A : Around} {E : Value → Shared → Prop} {env : Env} {ρ : List V}
theorem dict_at {n : Nat} {ax : Addr} {es : List (Int × V)} (L : Lk S X f σ s.heap) (hf : f[n]? = some (ax, none)) (ho : σ[n]? = some (.dict es)) :
    ∃ kvs, s.heap.DictOf (intKind S.prog S.w) ax kvs ∧ kvs.map (·.1) = es.map (·.1) ∧ VRs S X f s.heap (es.map (·.2)) (kvs.map (·.2)) ∧ es.length ≤ LIM := L.obj n _ _ hf ho
theorem upd_dict {n : Nat} {ax : Addr} {es' : List (Int × V)} {kvs' : List (Int × Value)} {h' : Heap} {t : Nat} (L : Lk S X f σ s.heap) (hf : f[n]? = some (ax, none)) (hs : Heap.SameBut ax s.heap h') (hd : h'.DictOf (intKind S.prog S.w) ax kvs')
    (e1 : kvs'.map (·.1) = es'.map (·.1)) (rs : VRs S X f s.heap (es'.map (·.2)) (kvs'.map (·.2))) (hl : es'.length ≤ LIM) :
    Lk S X f (σ.set n (.dict es')) h' ∧ ∀ Y, Kp f Y s { s with heap := h', toks := t } := by
  have hs' : ∀ b o, b ∉ Loc.addrs (ax, none) → s.heap.get? b = some o → h'.get? b = some o := fun b o hb e => (hs.2 b fun q => hb (by rw [q]; exact List.mem_singleton.mpr rfl)).trans e
  have hax : ax ∈ addrs f := zAb hf (List.mem_singleton.mpr rfl)
  refine ⟨L.upd hf hs' ⟨kvs', hd, e1, ?_, hl⟩, fun Y => Kp.upd hf hs' fun a ha => ?_⟩
  · exact VRs.keep (fun _ _ e => e) (fun b ob q h1 h2 => ⟨⟨h1, h2⟩, ob, hs' b ob (fun z => h1 (by rw [List.mem_singleton.mp z]; exact hax)) q, .refl ob⟩) _ _ rs
  · rw [List.mem_singleton.mp ha]; obtain ⟨o, _, _, e, _⟩ := hd; exact ⟨o, e⟩
theorem set_pairs {k : Int} {v : V} {vv : Value} {h : Heap} (rv : VR S X f h v vv) : ∀ {es : List (Int × V)} {kvs : List (Int × Value)}, kvs.map (·.1) = es.map (·.1) → VRs S X f h (es.map (·.2)) (kvs.map (·.2)) →
    ((kvs.any fun kv => decide (kv.1 = k)) = es.any fun p => p.1 == k) ∧ ((kvs.map fun kv => if kv.1 = k then (kv.1, vv) else kv).map (·.1) = (es.map fun p => if p.1 == k then (k, v) else p).map (·.1)) ∧
      VRs S X f h ((es.map fun p => if p.1 == k then (k, v) else p).map (·.2)) ((kvs.map fun kv => if kv.1 = k then (kv.1, vv) else kv).map (·.2))
  | [], [], _, _ => ⟨rfl, rfl, by rw [List.map_nil, List.map_nil, List.map_nil, List.map_nil, VRs]; trivial⟩
  | [], _ :: _, e, _ => by cases e
  | _ :: _, [], e, _ => by cases e
  | (i, x) :: es, (j, w) :: kvs, e, r => by
    have e0 : j :: kvs.map (·.1) = i :: es.map (·.1) := e
    obtain ⟨rfl, e1⟩ := List.cons.inj e0
    have r0 : VRs S X f h (x :: es.map (·.2)) (w :: kvs.map (·.2)) := r
    rw [VRs] at r0
    obtain ⟨h1, h2, h3⟩ := set_pairs (k := k) rv e1 r0.2
    by_cases hk : j = k
    · have c1 : (if (j, w).1 = k then ((j, w).1, vv) else (j, w)) = (j, vv) := if_pos hk
      have c2 : (if ((j, x).1 == k) = true then (k, v) else (j, x)) = (k, v) := if_pos (by simp [hk])
      refine ⟨by simp [hk], ?_, ?_⟩
      · show (if (j, w).1 = k then ((j, w).1, vv) else (j, w)).1 :: _ = (if ((j, x).1 == k) = true then (k, v) else (j, x)).1 :: _
        rw [c1, c2, h2, hk]
      · show VRs S X f h ((if ((j, x).1 == k) = true then (k, v) else (j, x)).2 :: _) ((if (j, w).1 = k then ((j, w).1, vv) else (j, w)).2 :: _)
        rw [c1, c2, VRs]
        exact ⟨rv, h3⟩
    · have c1 : (if (j, w).1 = k then ((j, w).1, vv) else (j, w)) = (j, w) := if_neg hk
      have c2 : (if ((j, x).1 == k) = true then (k, v) else (j, x)) = (j, x) := if_neg (by simp [hk])
      refine ⟨by simp [hk, h1], ?_, ?_⟩
      · show (if (j, w).1 = k then ((j, w).1, vv) else (j, w)).1 :: _ = (if ((j, x).1 == k) = true then (k, v) else (j, x)).1 :: _
        rw [c1, c2, h2]
      · show VRs S X f h ((if ((j, x).1 == k) = true then (k, v) else (j, x)).2 :: _) ((if (j, w).1 = k then ((j, w).1, vv) else (j, w)).2 :: _)
        rw [c1, c2, VRs]
        exact ⟨r0.1, h3⟩
theorem set_dict_at {n : Nat} {ki : Int} {vo vi vv : Value} {v' : V} {es : List (Int × V)} {Q : Unit → Shared → Prop} (L : Lk S X f σ s.heap) (ro : VR S X f s.heap (.ref n) vo) (ri : VR S X f s.heap (.int ki) vi) (hσ : σ[n]? = some (.dict es)) (hl : es.length < LIM) (rv : VR S X f s.heap v' vv)
    (h : ∀ h' tk, Lk S X f (σ.set n (.dict (setDict es ki v'))) h' → (∀ Y, Kp f Y s { s with heap := h', toks := tk }) → Q () { s with heap := h', toks := tk }) : wpAny (model S.prog S.w) A (setItem vo vi vv) Q E s := by
  rw [VR] at ro
  obtain ⟨⟨ax, dd⟩, hf, rfl⟩ := ro
  have hob := L.obj n _ _ hf hσ
  cases dd with
  | some _ => exact hob.elim
  | none =>
  obtain ⟨kvs, hd, e1, rs, _⟩ := hob
  obtain ⟨t, rfl⟩ := zAe ri
  have hlen : kvs.length = es.length := by have := congrArg List.length e1; simpa using this
  have hsz : kvs.length ≤ sizeLine := by rw [hlen]; exact Nat.le_trans (Nat.le_of_lt hl) zAo
  obtain ⟨p1, p2, p3⟩ := set_pairs (k := ki) rv e1 rs
  refine wpAny_setItem_pairs (knd := intKind S.prog S.w) (k := ki) (by show Value.isInt ki (.int ki t) = true; simp [Value.isInt]) hd (fun h' hd' hs => ?_) hsz
  have key : (stored kvs ki vv).map (·.1) = (setDict es ki v').map (·.1) ∧ VRs S X f s.heap ((setDict es ki v').map (·.2)) ((stored kvs ki vv).map (·.2)) ∧ (setDict es ki v').length ≤ LIM := by
    unfold stored setDict
    rw [p1]
    split
    · exact ⟨p2, p3, by rw [List.length_map]; exact Nat.le_of_lt hl⟩
    · refine ⟨by rw [List.map_append, List.map_append, e1]; rfl, ?_, by rw [List.length_append]; exact hl⟩
      rw [List.map_append, List.map_append]
      exact zBB rs (by rw [List.map_cons, List.map_nil, List.map_cons, List.map_nil, VRs, VRs]; exact ⟨rv, trivial⟩)
  obtain ⟨L3, k3⟩ := upd_dict (t := s.toks + 1) L hf hs hd' key.1 key.2.1 key.2.2
  exact h h' _ L3 k3
end
end Mine
end

/-! # Exc1 -/
section
set_option autoImplicit false
namespace Mine
open PySem PyProof.Rows
noncomputable def hideAll (h : Heap) : List Addr → Heap
  | [] => h
  | a :: l => (hideAll h l).hide a
theorem zDB {h : Heap} {a : Addr} : ∀ {l : List Addr}, a ∈ l → (hideAll h l).get? a = none
  | b :: l, m => by
    unfold hideAll
    by_cases e : a = b
    · rw [e]; exact Heap.hide_self _ _
    · rw [Heap.hide_ne _ e]; exact zDB ((List.mem_cons.mp m).resolve_left e)
theorem zBS {h : Heap} {a : Addr} : ∀ {l : List Addr}, a ∉ l → (hideAll h l).get? a = h.get? a
  | [], _ => rfl
  | b :: l, m => by
    unfold hideAll
    have hne : a ≠ b := fun e => m (by rw [e]; exact List.mem_cons_self)
    rw [Heap.hide_ne _ hne]
    exact zBS fun q => m (List.mem_cons_of_mem _ q)
theorem hideAll_stays (h : Heap) (l : List Addr) : (hideAll h l).StaysIn h := fun b o e => by
  by_cases m : b ∈ l
  · rw [zDB m] at e; first | exact zAA e | exact ff_tt e | cases e
  · rwa [zBS m] at e
section
variable {M : Model} {A : Around} {E : Value → Shared → Prop} {s : Shared} {env : Env} {outer : List Env} {base : Heap} {L e : Addr} {Q : Unit → Shared → Prop}
theorem note_first {oe : Obj} {vs : Array Value} (hfr : A.frames = some (env :: outer)) (hl : s.heap.FunFrames base (env :: outer)) (hf : env.frame = some L)
    (he : s.heap.get? e = some oe) (hkb : base.StaysIn s.heap) (hen : base.get? e = none) (hd : oe.data = .fields vs) (h1 : vs[1]? = some .none)
    (h : ∀ h', Heap.Left base (env :: outer) e oe.cls s.heap h' → Q () { s with heap := h' }) :
    wpAny M A (noteFrame (.ref e) env) (fun _ s₂ => wpAny M A (setFlight (.ref e) none) Q E s₂) E s := by
  unfold noteFrame
  simp only [hf]
  refine wpAny_bind (wpAny_field he hd h1 ?_)
  rw [if_neg (by decide)]
  exact wpAny_newEntry hfr hl hf he hkb hen hd (Array.getElem?_eq_some_iff.mp h1).1 h
theorem note_next {oe oT : Obj} {vs ts : Array Value} {T : Addr} (hfr : A.frames = some (env :: outer)) (hl : s.heap.FunFrames base (env :: outer)) (hf : env.frame = some L)
    (he : s.heap.get? e = some oe) (hkb : base.StaysIn s.heap) (hen : base.get? e = none) (hd : oe.data = .fields vs) (h1 : vs[1]? = some (.ref T))
    (hnT : base.get? T = none) (hTe : T ≠ e) (hT : s.heap.get? T = some oT) (hdT : oT.data = .fields ts) (h3 : ts[3]? = some .none)
    (h : ∀ h', Heap.Left base (env :: outer) e oe.cls s.heap h' → Q () { s with heap := h' }) :
    wpAny M A (noteFrame (.ref e) env) (fun _ s₂ => wpAny M A (setFlight (.ref e) none) Q E s₂) E s := by
  unfold noteFrame
  simp only [hf]
  refine wpAny_bind (wpAny_field he hd h1 ?_)
  rw [if_pos (show (Value.ref T != Value.none) = true from by simp)]
  refine wpAny_bind (wpAny_field hT hdT h3 ?_)
  rw [if_neg (show ¬ ((Value.none == rawInt L) = true) from by simp [rawInt])]
  refine wpAny_bind (wpAny_setField hT hdT (Array.getElem?_eq_some_iff.mp h3).1 ?_)
  have other : ∀ b, b ≠ T → (s.heap.update T (Obj.mapFields (·.setIfInBounds 3 Value.none))).get? b = s.heap.get? b := fun b hb => Heap.get?_update_other _ _ (Ne.symm hb)
  have noRecord : ∀ b o, s.heap.get? b = some o → (∀ vs, o.data ≠ .fields vs) → b ≠ T := fun b o hb hnf q => by
    rw [q, hT] at hb; cases hb; exact hnf ts hdT
  exact wpAny_newEntry hfr (hl.of_keeps fun b o hb hnf => ⟨o, (other b (noRecord b o hb hnf)).trans hb, rfl⟩) hf ((other e (Ne.symm hTe)).trans he)
    (fun b o hbo => (other b fun q => by rw [q, hnT] at hbo; cases hbo).trans (hkb b o hbo)) hen hd (Array.getElem?_eq_some_iff.mp h1).1
    fun h' ⟨x1, x2, x3, x4⟩ => h h' ⟨x1, x2, x3, fun b o hb hnf => x4 b o ((other b (noRecord b o hb hnf)).trans hb) hnf⟩
end
section
variable {S : Stat} {X Y : List Addr} {f f₀ : List Loc} {σ : Sto} {h h' h₀ : Heap} {ea : Addr} {k : Cls} {s s' s₀ : Shared} {l : List Env}
noncomputable def frameAddrs (l : List Env) : List Addr := l.filterMap (·.frame)
theorem FrL.mem (F : FrL S f h l) {a : Addr} (ha : a ∈ frameAddrs l) : S.hb.get? a = none ∧ a ∉ addrs f ∧ ∃ o es n, h.get? a = some o ∧ o.data = .dict es n := by
  obtain ⟨e, he, hf⟩ := List.mem_filterMap.mp ha
  obtain ⟨_, L, o, es, n, h1, h2, h3, h4, h5⟩ := F e he
  rw [h1] at hf; cases hf
  exact ⟨h2, h3, o, es, n, h4, h5⟩
theorem FrL.fun {base : Heap} (F : FrL S f h l) (hb : ∀ a ∈ frameAddrs l, base.get? a = none) : h.FunFrames base l := by
  induction l with
  | nil => trivial
  | cons e l ih =>
    obtain ⟨h0, L, o, es, n, h1, h2, h3, h4, h5⟩ := F e List.mem_cons_self
    exact ⟨h0, ⟨L, o, h1, hb L (List.mem_filterMap.mpr ⟨e, List.mem_cons_self, h1⟩), h4, fun vs q => by rw [h5] at q; cases q⟩,
      ih (fun e he => F e (List.mem_cons_of_mem _ he)) fun a ha => hb a (by
        obtain ⟨e', he, hf⟩ := List.mem_filterMap.mp ha
        exact List.mem_filterMap.mpr ⟨e', List.mem_cons_of_mem _ he, hf⟩)⟩
structure Noted (S : Stat) (f : List Loc) (h h' : Heap) (hs : List Addr) : Prop where
  same : ∀ b o, b ∉ hs → h.get? b = some o → ∃ o', h'.get? b = some o' ∧ SameObj o o'
  base : ∀ b o, S.hb.get? b = some o → h'.get? b = some o
  trk : ∀ b ∈ addrs f, h'.get? b = h.get? b
theorem Noted.lk {hs hs' : List Addr} (N : Noted S f h h' hs) (L : Lk S (hs ++ X) f σ h) (hX : ∀ a ∈ X, a ∉ hs) (hn : ∀ a ∈ hs', (a ∈ hs ∨ h.get? a = none) ∧ ∃ o, h'.get? a = some o) : Lk S (hs' ++ X) f σ h' := by
  have nf : ∀ a, a ∈ addrs f → ∃ o, h.get? a = some o := fun a ha => L.live ha
  have ho : ∀ a o, h.get? a = some o → a ∉ addrs f → a ∉ hs ++ X → (a ∉ addrs f ∧ a ∉ hs' ++ X) ∧ ∃ o', h'.get? a = some o' ∧ SameObj o o' := fun a o e h1 h2 => by
    refine ⟨⟨h1, fun q => ?_⟩, N.same a o (fun q => h2 (List.mem_append_left _ q)) e⟩
    rcases List.mem_append.mp q with q | q
    · rcases (hn a q).1 with z | z
      · exact h2 (List.mem_append_left _ z)
      · rw [z] at e; first | exact zAA e | exact ff_tt e | cases e
    · exact h2 (List.mem_append_right _ q)
  refine ⟨N.base, L.len, L.nodup, L.fresh, fun a ha => ?_, fun i l o hi hσ => (L.obj i l o hi hσ).keep (fun x v e => VR.keep (fun _ _ e => e) ho x v e) (fun x v e => VRs.keep (fun _ _ e => e) ho x v e) fun a ha => N.trk a (zAb hi ha)⟩
  rcases List.mem_append.mp ha with q | q
  · obtain ⟨z, o, e⟩ := hn a q
    rcases z with z | z
    · obtain ⟨h1, h2, _⟩ := L.hid a (List.mem_append_left _ z)
      exact ⟨h1, h2, o, e⟩
    · refine ⟨?_, fun hf => ?_, o, e⟩
      · cases hb : S.hb.get? a with
        | none => rfl
        | some o => have := L.base a o hb; rw [z] at this; cases this
      · obtain ⟨o, q⟩ := nf a hf; rw [z] at q; cases q
  · obtain ⟨h1, h2, o, e⟩ := L.hid a (List.mem_append_right _ q)
    exact ⟨h1, h2, let ⟨o', q', _⟩ := N.same a o (hX a q) e; ⟨o', q'⟩⟩
theorem Noted.kp {hs : List Addr} (N : Noted S f s.heap h' hs) (K : Kp f₀ Y s₀ s) (hn : ∀ a ∈ hs, s₀.heap.get? a = none) : Kp f₀ Y s₀ { s with heap := h' } := by
  have no : ∀ a o, s₀.heap.get? a = some o → a ∉ hs := fun a o e m => by rw [hn a m] at e; cases e
  refine ⟨?_, fun a o e => ?_, fun a o e h1 h2 => ?_, fun a o es n e d h1 => ?_⟩
  · show ({ s with heap := h' } : Shared) = _
    rw [K.rest]
  · obtain ⟨o₁, e₁⟩ := K.live a o e
    exact let ⟨o', q', _⟩ := N.same a o₁ (no a o e) e₁; ⟨o', q'⟩
  · obtain ⟨o₁, e₁, q₁⟩ := K.kept a o e h1 h2
    obtain ⟨o₂, e₂, q₂⟩ := N.same a o₁ (no a o e) e₁
    exact ⟨o₂, e₂, q₁.trans q₂⟩
  · obtain ⟨o₁, es₁, n₁, e₁, d₁⟩ := K.dicts a o es n e d h1
    obtain ⟨o₂, e₂, q₂⟩ := N.same a o₁ (no a o e) e₁
    exact ⟨o₂, es₁, n₁, e₂, q₂.data.trans d₁⟩
theorem note_sound {M : Model} {A : Around} {E : Value → Shared → Prop} {Q : Unit → Shared → Prop} {env : Env} {outer : List Env} {L : Addr} (hfr : A.frames = some (env :: outer)) (F : FrL S f s.heap (env :: outer)) (hf : env.frame = some L)
    (x : ExcR S X f σ s.heap h₀ ea k) (hX : ∀ a ∈ X, ∃ o, h₀.get? a = some o) (hback : ∀ a, s.heap.get? a = none → h₀.get? a = none)
    (hQ : ∀ h' hs, (∀ a ∈ hs, h₀.get? a = none) → (∀ a ∈ hs, ∃ o vs, s.heap.get? a = some o ∧ o.data = .fields vs) → Noted S f s.heap h' hs → Lk S X f σ h' → ExcR S X f σ h' h₀ ea k → Q () { s with heap := h' }) :
    wpAny M A (noteFrame (.ref ea) env) (fun _ s₂ => wpAny M A (setFlight (.ref ea) none) Q E s₂) E s := by
  obtain ⟨e1, ec, hs, oe, vs, Lh, e4, e5, e6, e8⟩ := x
  have hea : ea ∈ hs := by rcases e8 with ⟨rfl, _⟩ | ⟨T, _, _, rfl, _⟩ <;> exact List.mem_cons_self
  have hfree : ∀ a ∈ hs, h₀.get? a = none := by
    rcases e8 with ⟨rfl, _⟩ | ⟨T, _, _, rfl, t1, _⟩
    · intro a ha; rw [List.mem_singleton.mp ha]; exact e1
    · intro a ha
      rcases List.mem_cons.mp ha with rfl | ha
      · exact e1
      · rw [List.mem_singleton.mp ha]; exact t1
  have hrec : ∀ a ∈ hs, ∃ o vs, s.heap.get? a = some o ∧ o.data = .fields vs := by
    rcases e8 with ⟨rfl, _⟩ | ⟨T, oT, ts, rfl, _, _, _, t1, t2, _⟩
    · intro a ha; rw [List.mem_singleton.mp ha]; exact ⟨oe, vs, e4, e6⟩
    · intro a ha
      rcases List.mem_cons.mp ha with rfl | ha
      · exact ⟨oe, vs, e4, e6⟩
      · rw [List.mem_singleton.mp ha]; exact ⟨oT, ts, t1, t2⟩
  have Fr : ∀ {a : Addr}, a ∈ frameAddrs (env :: outer) → S.hb.get? a = none ∧ a ∉ addrs f ∧ ∃ o es n, s.heap.get? a = some o ∧ o.data = .dict es n := FrL.mem F
  have hB : ∀ a ∈ frameAddrs (env :: outer) ++ hs, (hideAll s.heap (frameAddrs (env :: outer) ++ hs)).get? a = none := fun a ha => zDB ha
  have hFF : s.heap.FunFrames (hideAll s.heap (frameAddrs (env :: outer) ++ hs)) (env :: outer) := F.fun fun a ha => hB a (List.mem_append_left _ ha)
  have hst := hideAll_stays s.heap (frameAddrs (env :: outer) ++ hs)
  have fin : ∀ h', Heap.Left (hideAll s.heap (frameAddrs (env :: outer) ++ hs)) (env :: outer) ea oe.cls s.heap h' → Q () { s with heap := h' } := fun h' q => by
    obtain ⟨q1, q2, ⟨oe', vs', T', oT', ts', p1, p2, p3, p4, p5, p6, p7, p8, p9⟩, q4⟩ := q
    have exact' : ∀ b o, b ∉ frameAddrs (env :: outer) → b ∉ hs → s.heap.get? b = some o → h'.get? b = some o := fun b o h1 h2 e =>
      q1 b o ((zBS fun m => (List.mem_append.mp m).elim h1 h2).trans e)
    have same : ∀ b o, b ∉ hs → s.heap.get? b = some o → ∃ o', h'.get? b = some o' ∧ SameObj o o' := fun b o h2 e => by
      by_cases h1 : b ∈ frameAddrs (env :: outer)
      · obtain ⟨_, _, o2, es, n, r1, r2⟩ := Fr h1
        rw [e] at r1; cases r1
        obtain ⟨sl, r3⟩ := q4 b o e fun vs q => by rw [r2] at q; cases q
        exact ⟨_, r3, .inr ⟨⟨es, n, r2⟩, rfl, rfl, rfl⟩⟩
      · exact ⟨o, exact' b o h1 h2 e, .refl o⟩
    have hT' : T' ∈ hs ∨ s.heap.get? T' = none := by
      cases e : s.heap.get? T' with
      | none => exact .inr rfl
      | some o =>
        by_cases m : T' ∈ frameAddrs (env :: outer) ++ hs
        · rcases List.mem_append.mp m with m | m
          · obtain ⟨_, _, o2, es, n, r1, r2⟩ := Fr m
            obtain ⟨sl, r3⟩ := q4 T' o2 r1 fun vs q => by rw [r2] at q; cases q
            rw [p7] at r3; cases r3
            rw [r2] at p8; cases p8
          · exact .inl m
        · rw [zBS m, e] at p5; first | exact zAA p5 | exact ff_tt p5 | cases p5
    have N : Noted S f s.heap h' hs := by
      refine ⟨same, fun b o e => ?_, fun b hb => ?_⟩
      · have hb : s.heap.get? b = some o := Lh.base b o e
        refine exact' b o (fun m => ?_) (fun m => ?_) hb
        · rw [(Fr m).1] at e; first | exact zAA e | exact ff_tt e | cases e
        · rw [(Lh.hid b (List.mem_append_left _ m)).1] at e; first | exact zAA e | exact ff_tt e | cases e
      · obtain ⟨o, e⟩ := Lh.live hb
        rw [e]
        exact exact' b o (fun m => (Fr m).2.1 hb) (fun m => (Lh.hid b (List.mem_append_left _ m)).2.1 hb) e
    have hXs : ∀ a ∈ X, a ∉ hs := fun a ha m => by obtain ⟨o, e⟩ := hX a ha; rw [hfree a m] at e; cases e
    have L0 : Lk S X f σ h' := N.lk (hs' := []) Lh hXs fun a ha => nomatch ha
    have L1 : Lk S ([ea, T'] ++ X) f σ h' := N.lk Lh hXs fun a ha => by
      rcases List.mem_cons.mp ha with rfl | ha
      · exact ⟨.inl hea, _, p1⟩
      · obtain rfl := List.mem_singleton.mp ha; exact ⟨hT', _, p7⟩
    refine hQ h' hs hfree hrec N L0 ⟨e1, ec, [ea, T'], oe', vs', L1, p1, p2.trans e5, p3, .inr ⟨T', oT', ts', rfl, ?_, p6, p4, p7, p8, p9⟩⟩
    rcases hT' with m | m
    · exact hfree T' m
    · exact hback T' m
  rcases e8 with ⟨rfl, v1⟩ | ⟨T, oT, ts, rfl, t0, t1, t2, t3, t4, t5⟩
  · exact note_first hfr hFF hf e4 hst (hB ea (List.mem_append_right _ hea)) e6 v1 fin
  · exact note_next hfr hFF hf e4 hst (hB ea (List.mem_append_right _ hea)) e6 t2 (hB T (List.mem_append_right _ (List.mem_cons_of_mem _ (List.mem_singleton.mpr rfl)))) t1 t3 t4 t5 fin
end
end Mine
end

/-! # Expr1 -/
section
set_option autoImplicit false
namespace Mine
open PySem PyProof.Rows
section
variable {S : Stat} {C : Ctx} {T : Nat → Option Fn} {F : Calls} {q : Bool} {d : Nat} {Γ : List Str} {sc : Scope}
theorem Lk.ofBase {X : List Addr} {f : List Loc} {σ : Sto} {h : Heap} (L : Lk S X f σ h) {v : V} {w : Value} (r : VR S [] [] S.hb v w) : VR S X f h v w :=
  VR.keep (fun i l e => by simp at e) (fun a o ho _ _ => ⟨⟨fun q => (by rw [L.fresh a q] at ho; cases ho), fun q => (by rw [(L.hid a q).1] at ho; cases ho)⟩, o, L.base a o ho, .refl o⟩) v w r
theorem Lk.ns {X : List Addr} {f : List Loc} {σ : Sto} {h : Heap} {a : Addr} {m : Str → Option Value} (L : Lk S X f σ h) (n : S.hb.Ns a m) : h.Ns a m := by
  obtain ⟨o, es, ep, ho, r⟩ := n
  exact ⟨o, es, ep, L.base a o ho, r⟩
theorem ok_none {k pos} : EOk S F q d Γ sc (.Constant .none k pos) (.lit .none) := fun env ρ f X σ s A st _ => by
  rw [x_lit]
  exact wpAny_Constant_none (.leaf st.lk (.refl s) (by rw [VR]))
theorem ok_bool {b k pos} : EOk S F q d Γ sc (.Constant (.bool b) k pos) (.lit (.bool b)) := fun env ρ f X σ s A st _ => by
  rw [x_lit]
  exact wpAny_Constant_bool (.leaf st.lk (.refl s) (by rw [VR]))
theorem ok_int {i k pos} : EOk S F q d Γ sc (.Constant (.int i) k pos) (.lit (.int i)) := fun env ρ f X σ s A st _ => by
  rw [x_lit]
  exact wpAny_Constant_int (.leaf st.lk (.toks s _) (by rw [VR]; exact ⟨_, rfl⟩))
theorem ok_str {x : Str} {k pos} (h : (x.length ≤ 1000 && PyData.strOk x) = true) : EOk S F q d Γ sc (.Constant (.str x) k pos) (.lit (.str x)) := fun env ρ f X σ s A st _ => by
  rw [x_lit]
  rw [Bool.and_eq_true] at h
  have := of_decide_eq_true h.1
  exact wpAny_Constant_str (.leaf st.lk (.toks s _) (by rw [VR]; exact ⟨⟨_, rfl⟩, by unfold LIM; omega, h.2⟩))
theorem load_name {env : Env} {x : Str} {w : Value} {s : Shared} {A : Around} {Q : Value → Shared → Prop} {E : Value → Shared → Prop} (hk : env.scope.kind = .function) (hc : (x == ("__classdict__" : Str)) = false) (n : NameIs env s.heap x w) (h : Q w s) :
    wpAny (model S.prog S.w) A (loadName env x) Q E s := by
  rcases n with ⟨h1, m, h2, h3⟩ | ⟨h1, c, h2, h3⟩
  · exact wpAny_loadName_local hk h1 h2 h3 h
  · rcases h1 with h1 | h1
    · exact wpAny_loadName_cell hk h1 h2 h3 h
    · exact wpAny_loadName_free hk h1 h2 h3 h hc
theorem readVar_some {ρ : List V} {i : Nat} {v : V} (h : readVar ρ i = some v) : ρ[i]? = some v ∧ v ≠ .undef := by
  unfold readVar at h
  split at h
  · first | exact zAA h | exact ff_tt h | cases h
  · first | exact zAA h | exact ff_tt h | cases h
  · rename_i w h1 h2
    cases h
    exact ⟨h2, fun e => h1 e⟩
theorem ok_name (fs : Facts S C T) {x : Str} {pos : Pos} {c : CE} (h : cName C Γ sc x = some c) : EOk S F q d Γ sc (.Name x pos) c := fun env ρ f X σ s A st hne => by
  unfold cName at h
  split at h
  · first | exact zAA h | exact ff_tt h | cases h
  rename_i hn
  simp only [Bool.or_eq_true, not_or, Bool.not_eq_true] at hn
  refine wpAny_Name ?_ hn.1
  split at h
  · rename_i hv
    simp only [Option.map_eq_some_iff] at h
    obtain ⟨i, hi, rfl⟩ := h
    rw [x_var] at hne ⊢
    cases hr : readVar ρ i with
    | none => rw [hr] at hne; exact absurd rfl hne
    | some v =>
      obtain ⟨h1, h2⟩ := readVar_some hr
      obtain ⟨w, n, r⟩ := st.fr.vals x i v hv hi h1 h2
      exact load_name st.fr.kind hn.2 n (QS.leaf st.lk (.refl s) r)
  · split at h
    · rename_i hg
      simp only [Option.map_eq_some_iff] at h
      obtain ⟨v, hv, rfl⟩ := h
      rw [x_lit]
      obtain ⟨mg, mb, g1, g2, g3, _⟩ := fs.g
      obtain ⟨w, e1, e2⟩ := g3 x v hv
      exact zBQ st.fr.kind (st.fr.isGlob hg) (by rw [st.fr.glob]; exact st.lk.ns g1) e1 (QS.leaf st.lk (.refl s) (st.lk.ofBase e2))
    · first | exact zAA h | exact ff_tt h | cases h
theorem zAq {β : Type} {σ : Sto} {o : Option β} (h : R.lift σ o ≠ .stuck) : ∃ x, o = some x := by
  cases o with
  | none => exact absurd rfl h
  | some x => exact ⟨x, rfl⟩
theorem bin_sound {X : List Addr} {f : List Loc} {σ : Sto} {s : Shared} {A : Around} {E : Value → Shared → Prop} {op : Operator} {o : P2} {a b x : V} {va vb : Value} (ho : binOf op = some o) (L : Lk S X f σ s.heap) (e : ev2 o σ a b = some x) (ra : VR S X f s.heap a va) (rb : VR S X f s.heap b vb) :
    wpAny (model S.prog S.w) A (binaryOp op va vb) (PE S X f s x) E s := by
  by_cases hop : op = .Add
  · subst hop
    cases ho
    exact add_sound L e ra rb
  · have : ∃ i j, a = .int i ∧ b = .int j := by
      cases op <;> first | exact absurd rfl hop | (cases ho; done) | (cases ho; exact zCB e)
    obtain ⟨i, j, rfl, rfl⟩ := this
    obtain ⟨t, rfl⟩ := zAe ra
    obtain ⟨u, rfl⟩ := zAe rb
    exact bin_int ho e
theorem binOf_quiet {op : Operator} {o : P2} (h : binOf op = some o) : loud2 o = false := by
  cases op <;> simp [binOf] at h <;> subst h <;> rfl
theorem zBD {op : CmpOp} {o : P2} (h : cmpOf op = some o) : loud2 o = false := by
  cases op <;> simp [cmpOf] at h <;> subst h <;> rfl
theorem ok_BinOp {l r : Expr} {op : Operator} {pos : Pos} {o : P2} {a b : CE} (ho : binOf op = some o) (hl : EOk S F q d Γ sc l a) (hr : EOk S F q d Γ sc r b) : NOk S F q d Γ sc (.BinOp l op r pos) (.p2 o a b) := fun env ρ f X σ s A st hne => by
  rw [x_p2, binOf_quiet ho, Bool.false_and, if_neg (by simp)] at hne ⊢
  refine wpAny_BinOp ?_
  refine Sim.goN (hl env ρ f X σ s A st) hne (fun _ _ x => x) (fun _ _ x => x) fun va a' σ₁ g₁ s₁ hne hg k L ra hQ hE => ?_
  have st₁ := st.keep hg k L
  refine Sim.goN (hr env ρ _ X σ₁ s₁ A st₁) hne hQ hE fun vb b' σ₂ g₂ s₂ hne hg₂ k₂ L₂ rb hQ hE => ?_
  obtain ⟨x, hx⟩ := zAq hne
  rw [hx] at hQ
  exact wpAny_mono (bin_sound ho L₂ hx (VR.keepK k₂ hg₂ (fun _ h => nomatch h) ra) rb) (fun v s' p => hQ v s' (p.here L₂)) fun _ _ x => x
end
end Mine
end

/-! # Expr2 -/
section
set_option autoImplicit false
namespace Mine
open PySem PyProof.Rows
section
variable {S : Stat} {C : Ctx} {T : Nat → Option Fn} {F : Calls} {q : Bool} {d : Nat} {Γ : List Str} {sc : Scope}
variable {X : List Addr} {f : List Loc} {σ : Sto} {s : Shared} {A : Around} {E : Value → Shared → Prop}
theorem Lk.parts {h : Heap} (fs : Facts S C T) (L : Lk S X f σ h) : PartsAt S h := fun hh => by
  obtain ⟨d, g, e, hd, hm, hg⟩ := fs.parts hh
  refine ⟨d, g, e, hd, ?_, hg⟩
  obtain ⟨o, es, ep, ho, r⟩ := hm
  exact ⟨o, es, ep, L.base d o ho, r⟩
theorem eq_sound {a b : V} {va vb : Value} {r : Bool} (hu : A.units + 64 < cLine) (L : Lk S X f σ s.heap) (e : eqV σ a b = some r) (ra : VR S X f s.heap a va) (rb : VR S X f s.heap b vb) :
    wpAny (model S.prog S.w) A (compareOp .Eq va vb) (PE S X f s (.bool r)) E s ∧ wpAny (model S.prog S.w) A (compareOp .NotEq va vb) (PE S X f s (.bool !r)) E s := by
  unfold eqV at e
  split at e
  · rename_i xs ys h1 h2
    split at e
    · rename_i hne
      cases e
      obtain ⟨p, vs, n, rfl, il, rs, hl⟩ := zAg L h1 ra
      obtain ⟨p2, vs2, n2, rfl, il2, rs2, hl2⟩ := zAg L h2 rb
      have hsz : (vs.size != vs2.size) = true := by rw [zAN rs, zAN rs2]; exact hne
      exact ⟨P.eq_list_lengths il il2 hsz (by omega) .bool0, SeqAt.RcNeAt.lists_lengths ⟨_, il, rfl, n, rfl⟩ ⟨_, il2, rfl, n2, rfl⟩ hsz (by omega) _ _ _ _ .bool0⟩
    · exact eqD_sound hu L e ra rb
  · exact eqD_sound hu L e ra rb
theorem zBk {op : CmpOp} {o : P2} (fs : Facts S C T) (hu : A.units + 64 < cLine) (ho : cmpOf op = some o) {a b x : V} {va vb : Value} (L : Lk S X f σ s.heap) (e : ev2 o σ a b = some x) (ra : VR S X f s.heap a va) (rb : VR S X f s.heap b vb) :
    wpAny (model S.prog S.w) A (compareOp op va vb) (PE S X f s x) E s := by
  by_cases h : op ≠ .Eq ∧ op ≠ .NotEq ∧ op ≠ .In ∧ op ≠ .NotIn
  · obtain ⟨i, j, rfl, rfl⟩ := cmp_ints ho h e
    obtain ⟨t, rfl⟩ := zAe ra
    obtain ⟨u, rfl⟩ := zAe rb
    exact cmp_int ho h e
  · have h' : op = .Eq ∨ op = .NotEq ∨ op = .In ∨ op = .NotIn := by
      by_cases h1 : op = .Eq
      · exact .inl h1
      by_cases h2 : op = .NotEq
      · exact .inr (.inl h2)
      by_cases h3 : op = .In
      · exact .inr (.inr (.inl h3))
      by_cases h4 : op = .NotIn
      · exact .inr (.inr (.inr h4))
      exact absurd ⟨h1, h2, h3, h4⟩ h
    rcases h' with rfl | rfl | rfl | rfl <;> cases ho
    · delta ev2 at e; dsimp only at e; simp only [Option.map_eq_some_iff] at e
      obtain ⟨r, h1, rfl⟩ := e
      exact (eq_sound hu L h1 ra rb).1
    · delta ev2 at e; dsimp only at e; simp only [Option.map_eq_some_iff] at e
      obtain ⟨r, h1, rfl⟩ := e
      exact (eq_sound hu L h1 ra rb).2
    · delta ev2 at e; dsimp only at e; simp only [Option.map_eq_some_iff] at e
      obtain ⟨r, h1, rfl⟩ := e
      exact (in_sound (L.parts fs) L h1 ra rb).1
    · delta ev2 at e; dsimp only at e; simp only [Option.map_eq_some_iff] at e
      obtain ⟨r, h1, rfl⟩ := e
      exact (in_sound (L.parts fs) L h1 ra rb).2
theorem St.room {env : Env} {ρ : List V} (st : St S q d Γ sc env ρ f X σ s A) : A.units + 64 < cLine := by
  have := st.cx.units
  have : cLine = 9900 := rfl
  omega
theorem truthy_go {v : V} {w : Value} {β : Type} {rk : Bool → Sto → R β} {W : Bool → Shared → Prop} (L : Lk S X f σ s.heap) (r : VR S X f s.heap v w) (hne : (R.lift σ (truthy σ v)).bind rk ≠ .stuck)
    (hk : ∀ t s', truthy σ v = some t → Ext s s' → rk t σ ≠ .stuck → W t s') : wpAny (model S.prog S.w) A (PySem.truthy w) W E s := by
  cases h : truthy σ v with
  | none => rw [h] at hne; exact absurd rfl hne
  | some t =>
    rw [h] at hne
    exact wpAny_mono (zAf L h r) (fun c s' q => by obtain ⟨rfl, e⟩ := q; exact hk c s' h e hne) fun _ _ x => x
theorem QS.moved {α β : Type} {Y : List Addr} {P : α → β → List Loc → Shared → Prop} {r : R β} {a : α} {s₁ s' : Shared} (e : Ext s s₁) (h : QS S X Y f P s₁ r a s') : QS S X Y f P s r a s' :=
  QS.lifts f [] s s₁ r a s' (.nil s) (e.kp f Y) (by rwa [List.append_nil])
theorem QN.moved {Y : List Addr} {r : R V} {a : Value} {s₁ s' : Shared} (e : Ext s s₁) (h : QN S X Y f s₁ r a s') : QN S X Y f s r a s' :=
  QN.lifts f [] s s₁ r a s' (.nil s) (e.kp f Y) (by rwa [List.append_nil])
theorem ES.moved {β : Type} {Y : List Addr} {tr : Bool} {r : R β} {a : Value} {s₁ s' : Shared} (e : Ext s s₁) (h : ES S X Y f tr s₁ r a s') : ES S X Y f tr s r a s' :=
  ES.lifts f [] s s₁ r a s' (.nil s) (e.kp f Y) (by rwa [List.append_nil])
theorem St.moved {env : Env} {ρ : List V} {s' : Shared} (st : St S q d Γ sc env ρ f X σ s A) (e : Ext s s') : St S q d Γ sc env ρ f X σ s' A := by
  have := st.keep (g := []) (.nil s) (e.kp f []) (by rw [List.append_nil]; exact e.lk st.lk)
  rwa [List.append_nil] at this
theorem QS.bool {Y : List Addr} {b : Bool} {s' : Shared} (L : Lk S X f σ s.heap) (e : Ext s s') : QS S X Y f (fun b t _ _ => b = t) s (.ok b σ) b s' :=
  ⟨b, σ, [], rfl, .nil s, e.kp f Y, by rw [List.append_nil]; exact e.lk L, rfl⟩
theorem ok_p1 {e e' : Expr} {c : CE} {o : P1} {t : Value → Sem Value} (hq : (loud1 o && q) = false) (h : EOk S F q d Γ sc e c)
    (rule : ∀ (env : Env) (A : Around) (Q E : Value → Shared → Prop) (s : Shared), wpAny (model S.prog S.w) A (eval e env) (fun v s₁ => wpAny (model S.prog S.w) A (t v) Q E s₁) E s → wpAny (model S.prog S.w) A (eval e' env) Q E s)
    (op : ∀ (X : List Addr) (f : List Loc) (σ : Sto) (s : Shared) (A : Around) (E : Value → Shared → Prop) (a x : V) (va : Value), (q = false → A.handled = none) → Lk S X f σ s.heap → ev1 o σ a = some x → VR S X f s.heap a va → wpAny (model S.prog S.w) A (t va) (PE S X f s x) E s) :
    NOk S F q d Γ sc e' (.p1 o c) := fun env ρ f X σ s A st hne => by
  rw [x_p1, hq, if_neg (by simp)] at hne ⊢
  refine rule _ _ _ _ _ ?_
  refine Sim.goN (h env ρ f X σ s A st) hne (fun _ _ x => x) (fun _ _ x => x) fun va a' σ₁ g₁ s₁ hne hg k L ra hQ hE => ?_
  obtain ⟨x, hx⟩ := zAq hne
  rw [hx] at hQ
  exact wpAny_mono (op X _ σ₁ s₁ A _ a' x va st.cx.hand L hx ra) (fun v s' p => hQ v s' (p.here L)) fun _ _ x => x
theorem ok_not {e : Expr} {c : CE} {pos : Pos} (h : EOk S F q d Γ sc e c) : EOk S F q d Γ sc (.UnaryOp .Not e pos) (.p1 .not c) :=
  NOk.eok <| ok_p1 (by simp [loud1]) h (fun env A Q E s h => UnaryOp_ h) fun X f σ s A E a x va _ L hx ra => by
    delta ev1 at hx; dsimp only at hx; simp only [Option.map_eq_some_iff] at hx
    obtain ⟨b, hb, rfl⟩ := hx
    exact not_of (wpAny_mono (zAf L hb ra) (fun c s' q => by obtain ⟨rfl, e⟩ := q; exact ⟨e, by rw [VR], fun _ e => by cases e⟩) fun _ _ x => x)
theorem ok_neg {e : Expr} {c : CE} {pos : Pos} (h : EOk S F q d Γ sc e c) : EOk S F q d Γ sc (.UnaryOp .USub e pos) (.p1 .neg c) :=
  NOk.eok <| ok_p1 (by simp [loud1]) h (fun env A Q E s h => UnaryOp_ h) fun X f σ s A E a x va _ L hx ra => by
    cases a with
    | int i => cases hx; obtain ⟨t, rfl⟩ := zAe ra; exact neg_sound
    | _ => first | exact zAA hx | exact ff_tt hx | cases hx
theorem ok_p2 {l r e' : Expr} {a b : CE} {o : P2} {t : Value → Value → Sem Value} (hq : (loud2 o && q) = false) (hl : EOk S F q d Γ sc l a) (hr : EOk S F q d Γ sc r b)
    (rule : ∀ (env : Env) (A : Around) (Q E : Value → Shared → Prop) (s : Shared), wpAny (model S.prog S.w) A (eval l env) (fun v s₁ => wpAny (model S.prog S.w) A (eval r env) (fun w s₂ => wpAny (model S.prog S.w) A (t v w) Q E s₂) E s₁) E s → wpAny (model S.prog S.w) A (eval e' env) Q E s)
    (op : ∀ (X : List Addr) (f : List Loc) (σ : Sto) (s : Shared) (A : Around) (E : Value → Shared → Prop) (a b x : V) (va vb : Value), (q = false → A.handled = none) → A.units + 64 < cLine → Lk S X f σ s.heap → ev2 o σ a b = some x → VR S X f s.heap a va → VR S X f s.heap b vb → wpAny (model S.prog S.w) A (t va vb) (fun v s' => Ext s s' ∧ VR S X f s'.heap x v) E s) :
    EOk S F q d Γ sc e' (.p2 o a b) := fun env ρ f X σ s A st hne => by
  rw [x_p2, hq, if_neg (by simp)] at hne ⊢
  refine rule _ _ _ _ _ ?_
  refine Sim.goQ (P' := PV S X) (hl env ρ f X σ s A st) hne (fun _ _ x => x) (fun _ _ x => x) fun va a' σ₁ g₁ s₁ hne hg k L ra hQ hE => ?_
  have st₁ := st.keep hg k L
  refine Sim.goQ (P' := PV S X) (hr env ρ _ X σ₁ s₁ A st₁) hne hQ hE fun vb b' σ₂ g₂ s₂ hne hg₂ k₂ L₂ rb hQ hE => ?_
  obtain ⟨x, hx⟩ := zAq hne
  rw [hx] at hQ
  exact wpAny_mono (op X _ σ₂ s₂ A _ a' b' x va vb st.cx.hand st.room L₂ hx (VR.keepK k₂ hg₂ (fun _ h => nomatch h) ra) rb) (fun v s' p => hQ v s' (.leaf L₂ p.1 p.2)) fun _ _ x => x
theorem PE.weak {x : V} {v : Value} {s' : Shared} (p : PE S X f s x v s') : Ext s s' ∧ VR S X f s'.heap x v := ⟨p.1, p.2.1⟩
theorem ok_cmp {l r : Expr} {a b : CE} {op : CmpOp} {o : P2} {pos : Pos} (fs : Facts S C T) (ho : cmpOf op = some o) (hm : behindInMarks op r = false) (hl : EOk S F q d Γ sc l a) (hr : EOk S F q d Γ sc r b) :
    EOk S F q d Γ sc (.Compare l [op] [r] pos) (.p2 o a b) :=
  ok_p2 (by rw [zBD ho, Bool.false_and]) hl hr (fun env A Q E s h => wpAny_Compare1 h hm) fun X f σ s A E a b x va vb _ hu L hx ra rb => wpAny_mono (zBk fs hu ho L hx ra rb) (fun _ _ p => p.weak) fun _ _ x => x
end
end Mine
end

/-! # Expr3 -/
section
set_option autoImplicit false
namespace Mine
open PySem PyProof.Rows
structure GOk (S : Stat) (F : Calls) (q : Bool) (d : Nat) (Γ : List Str) (sc : Scope) (e : Expr) (c : CE) : Prop where
  eo : EOk S F q d Γ sc e c
  to : TOk S F q d Γ sc e c
  star : isStar e = false
  marks : ∀ op, behindInMarks op e = false
  fold : ∀ env x, foldedSetIterable e env x = pure x
inductive All2 {α β : Type} (P : α → β → Prop) : List α → List β → Prop where
  | nil : All2 P [] []
  | cons {a : α} {b : β} {as : List α} {bs : List β} : P a b → All2 P as bs → All2 P (a :: as) (b :: bs)
section
variable {S : Stat} {C : Ctx} {T : Nat → Option Fn} {F : Calls} {q : Bool} {d : Nat} {Γ : List Str} {sc : Scope}
variable {X : List Addr} {f : List Loc} {σ : Sto} {s : Shared} {A : Around} {E : Value → Shared → Prop}
theorem TOk.plain {e : Expr} {c : CE} (h : EOk S F q d Γ sc e c) (he : ∀ env whole, isTrue e env whole = (do let v ← whole; standAt e.pos; holding [v] (PySem.truthy v))) : TOk S F q d Γ sc e c := fun env ρ f X σ s A st hne => by
  refine isTrue_plain ?_ (he env _)
  refine Sim.goQ (P' := fun b t _ _ => b = t) (h env ρ f X σ s A st) hne (fun _ _ x => x) (fun _ _ x => x) fun va a' σ₁ g₁ s₁ hne hg k L ra hQ hE => ?_
  obtain ⟨x, hx⟩ := zAq hne
  rw [hx] at hQ
  exact wpAny_mono (zAf L hx ra) (fun c s' p => by obtain ⟨rfl, e⟩ := p; exact hQ c s' (.bool L e)) fun _ _ x => x
theorem TOk.not {e : Expr} {c : CE} {pos : Pos} (h : TOk S F q d Γ sc e c) : TOk S F q d Γ sc (.UnaryOp .Not e pos) (.p1 .not c) := fun env ρ f X σ s A st hne => by
  have key : ((evE F q (.p1 .not c) ρ σ).bind fun v σ => R.lift σ (truthy σ v)) = ((evE F q c ρ σ).bind fun v σ => R.lift σ (truthy σ v)).bind fun b σ => .ok (!b) σ := by
    rw [x_p1, show loud1 .not = false from rfl, Bool.false_and, if_neg (by simp), R.bind_assoc, R.bind_assoc]
    congr 1
    funext v σ'
    simp only [ev1]
    cases truthy σ' v <;> simp [R.lift, truthy]
  rw [key] at hne ⊢
  refine isTrue_not ?_
  refine Sim.goQ (P' := fun b t _ _ => b = t) (h env ρ f X σ s A st) hne (fun _ _ x => x) (fun _ _ x => x) fun va a' σ₁ g₁ s₁ hne hg k L ra hQ hE => ?_
  have ra : va = a' := ra
  subst ra
  exact hQ _ _ (.bool L (.refl s₁))
theorem zBj {op : CmpOp} {o : P2} (ho : cmpOf op = some o) {σ : Sto} {a b x : V} (h : ev2 o σ a b = some x) : ∃ t, x = .bool t := by
  cases op <;> cases ho
  all_goals first
    | (obtain ⟨r, _, rfl⟩ := Option.map_eq_some_iff.mp h; exact ⟨_, rfl⟩)
    | (obtain ⟨i, j, rfl, rfl⟩ := zCB h; cases h; exact ⟨_, rfl⟩)
theorem chain_e (fs : Facts S C T) {pos : Pos} : ∀ {ops : List CmpOp} {os : List P2} {es : List Expr} {cs : List CE}, All2 (fun op o => cmpOf op = some o) ops os → All2 (GOk S F q d Γ sc) es cs → ops.length = es.length →
    ∀ (env : Env) (ρ : List V) (f : List Loc) (X : List Addr) (σ : Sto) (s : Shared) (A : Around) (a : V) (va : Value), St S q d Γ sc env ρ f X σ s A → VR S X f s.heap a va →
      Sim S A X [] f (PV S X) (compareChain pos va ops (evalEach es env)) (evChain F q os cs a ρ σ) s ∧
      Sim S A X [] f (fun b t _ _ => b = t) (testChain pos va ops (evalEach es env)) ((evChain F q os cs a ρ σ).bind fun v σ => R.lift σ (truthy σ v)) s := by
  intro ops os es cs ho
  induction ho generalizing es cs with
  | nil =>
    intro hes hlen env ρ f X σ s A a va st ra
    cases hes with
    | nil => exact ⟨fun h => absurd rfl h, fun h => absurd rfl h⟩
    | cons _ _ => simp at hlen
  | @cons op o ops os h1 h2 ih =>
    intro hes hlen env ρ f X σ s A a va st ra
    cases hes with
    | nil => simp at hlen
    | @cons e c es cs he hes =>
      cases h2 with
      | nil =>
        cases hes with
        | nil =>
          constructor
          · intro hne
            rw [x_ch1, zBD h1, Bool.false_and, if_neg (by simp)] at hne ⊢
            refine chain_last ?_
            refine Sim.goQ (P' := PV S X) (he.eo env ρ f X σ s A st) hne (fun _ _ x => x) (fun _ _ x => x) fun vb b' σ₁ g₁ s₁ hne hg k L rb hQ hE => ?_
            obtain ⟨x, hx⟩ := zAq hne
            rw [hx] at hQ
            exact wpAny_mono (zBk fs st.room h1 L hx (VR.keepK k hg (fun _ h => nomatch h) ra) rb) (fun v s' p => hQ v s' (.leaf L p.1 p.2.1)) fun _ _ x => x
          · intro hne
            rw [x_ch1, zBD h1, Bool.false_and, if_neg (by simp), R.bind_assoc] at hne ⊢
            refine test_last ?_
            refine Sim.goQ (P' := fun b t _ _ => b = t) (he.eo env ρ f X σ s A st) hne (fun _ _ x => x) (fun _ _ x => x) fun vb b' σ₁ g₁ s₁ hne hg k L rb hQ hE => ?_
            cases hx : ev2 o σ₁ a b' with
            | none => rw [hx] at hne; exact absurd rfl hne
            | some x =>
              rw [hx] at hne hQ
              obtain ⟨t, rfl⟩ := zBj h1 hx
              refine wpAny_mono (zBk fs st.room h1 L hx (VR.keepK k hg (fun _ h => nomatch h) ra) rb) (fun v s' p => ?_) fun _ _ x => x
              obtain rfl := zBv p.2.1
              exact wpAny_mono (zAf (p.1.lk L) (b := t) rfl p.2.1) (fun c s'' p2 => by obtain ⟨rfl, e⟩ := p2; exact hQ c s'' (.bool L (p.1.trans e))) fun _ _ x => x
        | cons _ _ => simp at hlen
      | @cons op' o' ops os h1' h2' =>
        cases hes with
        | nil => simp at hlen
        | @cons e2 c2 es cs he2 hes2 =>
          constructor
          · intro hne
            rw [x_ch2, zBD h1, Bool.false_and, if_neg (by simp)] at hne ⊢
            refine chain_link ?_
            refine Sim.goQ (P' := PV S X) (he.eo env ρ f X σ s A st) hne (fun _ _ x => x) (fun _ _ x => x) fun vb b' σ₁ g₁ s₁ hne hg k L rb hQ hE => ?_
            cases hx : ev2 o σ₁ a b' with
            | none => rw [hx] at hne; exact absurd rfl hne
            | some x =>
              rw [hx] at hne hQ hE
              obtain ⟨t, rfl⟩ := zBj h1 hx
              refine wpAny_mono (zBk fs st.room h1 L hx (VR.keepK k hg (fun _ h => nomatch h) ra) rb) (fun v s' p => ?_) fun _ _ x => x
              obtain rfl := zBv p.2.1
              refine wpAny_mono (zAf (p.1.lk L) (b := t) rfl p.2.1) (fun c s'' p2 => ?_) fun _ _ x => x
              obtain ⟨rfl, e⟩ := p2
              have ee := p.1.trans e
              have st₂ := (st.keep hg k L).moved ee
              cases c with
              | true => exact wpAny_mono ((ih (.cons he2 hes2) (by simpa using hlen) env ρ _ X σ₁ s'' A b' vb st₂ (ee.vr rb)).1 hne) (fun v s3 q3 => hQ v s3 (.moved ee q3)) fun v s3 q3 => hE v s3 (.moved ee q3)
              | false => exact hQ _ _ (.leaf L ee (by rw [VR]))
          · intro hne
            rw [x_ch2, zBD h1, Bool.false_and, if_neg (by simp), R.bind_assoc] at hne ⊢
            refine test_link ?_
            refine Sim.goQ (P' := fun b t _ _ => b = t) (he.eo env ρ f X σ s A st) hne (fun _ _ x => x) (fun _ _ x => x) fun vb b' σ₁ g₁ s₁ hne hg k L rb hQ hE => ?_
            cases hx : ev2 o σ₁ a b' with
            | none => rw [hx] at hne; exact absurd rfl hne
            | some x =>
              rw [hx] at hne hQ hE
              obtain ⟨t, rfl⟩ := zBj h1 hx
              refine wpAny_mono (zBk fs st.room h1 L hx (VR.keepK k hg (fun _ h => nomatch h) ra) rb) (fun v s' p => ?_) fun _ _ x => x
              obtain rfl := zBv p.2.1
              refine wpAny_mono (zAf (p.1.lk L) (b := t) rfl p.2.1) (fun c s'' p2 => ?_) fun _ _ x => x
              obtain ⟨rfl, e⟩ := p2
              have ee := p.1.trans e
              have st₂ := (st.keep hg k L).moved ee
              cases c with
              | true => exact wpAny_mono ((ih (.cons he2 hes2) (by simpa using hlen) env ρ _ X σ₁ s'' A b' vb st₂ (ee.vr rb)).2 hne) (fun v s3 q3 => hQ v s3 (.moved ee q3)) fun v s3 q3 => hE v s3 (.moved ee q3)
              | false => exact hQ _ _ (.bool L ee)
theorem zDP : ∀ {ops : List CmpOp} {es : List Expr} {cs : List CE}, All2 (GOk S F q d Γ sc) es cs → lastMarks ops es = false := by
  intro ops es cs h
  induction h generalizing ops with
  | nil => cases ops <;> simp [lastMarks]
  | @cons e c es cs he hes ih =>
    cases ops with
    | nil => simp [lastMarks]
    | cons op ops =>
      cases ops with
      | nil => cases es with
        | nil => simp only [lastMarks]; exact he.marks op
        | cons _ _ => simp only [lastMarks]
      | cons op2 ops => simp only [lastMarks]; exact ih
theorem ok_chain (fs : Facts S C T) {l : Expr} {a : CE} {ops : List CmpOp} {os : List P2} {es : List Expr} {cs : List CE} {pos : Pos} (hl : EOk S F q d Γ sc l a) (ho : All2 (fun op o => cmpOf op = some o) ops os) (hes : All2 (GOk S F q d Γ sc) es cs) (hlen : ops.length = es.length) :
    EOk S F q d Γ sc (.Compare l ops es pos) (.chain a os cs) ∧ TOk S F q d Γ sc (.Compare l ops es pos) (.chain a os cs) := by
  constructor
  · intro env ρ f X σ s A st hne
    rw [x_chain] at hne ⊢
    show wpAny _ _ (do compareChain pos (← eval l env) ops (markedEach ops es (evalEach es env))) _ _ _
    rw [markedEach_of_false _ _ _ (zDP hes)]
    refine wpAny_bind ?_
    refine Sim.goQ (P' := PV S X) (hl env ρ f X σ s A st) hne (fun _ _ x => x) (fun _ _ x => x) fun va a' σ₁ g₁ s₁ hne hg k L ra hQ hE => ?_
    exact wpAny_mono ((chain_e fs ho hes hlen env ρ _ X σ₁ s₁ A a' va (st.keep hg k L) ra).1 hne) hQ hE
  · intro env ρ f X σ s A st hne
    rw [x_chain, R.bind_assoc] at hne ⊢
    show wpAny _ _ (do testChain pos (← eval l env) ops (markedEach ops es (evalEach es env))) _ _ _
    rw [markedEach_of_false _ _ _ (zDP hes)]
    refine wpAny_bind ?_
    refine Sim.goQ (P' := fun b t _ _ => b = t) (hl env ρ f X σ s A st) hne (fun _ _ x => x) (fun _ _ x => x) fun va a' σ₁ g₁ s₁ hne hg k L ra hQ hE => ?_
    exact wpAny_mono ((chain_e fs ho hes hlen env ρ _ X σ₁ s₁ A a' va (st.keep hg k L) ra).2 hne) hQ hE
theorem TOk.cmp1 {l r : Expr} {op : CmpOp} {c : CE} {pos : Pos} (hm : behindInMarks op r = false) (h : EOk S F q d Γ sc (.Compare l [op] [r] pos) c) : TOk S F q d Γ sc (.Compare l [op] [r] pos) c := fun env ρ f X σ s A st hne => by
  rw [isTrue_Compare1, markedBehindIn_of_false hm]
  have he := h env ρ f X σ s A st
  have hr : (evE F q c ρ σ) ≠ .stuck := fun e => hne (by rw [e]; rfl)
  have key : wpAny (model S.prog S.w) A (eval (.Compare l [op] [r] pos) env >>= fun c => holding [c] (PySem.truthy c)) (QS S X [] f (fun b t _ _ => b = t) s ((evE F q c ρ σ).bind fun v σ => R.lift σ (truthy σ v))) (ES S X [] f false s ((evE F q c ρ σ).bind fun v σ => R.lift σ (truthy σ v))) s := by
    refine wpAny_bind ?_
    refine Sim.goQ (P' := fun b t _ _ => b = t) he hne (fun _ _ x => x) (fun _ _ x => x) fun va a' σ₁ g₁ s₁ hne hg k L ra hQ hE => ?_
    obtain ⟨x, hx⟩ := zAq hne
    rw [hx] at hQ
    exact wpAny_holding (wpAny_mono (zAf L hx ra) (fun c s' p => by obtain ⟨rfl, e⟩ := p; exact hQ c s' (.bool L e)) fun _ _ x => x)
  have e2 : eval (.Compare l [op] [r] pos) env = (do let a ← eval l env; let b ← holding [a] (markedBehindIn op r (eval r env)); standAt pos; operate [a, b] (compareOp op a b)) := rfl
  rw [e2, markedBehindIn_of_false hm] at key
  simpa only [bind_assoc] using key
theorem ok_bools {op : BoolOp} {pos : Pos} : ∀ {es : List Expr} {cs : List CE} {c : CE}, All2 (GOk S F q d Γ sc) es cs → foldBool (op == .And) cs = some c →
    EOk S F q d Γ sc (.BoolOp op es pos) c ∧ TOk S F q d Γ sc (.BoolOp op es pos) c := by
  intro es cs c h
  induction h generalizing c with
  | nil => intro e; simp [foldBool] at e
  | @cons x cx es cs hx hes ih =>
    intro e
    cases hes with
    | nil =>
      simp only [foldBool] at e
      cases e
      refine ⟨fun env ρ f X σ s A st hne => BoolOp_one (hx.eo env ρ f X σ s A st hne), fun env ρ f X σ s A st hne => ?_⟩
      have := hx.to env ρ f X σ s A st hne
      cases op with
      | And => exact isTrue_and (wpAny_mono this (fun c s' q => by cases c with | true => exact isTrue_and_nil q | false => exact q) fun _ _ x => x)
      | Or => exact isTrue_or (wpAny_mono this (fun c s' q => by cases c with | false => exact isTrue_or_nil q | true => exact q) fun _ _ x => x)
    | @cons y cy es cs hy hes =>
      simp only [foldBool, Option.map_eq_some_iff] at e
      obtain ⟨r, e1, rfl⟩ := e
      obtain ⟨ih1, ih2⟩ := ih e1
      cases op with
      | And =>
        constructor
        · intro env ρ f X σ s A st hne
          simp only [show (BoolOp.And == BoolOp.And) = true from rfl, if_true] at hne ⊢
          rw [x_and] at hne ⊢
          refine BoolOp_and ?_
          refine Sim.goQ (P' := PV S X) (hx.eo env ρ f X σ s A st) hne (fun _ _ x => x) (fun _ _ x => x) fun va a' σ₁ g₁ s₁ hne hg k L ra hQ hE => ?_
          refine truthy_go L ra hne fun t s₂ ht e hne => ?_
          rw [ht] at hQ hE
          cases t with
          | true => exact wpAny_mono (ih1 env ρ _ X σ₁ s₂ A ((st.keep hg k L).moved e) hne) (fun v s3 q3 => hQ v s3 (.moved e q3)) fun v s3 q3 => hE v s3 (.moved e q3)
          | false => exact hQ _ _ (.leaf L e (e.vr ra))
        · intro env ρ f X σ s A st hne
          simp only [show (BoolOp.And == BoolOp.And) = true from rfl, if_true] at hne ⊢
          have key : ((evE F q (.and cx r) ρ σ).bind fun v σ => R.lift σ (truthy σ v)) = ((evE F q cx ρ σ).bind fun v σ => R.lift σ (truthy σ v)).bind fun t σ => if t then (evE F q r ρ σ).bind fun v σ => R.lift σ (truthy σ v) else .ok false σ := by
            rw [x_and, R.bind_assoc, R.bind_assoc]
            congr 1
            funext v σ'
            rw [R.bind_assoc]
            cases ht : truthy σ' v with
            | none => simp
            | some t => cases t <;> simp [ht]
          rw [key] at hne ⊢
          refine isTrue_and ?_
          refine Sim.goQ (P' := fun b t _ _ => b = t) (hx.to env ρ f X σ s A st) hne (fun _ _ x => x) (fun _ _ x => x) fun va a' σ₁ g₁ s₁ hne hg k L ra hQ hE => ?_
          have ra : va = a' := ra
          subst ra
          cases va with
          | true => exact wpAny_mono (ih2 env ρ _ X σ₁ s₁ A (st.keep hg k L) hne) hQ hE
          | false => exact hQ _ _ (.bool L (.refl s₁))
      | Or =>
        constructor
        · intro env ρ f X σ s A st hne
          simp only [show (BoolOp.Or == BoolOp.And) = false from rfl, Bool.false_eq_true, if_false] at hne ⊢
          rw [x_or] at hne ⊢
          refine BoolOp_or ?_
          refine Sim.goQ (P' := PV S X) (hx.eo env ρ f X σ s A st) hne (fun _ _ x => x) (fun _ _ x => x) fun va a' σ₁ g₁ s₁ hne hg k L ra hQ hE => ?_
          refine truthy_go L ra hne fun t s₂ ht e hne => ?_
          rw [ht] at hQ hE
          cases t with
          | false => exact wpAny_mono (ih1 env ρ _ X σ₁ s₂ A ((st.keep hg k L).moved e) hne) (fun v s3 q3 => hQ v s3 (.moved e q3)) fun v s3 q3 => hE v s3 (.moved e q3)
          | true => exact hQ _ _ (.leaf L e (e.vr ra))
        · intro env ρ f X σ s A st hne
          simp only [show (BoolOp.Or == BoolOp.And) = false from rfl, Bool.false_eq_true, if_false] at hne ⊢
          have key : ((evE F q (.or cx r) ρ σ).bind fun v σ => R.lift σ (truthy σ v)) = ((evE F q cx ρ σ).bind fun v σ => R.lift σ (truthy σ v)).bind fun t σ => if t then .ok true σ else (evE F q r ρ σ).bind fun v σ => R.lift σ (truthy σ v) := by
            rw [x_or, R.bind_assoc, R.bind_assoc]
            congr 1
            funext v σ'
            rw [R.bind_assoc]
            cases ht : truthy σ' v with
            | none => simp
            | some t => cases t <;> simp [ht]
          rw [key] at hne ⊢
          refine isTrue_or ?_
          refine Sim.goQ (P' := fun b t _ _ => b = t) (hx.to env ρ f X σ s A st) hne (fun _ _ x => x) (fun _ _ x => x) fun va a' σ₁ g₁ s₁ hne hg k L ra hQ hE => ?_
          have ra : va = a' := ra
          subst ra
          cases va with
          | false => exact wpAny_mono (ih2 env ρ _ X σ₁ s₁ A (st.keep hg k L) hne) hQ hE
          | true => exact hQ _ _ (.bool L (.refl s₁))
end
end Mine
end

/-! # Expr4 -/
section
set_option autoImplicit false
namespace Mine
open PySem PyProof.Rows
section
variable {S : Stat} {C : Ctx} {T : Nat → Option Fn} {F : Calls} {q : Bool} {d : Nat} {Γ : List Str} {sc : Scope}
variable {X : List Addr} {f : List Loc} {σ : Sto} {s : Shared} {A : Around} {E : Value → Shared → Prop}
theorem LOk.of {es : List Expr} {cs : List CE} (h : All2 (GOk S F q d Γ sc) es cs) : LOk S F q d Γ sc es cs := by
  refine ⟨?_, ?_⟩
  · induction h with
    | nil => rfl
    | cons hx _ ih => rw [List.any_cons, hx.star, ih]; rfl
  · induction h with
    | nil =>
      intro env pos ρ f X σ s A st _
      rw [x_nil]
      exact wpAny_pure ⟨[], σ, [], rfl, .nil s, .refl f [] s, by rw [List.append_nil]; exact st.lk, (by show VRs S X _ s.heap [] []; rw [VRs]; trivial)⟩
    | @cons x c es cs hx _ ih =>
      intro env pos ρ f X σ s A st hne
      rw [x_cons] at hne ⊢
      rw [zAR hx.star]
      show wpAny _ _ (spliced ((false, eval x env) :: backTo pos (starEach es env))) _ _ _
      refine Calls.spliced_cons ?_
      refine Sim.goQ (P' := fun vs xs f s => VRs S X f s.heap xs vs) (hx.eo env ρ f X σ s A st) hne (fun _ _ x => x) (fun _ _ x => x) fun va a' σ₁ g₁ s₁ hne hg k L ra hQ hE => ?_
      refine Sim.goQ (P' := fun vs xs f s => VRs S X f s.heap xs vs) (ih env pos ρ _ X σ₁ s₁ A (st.keep hg k L)) hne hQ hE fun vs xs σ₂ g₂ s₂ hne hg₂ k₂ L₂ rs hQ hE => ?_
      refine hQ _ _ (QS.here L₂ ?_)
      show VRs S X _ s₂.heap (a' :: xs) (va :: vs)
      rw [VRs]
      exact ⟨VR.keepK k₂ hg₂ (fun _ h => nomatch h) ra, rs⟩
theorem evL_len : ∀ {cs : List CE} {ρ : List V} {σ σ' : Sto} {vs : List V}, evL F q cs ρ σ = .ok vs σ' → vs.length = cs.length
  | [], ρ, σ, σ', vs, h => by rw [x_nil] at h; cases h; rfl
  | c :: cs, ρ, σ, σ', vs, h => by
    rw [x_cons] at h
    cases h1 : evE F q c ρ σ with
    | ok v σ₁ =>
      rw [h1, R.bind_ok] at h
      cases h2 : evL F q cs ρ σ₁ with
      | ok ws σ₂ => rw [h2, R.bind_ok] at h; cases h; simp [evL_len h2]
      | exc _ _ => rw [h2] at h; first | exact zAA h | exact ff_tt h | cases h
      | stuck => rw [h2] at h; first | exact zAA h | exact ff_tt h | cases h
    | exc _ _ => rw [h1] at h; first | exact zAA h | exact ff_tt h | cases h
    | stuck => rw [h1] at h; first | exact zAA h | exact ff_tt h | cases h
theorem All2.len {α β : Type} {P : α → β → Prop} {as : List α} {bs : List β} (h : All2 P as bs) : as.length = bs.length := by
  induction h with
  | nil => rfl
  | cons _ _ ih => simp [ih]
theorem LOk.go {es : List Expr} {cs : List CE} {env : Env} {pos : Pos} {ρ : List V} {rk : List V → Sto → R V} {W : List Value → Shared → Prop} {Q' E' : Value → Shared → Prop} (h : LOk S F q d Γ sc es cs) (st : St S q d Γ sc env ρ f X σ s A) (hne : (evL F q cs ρ σ).bind rk ≠ .stuck)
    (hQ : ∀ c s'', QN S X [] f s ((evL F q cs ρ σ).bind rk) c s'' → Q' c s'') (hE : ∀ e s'', ES S X [] f false s ((evL F q cs ρ σ).bind rk) e s'' → E' e s'')
    (hk : ∀ vs xs σ' g s', xs.length = cs.length → rk xs σ' ≠ .stuck → Fresh g s → Kp f [] s s' → Lk S X (f ++ g) σ' s'.heap → VRs S X (f ++ g) s'.heap xs vs → (∀ c s'', QN S X [] (f ++ g) s' (rk xs σ') c s'' → Q' c s'') →
      (∀ e s'', ES S X [] (f ++ g) false s' (rk xs σ') e s'' → E' e s'') → W vs s') : wpAny (model S.prog S.w) A (spliced (backTo pos (starEach es env))) W E' s := by
  have hr : evL F q cs ρ σ ≠ .stuck := fun e => hne (by rw [e]; rfl)
  refine wpAny_mono (h.2 env pos ρ f X σ s A st hr) (fun a s' p => ?_) fun e s' p => hE e s' ?_
  · obtain ⟨b, σ', g, e, hg, k, L, p⟩ := p
    have hl := evL_len e
    rw [e] at hne hQ hE
    exact hk a b σ' g s' hl hne hg k L p (fun c s'' x => hQ c s'' (QN.lifts f g s s' _ c s'' hg k x)) fun e s'' x => hE e s'' (ES.lifts f g s s' _ e s'' hg k x)
  · obtain ⟨c, σ', g, ea, e1, e2, hg, k, L, x⟩ := p
    exact ⟨c, σ', g, ea, e1, by rw [e2]; rfl, hg, k, L, x⟩
theorem ok_list {es : List Expr} {cs : List CE} {pos : Pos} (hl : es.length ≤ 1000) (h : All2 (GOk S F q d Γ sc) es cs) : NOk S F q d Γ sc (.List es pos) (.list cs) := fun env ρ f X σ s A st hne => by
  rw [x_list] at hne ⊢
  refine wpAny_List ?_
  refine LOk.go (.of h) st hne (fun _ _ x => x) (fun _ _ x => x) fun vs xs σ₁ g s₁ hlen hne hg k L rs hQ hE => ?_
  have : xs.length ≤ 1000 := by rw [hlen, ← h.len]; exact hl
  have h2 : vs.length ≤ LIM := by rw [← zBO rs]; unfold LIM; omega
  refine ⟨Nat.le_trans h2 zAo, hQ _ _ (PE.here L ?_)⟩
  exact zEV (tk := s₁.toks) L rs (by unfold LIM; omega)
theorem ok_tuple {es : List Expr} {cs : List CE} {pos : Pos} {k : Nat} (hl : es.length ≤ 1000) (h : All2 (GOk S F q d Γ sc) es cs) : EOk S F q d Γ sc (.Tuple es k pos) (.tup cs) := fun env ρ f X σ s A st hne => by
  rw [x_tup] at hne ⊢
  refine wpAny_Tuple ?_
  refine LOk.go (.of h) st hne (fun _ _ x => x.qs) (fun _ _ x => x) fun vs xs σ₁ g s₁ hlen hne hg k L rs hQ hE => ?_
  have : xs.length ≤ 1000 := by rw [hlen, ← h.len]; exact hl
  have h2 : vs.length ≤ LIM := by rw [← zBO rs]; unfold LIM; omega
  refine ⟨Nat.le_trans h2 zAo, hQ _ _ (PE.here L ?_)⟩
  exact zEU (tk := s₁.toks) L rs (by unfold LIM; omega)
theorem sub_ops (slice : Expr) (o i : Value) : ∃ ops, subscripted slice false o i = operate ops (getItem o i) := by
  unfold subscripted
  split
  · exact ⟨_, rfl⟩
  · rename_i h; cases h
  · exact ⟨_, rfl⟩
theorem sub_tail {value slice : Expr} {o i : Value} {K id : String} {Q : Value → Shared → Prop} (hT : s.TypeIs o K)
    (hl : typeLookup (.type K) "__getitem__" = pure (some (.builtin id))) (h : wpAny (model S.prog S.w) A (getItem o i) Q E s) :
    wpAny (model S.prog S.w) A (subscriptTail value slice o i) Q E s := by
  obtain ⟨ops, hs⟩ := sub_ops slice o i
  unfold subscriptTail
  refine wpAny_bind ?_
  rw [getitemInPython_of_ne hT.not_modules]
  refine wpAny_bind (wpAny_specialOf hT hl ?_)
  have fin : wpAny (model S.prog S.w) A (subscripted slice false o i) (fun r s₃ => wpAny (model S.prog S.w) A (letTemporaryGo value o r >>= fun _ => pure r) Q E s₃) E s := by
    rw [hs]
    exact wpAny_operating (wpAny_mono h (fun r s₃ h₃ => wpAny_bind (wpAny_letTemporaryGo (wpAny_pure h₃))) fun _ _ x => x)
  first
    | exact wpAny_pure (wpAny_bind fin)
    | exact wpAny_bind (wpAny_pure (wpAny_bind fin))
    | exact wpAny_bind fin
theorem index_type (fs : Facts S C T) {a b x : V} {va : Value} (L : Lk S X f σ s.heap) (e : ev2 .index σ a b = some x) (ra : VR S X f s.heap a va) :
    ∃ K id, s.TypeIs va K ∧ typeLookup (.type K) "__getitem__" = pure (some (.builtin id)) := by
  have seq : ∀ {xs : List V}, itemsOf σ a = some xs → ∃ K id, s.TypeIs va K ∧ typeLookup (.type K) "__getitem__" = pure (some (.builtin id)) := by
    intro xs h1
    obtain ⟨p, vs, n, rfl, il | il, _⟩ := zCr L h1 ra
    · exact ⟨"list", _, ⟨_, il, rfl⟩, slot_list_getitem.lookup⟩
    · exact ⟨"tuple", _, ⟨_, il, rfl⟩, slot_tuple_getitem.lookup⟩
  cases a with
  | str y => obtain ⟨⟨t, rfl⟩, _⟩ := zAu ra; exact ⟨"str", _, typeIs_str s y t, F.slot_str_getitem.lookup⟩
  | parts =>
    rw [VR] at ra
    obtain ⟨hh, rfl⟩ := ra
    obtain ⟨d, g, e1, hd, hm, _⟩ := L.parts fs hh
    rw [e1]
    exact ⟨"dict", _, hm.typeIs, slot_dict_getitem.lookup⟩
  | tup xs => exact seq rfl
  | lst xs => exact seq rfl
  | ref n =>
    cases b with
    | int i =>
      delta ev2 at e; dsimp only at e
      split at e
      · rename_i xs ho
        exact seq (xs := xs) (by simp only [itemsOf, ho])
      · rename_i es ho
        rw [VR] at ra
        obtain ⟨l, hl, rfl⟩ := ra
        have := L.obj n l _ hl ho
        obtain ⟨p, dd⟩ := l
        cases dd with
        | none => obtain ⟨kvs, hd, _⟩ := this; exact ⟨"dict", _, hd.typeIs, slot_dict_getitem.lookup⟩
        | some dd => exact this.elim
      · first | exact zAA e | exact ff_tt e | cases e
    | _ => first | exact zAA e | exact ff_tt e | cases e
  | _ => cases b <;> cases e
theorem ok_index (fs : Facts S C T) {o i : Expr} {a b : CE} {pos : Pos} (ho : EOk S F q d Γ sc o a) (hi : EOk S F q d Γ sc i b) : EOk S F q d Γ sc (.Subscript o i pos) (.p2 .index a b) :=
  ok_p2 (t := fun v w => subscriptTail o i v w) (by simp [loud2]) ho hi (fun env A Q E s h => Subscript_ h) fun X f σ s A E a b x va vb _ _ L hx ra rb => by
    obtain ⟨K, id, h1, h2⟩ := index_type fs L hx ra
    exact sub_tail h1 h2 (index_sound (L.parts fs) L hx ra rb)
noncomputable def PO (x : Value) (i : Option Int) (_ : List Loc) (_ : Shared) : Prop := IsPart x i
theorem ok_part {e : Option Expr} {c : Option CE} (h : (e = none ∧ c = none) ∨ ∃ e' c', e = some e' ∧ c = some c' ∧ EOk S F q d Γ sc e' c') (env : Env) (ρ : List V) (st : St S q d Γ sc env ρ f X σ s A) :
    Sim S A X [] f PO (evalPart e env) (evO F q c ρ σ) s := fun hne => by
  rcases h with ⟨rfl, rfl⟩ | ⟨e', c', rfl, rfl, h⟩
  · rw [evalPart_none, x_onone]
    exact wpAny_pure (QS.here st.lk .none)
  · rw [evalPart_some]
    rw [x_osome] at hne ⊢
    refine Sim.goQ (P' := PO) (h env ρ f X σ s A st) hne (fun _ _ x => x) (fun _ _ x => x) fun va a' σ₁ g₁ s₁ hne hg k L ra hQ hE => ?_
    cases a' with
    | int i => obtain ⟨t, rfl⟩ := zAe ra; exact hQ _ _ (QS.here L (.int i t))
    | _ => exact absurd rfl hne
theorem slice_tail {o slice : Expr} {x a : V} {va vl vh : Value} {sl : Addr} {l' h' : Option Int} (L : Lk S X f σ s.heap) (hx : evSlice σ a l' h' = some x) (ra : VR S X f s.heap a va) (hs : s.heap.IsSliceOf sl vl vh .none) (rl : IsPart vl l') (rh : IsPart vh h') :
    wpAny (model S.prog S.w) A (subscriptTail o slice va (.ref sl)) (PE S X f s x) E s := by
  have seq : ∀ {xs : List V}, listOf? σ a = some xs → x = .lst (sliceL xs l' h') → wpAny (model S.prog S.w) A (subscriptTail o slice va (.ref sl)) (PE S X f s x) E s := by
    intro xs h1 h2
    subst h2
    obtain ⟨p, vs, n, rfl, il, rs, hlen⟩ := zAg L h1 ra
    exact sub_tail (K := "list") ⟨_, il, rfl⟩ slot_list_getitem.lookup (zDR L il rs hlen hs rl rh)
  cases a with
  | tup xs =>
    cases hx
    obtain ⟨p, vs, n, rfl, hp, il, rs, hlen⟩ := zDt ra
    exact sub_tail (K := "tuple") ⟨_, il, rfl⟩ slot_tuple_getitem.lookup (zCu L hp il rs hlen hs rl rh)
  | lst xs => cases hx; exact seq rfl rfl
  | ref n =>
    delta evSlice at hx; dsimp only at hx; simp only [Option.map_eq_some_iff] at hx
    obtain ⟨xs, h1, h2⟩ := hx
    exact seq h1 h2.symm
  | _ => first | exact zAA hx | exact ff_tt hx | cases hx
theorem ok_slice {o : Expr} {lo hi : Option Expr} {a : CE} {cl ch : Option CE} {p pos : Pos} (ho : EOk S F q d Γ sc o a) (hl : (lo = none ∧ cl = none) ∨ ∃ e' c', lo = some e' ∧ cl = some c' ∧ EOk S F q d Γ sc e' c')
    (hh : (hi = none ∧ ch = none) ∨ ∃ e' c', hi = some e' ∧ ch = some c' ∧ EOk S F q d Γ sc e' c') : NOk S F q d Γ sc (.Subscript o (.Slice lo hi none p) pos) (.slice a cl ch) := fun env ρ f X σ s A st hne => by
  rw [x_slice] at hne ⊢
  refine Subscript_ ?_
  refine Sim.goN (ho env ρ f X σ s A st) hne (fun _ _ x => x) (fun _ _ x => x) fun va a' σ₁ g₁ s₁ hne hg k L ra hQ hE => ?_
  have st₁ := st.keep hg k L
  refine wpAny_Slice ?_
  refine Sim.goN (ok_part hl env ρ st₁) hne hQ hE fun vl l' σ₂ g₂ s₂ hne hg₂ k₂ L₂ rl hQ hE => ?_
  have st₂ := st₁.keep hg₂ k₂ L₂
  have ra₂ := VR.keepK k₂ hg₂ (fun _ h => nomatch h) ra
  refine Sim.goN (ok_part hh env ρ st₂) hne hQ hE fun vh h' σ₃ g₃ s₃ hne hg₃ k₃ L₃ rh hQ hE => ?_
  have ra₃ := VR.keepK k₃ hg₃ (fun _ h => nomatch h) ra₂
  rw [evalPart_none]
  refine wpAny_pure ?_
  obtain ⟨x, hx⟩ := zAq hne
  rw [hx] at hQ
  have ee := Ext.push s₃ { cls := .type "slice", data := .fields #[vl, vh, .none] }
  have L₄ := ee.lk L₃
  have ra₄ := ee.vr ra₃
  have hs := Heap.IsSliceOf.new s₃.heap vl vh .none
  exact wpAny_mono (slice_tail L₄ hx ra₄ hs rl rh) (fun v s' p => hQ v s' (QN.moved ee (p.here L₄))) fun _ _ x => x
end
end Mine
end

/-! # Expr5 -/
section
set_option autoImplicit false
namespace Mine
open PySem PyProof.Rows
theorem zAJ {β : Type} {x : Str} {y : β} : ∀ {l : List (Str × β)}, l.lookup x = some y → (x, y) ∈ l
  | [], h => by simp at h
  | (a, b) :: r, h => by
    rw [List.lookup_cons] at h
    split at h
    · rename_i e
      have := eq_of_beq e
      cases h; subst this
      exact List.mem_cons_self
    · exact List.mem_cons_of_mem _ (zAJ h)
theorem bb_len : bootBuiltins "len" = some (.builtin "len") := by kernel_rfl
theorem bb_all : bootBuiltins "all" = some (.builtin "all") := by kernel_rfl
theorem bb_int : bootBuiltins "int" = some (.type "int") := by kernel_rfl
theorem bb_bool : bootBuiltins "bool" = some (.type "bool") := by kernel_rfl
theorem bb_str : bootBuiltins "str" = some (.type "str") := by kernel_rfl
theorem bb_list : bootBuiltins "list" = some (.type "list") := by kernel_rfl
theorem bb_tuple : bootBuiltins "tuple" = some (.type "tuple") := by kernel_rfl
theorem bb_sum : bootBuiltins "sum" = some (.builtin "sum") := by kernel_rfl
theorem bb_min : bootBuiltins "min" = some (.builtin "min") := by kernel_rfl
theorem bb_max : bootBuiltins "max" = some (.builtin "max") := by kernel_rfl
theorem bb_isinstance : bootBuiltins "isinstance" = some (.builtin "isinstance") := by kernel_rfl
theorem bb_range : bootBuiltins "range" = some (.type "range") := by kernel_rfl
section
variable {S : Stat} {C : Ctx} {T : Nat → Option Fn} {F : Calls} {q : Bool} {d : Nat} {Γ : List Str} {sc : Scope}
variable {X : List Addr} {f : List Loc} {σ : Sto} {s : Shared} {A : Around} {E : Value → Shared → Prop}
theorem zAx (fs : Facts S C T) {x : Str} {p : Pos} {v : Value} {env : Env} {ρ : List V} {Q : Value → Shared → Prop} (st : St S q d Γ sc env ρ f X σ s A) (hg : isGlob sc x = true) (hn : C.fns.lookup x = none)
    (hx : x ∈ b1Names.map (·.1) ∨ x ∈ b2Names.map (·.1) ∨ x ∈ kindNames.map (·.1) ∨ x = ("isinstance" : Str) ∨ x = ("range" : Str)) (hv : bootBuiltins x = some v) (hd : (x == ("__debug__" : Str)) = false) (h : Q v s) : wpAny (model S.prog S.w) A (eval (.Name x p) env) Q E s := by
  obtain ⟨mg, mb, g1, g2, g3, g4, g5, _⟩ := fs.g
  obtain ⟨e1, e2⟩ := g5 x hx hn
  refine wpAny_Name ?_ hd
  exact zDO st.fr.kind (st.fr.isGlob hg) (by rw [st.fr.glob]; exact st.lk.ns g1) e1 (by rw [st.fr.blt]; exact st.lk.ns g2) (e2.trans hv) h
theorem spliced1 {env : Env} {e : Expr} {pos : Pos} {Q : List Value → Shared → Prop} (hs : isStar e = false) (h : wpAny (model S.prog S.w) A (eval e env) (fun v s' => Q [v] s') E s) : wpAny (model S.prog S.w) A (spliced (backTo pos (starEach [e] env))) Q E s := by
  rw [zAR hs]
  show wpAny _ _ (spliced ((false, eval e env) :: [])) _ _ _
  exact Calls.spliced_cons (wpAny_mono h (fun v s' q => wpAny_pure q) fun _ _ x => x)
theorem spliced2 {env : Env} {e e2 : Expr} {pos : Pos} {Q : List Value → Shared → Prop} (hs : isStar e = false) (hs2 : isStar e2 = false) (h : wpAny (model S.prog S.w) A (eval e env) (fun v s' => wpAny (model S.prog S.w) A (eval e2 env) (fun w s'' => Q [v, w] s'') E s') E s) :
    wpAny (model S.prog S.w) A (spliced (backTo pos (starEach [e, e2] env))) Q E s := by
  rw [zAR hs, zAR hs2]
  show wpAny _ _ (spliced ((false, eval e env) :: (false, eval e2 env) :: [])) _ _ _
  exact Calls.spliced_cons (wpAny_mono h (fun v s' q => Calls.spliced_cons (wpAny_mono q (fun w s'' q => wpAny_pure q) fun _ _ x => x)) fun _ _ x => x)
theorem zAl {v : Value} (h : ∀ a, v ≠ .ref a) : Callable s v := .inl h
theorem zBl (fs : Facts S C T) {x : Str} {p pos : Pos} {v : Value} {e : Expr} {c : CE} {o : P1} (hg : isGlob sc x = true) (hn : C.fns.lookup x = none)
    (hx : x ∈ b1Names.map (·.1)) (hv : bootBuiltins x = some v) (hd : (x == ("__debug__" : Str)) = false) (hr : ∀ a, v ≠ .ref a) (h : GOk S F q d Γ sc e c)
    (op : ∀ (X : List Addr) (f : List Loc) (σ : Sto) (s : Shared) (A : Around) (E : Value → Shared → Prop) (a x : V) (va : Value), (loud1 o && q) = false → (q = false → A.handled = none) → Lk S X f σ s.heap → ev1 o σ a = some x → VR S X f s.heap a va → wpAny (model S.prog S.w) A (call v [va]) (PE S X f s x) E s) :
    NOk S F q d Γ sc (.Call (.Name x p) [e] [] pos) (.p1 o c) := fun env ρ f X σ s A st hne => by
  rw [x_p1] at hne ⊢
  by_cases hq : (loud1 o && q) = true
  · rw [if_pos hq] at hne; exact absurd rfl hne
  rw [if_neg hq] at hne ⊢
  refine wpAny_Call_NameR (zAx fs st hg hn (.inl hx) hv hd ?_)
  refine zAi (zAP _ (by simp [h.star])) (spliced1 h.star ?_)
  refine Sim.goN (h.eo env ρ f X σ s A st) hne (fun _ _ x => x) (fun _ _ x => x) fun va a' σ₁ g₁ s₁ hne hg k L ra hQ hE => ?_
  obtain ⟨x, hx⟩ := zAq hne
  rw [hx] at hQ
  exact ⟨zAl hr, wpAny_mono (op X _ σ₁ s₁ A _ a' x va (by simpa using hq) st.cx.hand L hx ra) (fun v s' p => hQ v s' (p.here L)) fun _ _ x => x⟩
theorem hand_of {o : P1} (hl : loud1 o = true) (h1 : (loud1 o && q) = false) (h2 : q = false → A.handled = none) : A.handled = none := h2 (by rw [hl, Bool.true_and] at h1; exact h1)
theorem ok_b1 (fs : Facts S C T) {x : Str} {p pos : Pos} {e : Expr} {c : CE} {o : P1} (hg : isGlob sc x = true) (hn : C.fns.lookup x = none) (ho : b1Names.lookup x = some o) (h : GOk S F q d Γ sc e c) :
    NOk S F q d Γ sc (.Call (.Name x p) [e] [] pos) (.p1 o c) := by
  have hm := zAJ ho
  have hm' : x ∈ b1Names.map (·.1) := List.mem_map_of_mem hm
  simp only [b1Names, List.mem_cons, Prod.mk.injEq, List.not_mem_nil, or_false] at hm
  rcases hm with ⟨rfl, rfl⟩ | hm
  · exact zBl fs hg hn hm' bb_len (by decide) (by simp) h fun X f σ s A E a x va _ _ L hx ra => len_sound L hx ra
  rcases hm with ⟨rfl, rfl⟩ | hm
  · exact zBl fs hg hn hm' bb_int (by decide) (by simp) h fun X f σ s A E a x va _ _ L hx ra => toInt_sound hx ra
  rcases hm with ⟨rfl, rfl⟩ | hm
  · exact zBl fs hg hn hm' bb_all (by decide) (by simp) h fun X f σ s A E a x va h1 h2 L hx ra => all_sound (hand_of rfl h1 h2) L hx ra
  rcases hm with ⟨rfl, rfl⟩ | hm
  · exact zBl fs hg hn hm' bb_list (by decide) (by simp) h fun X f σ s A E a x va _ _ L hx ra => toList_sound L hx ra
  rcases hm with ⟨rfl, rfl⟩ | hm
  · exact zBl fs hg hn hm' bb_tuple (by decide) (by simp) h fun X f σ s A E a x va _ _ L hx ra => toTup_sound L hx ra
  obtain ⟨rfl, rfl⟩ := hm
  exact zBl fs hg hn hm' bb_sum (by decide) (by simp) h fun X f σ s A E a x va h1 h2 L hx ra => sum_sound (hand_of rfl h1 h2) L hx ra
theorem ok_b2_by (fs : Facts S C T) {x : Str} {p pos : Pos} {v : Value} {e e2 : Expr} {c c2 : CE} {o : P2} (hg : isGlob sc x = true) (hn : C.fns.lookup x = none)
    (hx : x ∈ b2Names.map (·.1)) (hv : bootBuiltins x = some v) (hd : (x == ("__debug__" : Str)) = false) (hr : ∀ a, v ≠ .ref a) (s1 : isStar e = false) (s2 : isStar e2 = false) (h : EOk S F q d Γ sc e c) (h2 : EOk S F q d Γ sc e2 c2)
    (op : ∀ (X : List Addr) (f : List Loc) (σ : Sto) (s : Shared) (A : Around) (E : Value → Shared → Prop) (a b x : V) (va vb : Value), (loud2 o && q) = false → (q = false → A.handled = none) → Lk S X f σ s.heap → ev2 o σ a b = some x → VR S X f s.heap a va → VR S X f s.heap b vb → wpAny (model S.prog S.w) A (call v [va, vb]) (PE S X f s x) E s) :
    EOk S F q d Γ sc (.Call (.Name x p) [e, e2] [] pos) (.p2 o c c2) := fun env ρ f X σ s A st hne => by
  rw [x_p2] at hne ⊢
  by_cases hq : (loud2 o && q) = true
  · rw [if_pos hq] at hne; exact absurd rfl hne
  rw [if_neg hq] at hne ⊢
  refine wpAny_Call_NameR (zAx fs st hg hn (.inr (.inl hx)) hv hd ?_)
  refine zAi (zAP _ (by simp [s1, s2])) (spliced2 s1 s2 ?_)
  refine Sim.goN (h env ρ f X σ s A st) hne (fun _ _ x => x.qs) (fun _ _ x => x) fun va a' σ₁ g₁ s₁ hne hg k L ra hQ hE => ?_
  refine Sim.goN (h2 env ρ _ X σ₁ s₁ A (st.keep hg k L)) hne hQ hE fun vb b' σ₂ g₂ s₂ hne hg₂ k₂ L₂ rb hQ hE => ?_
  obtain ⟨x, hx⟩ := zAq hne
  rw [hx] at hQ
  exact ⟨zAl hr, wpAny_mono (op X _ σ₂ s₂ A _ a' b' x va vb (by simpa using hq) st.cx.hand L₂ hx (VR.keepK k₂ hg₂ (fun _ h => nomatch h) ra) rb) (fun v s' p => hQ v s' (p.here L₂)) fun _ _ x => x⟩
theorem ok_b2 (fs : Facts S C T) {x : Str} {p pos : Pos} {e e2 : Expr} {c c2 : CE} {o : P2} (hg : isGlob sc x = true) (hn : C.fns.lookup x = none) (ho : b2Names.lookup x = some o) (s1 : isStar e = false) (s2 : isStar e2 = false) (h : EOk S F q d Γ sc e c) (h2 : EOk S F q d Γ sc e2 c2) :
    EOk S F q d Γ sc (.Call (.Name x p) [e, e2] [] pos) (.p2 o c c2) := by
  have hm := zAJ ho
  have hm' : x ∈ b2Names.map (·.1) := List.mem_map_of_mem hm
  simp only [b2Names, List.mem_cons, Prod.mk.injEq, List.not_mem_nil, or_false] at hm
  rcases hm with ⟨rfl, rfl⟩ | ⟨rfl, rfl⟩
  · exact ok_b2_by fs hg hn hm' bb_min (by decide) (by simp) s1 s2 h h2 fun X f σ s A E a b x va vb h1 h2 L hx ra rb => by
      have hh : A.handled = none := h2 (by simpa [loud2] using h1)
      obtain ⟨i, j, rfl, rfl⟩ := zCB hx
      cases hx
      obtain ⟨t, rfl⟩ := zAe ra
      obtain ⟨u, rfl⟩ := zAe rb
      exact min2_sound hh
  · exact ok_b2_by fs hg hn hm' bb_max (by decide) (by simp) s1 s2 h h2 fun X f σ s A E a b x va vb h1 h2 L hx ra rb => by
      have hh : A.handled = none := h2 (by simpa [loud2] using h1)
      obtain ⟨i, j, rfl, rfl⟩ := zCB hx
      cases hx
      obtain ⟨t, rfl⟩ := zAe ra
      obtain ⟨u, rfl⟩ := zAe rb
      exact max2_sound hh
theorem ok_isinst (fs : Facts S C T) {k : Str} {p pk pos : Pos} {e : Expr} {c : CE} {kd : Kd} (hg : isGlob sc "isinstance" = true) (hn : C.fns.lookup ("isinstance" : Str) = none) (hk : kindOf? C k = some kd) (hgk : isGlob sc k = true) (hs : isStar e = false) (h : EOk S F q d Γ sc e c) :
    EOk S F q d Γ sc (.Call (.Name ("isinstance" : Str) p) [e, .Name k pk] [] pos) (.p1 (.isInst kd) c) := fun env ρ f X σ s A st hne => by
  rw [x_p1, show loud1 (.isInst kd) = false from rfl, Bool.false_and, if_neg (by simp)] at hne ⊢
  unfold kindOf? at hk
  split at hk
  · first | exact zAA hk | exact ff_tt hk | cases hk
  rename_i hnk
  have hnk : C.fns.lookup k = none := Option.not_isSome_iff_eq_none.mp hnk
  have hm := zAJ hk
  have hm' : k ∈ kindNames.map (·.1) := List.mem_map_of_mem hm
  have hv : bootBuiltins k = some (.type (tyName kd)) ∧ (k == ("__debug__" : Str)) = false ∧ ∀ c, kd ≠ .exc c := by
    simp only [kindNames, List.mem_cons, Prod.mk.injEq, List.not_mem_nil, or_false] at hm
    rcases hm with ⟨rfl, rfl⟩ | ⟨rfl, rfl⟩ | ⟨rfl, rfl⟩ | ⟨rfl, rfl⟩ | ⟨rfl, rfl⟩
    · exact ⟨bb_int, by decide, by simp⟩
    · exact ⟨bb_bool, by decide, by simp⟩
    · exact ⟨bb_str, by decide, by simp⟩
    · exact ⟨bb_list, by decide, by simp⟩
    · exact ⟨bb_tuple, by decide, by simp⟩
  refine wpAny_Call_NameR (zAx fs st hg hn (.inr (.inr (.inr (.inl rfl)))) bb_isinstance (by decide) ?_)
  refine zAi (zAP _ (by rw [List.any_cons, hs]; rfl)) (spliced2 hs rfl ?_)
  refine Sim.goN (h env ρ f X σ s A st) hne (fun _ _ x => x.qs) (fun _ _ x => x) fun va a' σ₁ g₁ s₁ hne hg k L ra hQ hE => ?_
  refine zAx fs (st.keep hg k L) hgk hnk (.inr (.inr (.inl hm'))) hv.1 hv.2.1 ?_
  obtain ⟨x, hx⟩ := zAq hne
  rw [hx] at hQ
  exact ⟨zAl (by simp), wpAny_mono (isInst_sound hv.2.2 L hx ra) (fun v s' p => hQ v s' (p.here L)) fun _ _ x => x⟩
theorem ok_call (fs : Facts S C T) (FSs : FS S F q d) {x : Str} {n : Nat} {p pos : Pos} {es : List Expr} {cs : List CE} (hg : isGlob sc x = true) (hd : (x == ("__debug__" : Str)) = false) (hn : C.fns.lookup x = some n) (h : All2 (GOk S F q d Γ sc) es cs) :
    EOk S F q d Γ sc (.Call (.Name x p) es [] pos) (.call n cs) := fun env ρ f X σ s A st hne => by
  rw [x_call] at hne ⊢
  have hr : evL F q cs ρ σ ≠ .stuck := fun e => hne (by rw [e]; rfl)
  obtain ⟨mg, mb, g1, g2, g3, g4, _⟩ := fs.g
  refine wpAny_Call_NameR (wpAny_Name (zBQ st.fr.kind (st.fr.isGlob hg) (by rw [st.fr.glob]; exact st.lk.ns g1) (g4 x n hn) ?_) hd)
  have hl := LOk.of h
  refine zAi (zAP _ hl.1) ?_
  refine Sim.goQ (P' := PV S X) (hl.2 env pos ρ f X σ s A st) hne (fun _ _ x => x) (fun _ _ x => x) fun vs xs σ₁ g₁ s₁ hne hg k L rs hQ hE => ?_
  obtain ⟨⟨o, fd, h1, h2⟩, h3⟩ := FSs n xs σ₁ _ X A s₁ vs (st.keep hg k L).cx.call L rs hne
  refine ⟨.inr ⟨_, o, fd, rfl, L.base _ _ h1, h2⟩, wpAny_call ?_⟩
  refine codeAny_mono h3 fun r s' hq => ?_
  match r, hq with
  | .ok (.ret v), hq => exact hQ v s' hq
  | .error e, hq => exact hE e s' hq
end
end Mine
end

/-! # Loop -/
section
set_option autoImplicit false
namespace Mine
open PySem PyProof.Rows
section
variable {S : Stat} {C : Ctx} {T : Nat → Option Fn} {F : Calls} {q : Bool} {d : Nat} {Γ : List Str} {sc : Scope}
variable {X X' Y Z : List Addr} {f g : List Loc} {σ : Sto} {s s' : Shared} {A : Around} {E : Value → Shared → Prop} {I a : Addr} {its : Items} {i : Nat}
structure Mv (I : Addr) (s s' : Shared) : Prop where
  rest : s' = { s with heap := s'.heap, toks := s'.toks }
  keep : ∀ b o, b ≠ I → s.heap.get? b = some o → s'.heap.get? b = some o
  live : ∃ o, s'.heap.get? I = some o
  dic : ∀ o es n, s.heap.get? I = some o → o.data = .dict es n → ∃ o' es' n', s'.heap.get? I = some o' ∧ o'.data = .dict es' n'
theorem Mv.kp (m : Mv I s s') (hI : I ∈ Y) : Kp f Y s s' :=
  ⟨m.rest, fun a o e => (by by_cases h : a = I
                            · rw [h]; exact m.live
                            · exact ⟨o, m.keep a o h e⟩), fun a o e _ h => ⟨o, m.keep a o (fun q => h (q ▸ hI)) e, .refl o⟩,
    fun a o es n e d _ => (by by_cases h : a = I
                              · subst h; exact m.dic o es n e d
                              · exact ⟨o, es, n, m.keep a o h e, d⟩)⟩
theorem Mv.vr (m : Mv I s s') (hI : I ∈ X) {x : V} {v : Value} (r : VR S X f s.heap x v) : VR S X f s'.heap x v :=
  VR.keep (fun _ _ e => e) (fun a o h h1 h2 => ⟨⟨h1, h2⟩, o, m.keep a o (fun q => h2 (q ▸ hI)) h, .refl o⟩) x v r
theorem Mv.vrs (m : Mv I s s') (hI : I ∈ X) {x : List V} {v : List Value} (r : VRs S X f s.heap x v) : VRs S X f s'.heap x v :=
  VRs.keep (fun _ _ e => e) (fun a o h h1 h2 => ⟨⟨h1, h2⟩, o, m.keep a o (fun q => h2 (q ▸ hI)) h, .refl o⟩) x v r
theorem Mv.lk (m : Mv I s s') (hI : I ∈ X) (L : Lk S X f σ s.heap) : Lk S X f σ s'.heap where
  base b o h := m.keep b o (fun q => by rw [q, (L.hid I hI).1] at h; cases h) (L.base b o h)
  len := L.len
  nodup := L.nodup
  fresh := L.fresh
  hid a ha := ⟨(L.hid a ha).1, (L.hid a ha).2.1, (by
    by_cases h : a = I
    · rw [h]; exact m.live
    · obtain ⟨o, e⟩ := (L.hid a ha).2.2; exact ⟨o, m.keep a o h e⟩)⟩
  obj i l o hi ho := (L.obj i l o hi ho).keep (fun _ _ => m.vr hI) (fun _ _ => m.vrs hI) fun a ha => by
    obtain ⟨ob, h⟩ := L.live (zAb hi ha)
    rw [h]; exact m.keep a ob (fun q => (L.hid I hI).2.1 (q ▸ zAb hi ha)) h
theorem VR.drop {h h' : Heap} (hX : ∀ a ∈ X', a ∈ X) (hZ : ∀ a ∈ Z, a ∈ X) (k : ∀ b o, b ∉ Z → h.get? b = some o → h'.get? b = some o) {x : V} {v : Value} (r : VR S X f h x v) : VR S X' f h' x v :=
  VR.keep (fun _ _ e => e) (fun a o h h1 h2 => ⟨⟨h1, fun q => h2 (hX a q)⟩, o, k a o (fun q => h2 (hZ a q)) h, .refl o⟩) x v r
theorem VRs.drop {h h' : Heap} (hX : ∀ a ∈ X', a ∈ X) (hZ : ∀ a ∈ Z, a ∈ X) (k : ∀ b o, b ∉ Z → h.get? b = some o → h'.get? b = some o) {x : List V} {v : List Value} (r : VRs S X f h x v) : VRs S X' f h' x v :=
  VRs.keep (fun _ _ e => e) (fun a o h h1 h2 => ⟨⟨h1, fun q => h2 (hX a q)⟩, o, k a o (fun q => h2 (hZ a q)) h, .refl o⟩) x v r
theorem Lk.drop {h h' : Heap} (L : Lk S X f σ h) (hX : ∀ a ∈ X', a ∈ X ∧ a ∉ Z) (hZ : ∀ a ∈ Z, a ∈ X) (k : ∀ b o, b ∉ Z → h.get? b = some o → h'.get? b = some o) : Lk S X' f σ h' where
  base b o q := k b o (fun z => by rw [(L.hid b (hZ b z)).1] at q; cases q) (L.base b o q)
  len := L.len
  nodup := L.nodup
  fresh := L.fresh
  hid a ha := ⟨(L.hid a (hX a ha).1).1, (L.hid a (hX a ha).1).2.1, let ⟨o, e⟩ := (L.hid a (hX a ha).1).2.2; ⟨o, k a o (hX a ha).2 e⟩⟩
  obj i l o hi ho := (L.obj i l o hi ho).keep (fun _ _ => VR.drop (fun a ha => (hX a ha).1) hZ k) (fun _ _ => VRs.drop (fun a ha => (hX a ha).1) hZ k) fun a ha => by
    obtain ⟨ob, h⟩ := L.live (zAb hi ha)
    rw [h]; exact k a ob (fun z => (L.hid a (hZ a z)).2.1 (zAb hi ha)) h
theorem Kp.ends {s₁ : Shared} (k : Kp f Y s s₁) (hr : s' = { s₁ with heap := s'.heap, toks := s'.toks }) (hk : ∀ b o, b ∉ Z → s₁.heap.get? b = some o → s'.heap.get? b = some o) (hZ : ∀ a ∈ Z, s.heap.get? a = none) : Kp f Y s s' where
  rest := by rw [hr, k.rest]
  live a o e := let ⟨o₁, e₁⟩ := k.live a o e; ⟨o₁, hk a o₁ (fun h => by rw [hZ a h] at e; cases e) e₁⟩
  kept a o e h1 h2 := by
    obtain ⟨o₁, e₁, q₁⟩ := k.kept a o e h1 h2
    exact ⟨o₁, hk a o₁ (fun h => by rw [hZ a h] at e; cases e) e₁, q₁⟩
  dicts a o es n e d h1 := by
    obtain ⟨o₁, es₁, n₁, e₁, d₁⟩ := k.dicts a o es n e d h1
    exact ⟨o₁, es₁, n₁, hk a o₁ (fun h => by rw [hZ a h] at e; cases e) e₁, d₁⟩
noncomputable def ItAt (S : Stat) (X : List Addr) (f : List Loc) (h : Heap) (I : Addr) : Items → Nat → Prop
  | .now xs, i => (∃ ax items n, h.IsListIter I ax i ∧ (ax ∉ addrs f ∧ ax ∉ X) ∧ IsL h ax items n ∧ VRs S X f h xs items.toList) ∨
      (∃ ax items n, h.IsTupleIter I ax i ∧ (ax ∉ addrs f ∧ ax ∉ X) ∧ IsT h ax items n ∧ VRs S X f h xs items.toList) ∨
      (∃ lo hi : Int, xs = rangeL lo hi ∧ IsRangeIter h I (lo + i) (((hi - lo).toNat : Int) - i) 1) ∨
      (∃ y t, xs = charsOf y ∧ y.cps.all (· < 128) = true ∧ h.IsStrIter I "str_ascii_iterator" y t i)
  | .live n, i => ∃ ax, f[n]? = some (ax, none) ∧ h.IsListIter I ax i
  | .keys _ _, _ => False
theorem rangeL_get {lo hi : Int} {x : V} (h : (rangeL lo hi)[i]? = some x) : x = .int (lo + i) ∧ i < (hi - lo).toNat := by
  simp only [rangeL, List.getElem?_map, Option.map_eq_some_iff] at h
  obtain ⟨k, hk, rfl⟩ := h
  have := List.getElem?_range (n := (hi - lo).toNat) (i := i)
  by_cases hlt : i < (hi - lo).toNat
  · rw [this hlt] at hk; cases hk; exact ⟨rfl, hlt⟩
  · rw [List.getElem?_eq_none (by simp; omega)] at hk; first | exact zAA hk | exact ff_tt hk | cases hk
theorem rangeL_end {lo hi : Int} (h : (rangeL lo hi)[i]? = none) : (hi - lo).toNat ≤ i := by
  simp only [rangeL, List.getElem?_map, Option.map_eq_none_iff] at h
  simpa using h
theorem zCp {h h' : Heap} {ax : Addr} (x : h.IsListIter I ax i) (k : ∀ o, h.get? I = some o → ∃ o', h'.get? I = some o' ∧ SameObj o o') : h'.IsListIter I ax i := by
  obtain ⟨o, e, c, dt⟩ := x
  obtain ⟨o', e', q⟩ := k o e
  exact ⟨o', e', q.cls.trans c, q.data.trans dt⟩
theorem tupIter_kept {h h' : Heap} {ax : Addr} (x : h.IsTupleIter I ax i) (k : ∀ o, h.get? I = some o → ∃ o', h'.get? I = some o' ∧ SameObj o o') : h'.IsTupleIter I ax i := by
  obtain ⟨o, e, c, dt⟩ := x
  obtain ⟨o', e', q⟩ := k o e
  exact ⟨o', e', q.cls.trans c, q.data.trans dt⟩
theorem strIter_kept {h h' : Heap} {c : String} {y : Str} {t : Tok} (x : h.IsStrIter I c y t i) (k : ∀ o, h.get? I = some o → ∃ o', h'.get? I = some o' ∧ SameObj o o') : h'.IsStrIter I c y t i := by
  obtain ⟨o, e, c, dt⟩ := x
  obtain ⟨o', e', q⟩ := k o e
  exact ⟨o', e', q.cls.trans c, q.data.trans dt⟩
theorem charsOf_get {y : Str} {x : V} (h : (charsOf y)[i]? = some x) : ∃ c, y.cps[i]? = some c ∧ x = .str ⟨#[c]⟩ := by
  unfold charsOf codes at h
  rw [List.getElem?_map] at h
  cases e : y.cps.toList[i]? with
  | none => rw [e] at h; first | exact zAA h | exact ff_tt h | cases h
  | some c => rw [e] at h; cases h; exact ⟨c, by rw [← Array.getElem?_toList]; exact e, rfl⟩
theorem charsOf_end {y : Str} (h : (charsOf y)[i]? = none) : y.cps[i]? = none := by
  unfold charsOf codes at h
  rw [List.getElem?_map] at h
  cases e : y.cps.toList[i]? with
  | none => rw [← Array.getElem?_toList]; exact e
  | some c => rw [e] at h; first | exact zAA h | exact ff_tt h | cases h
theorem ItAt.keep {h h' : Heap} {f' : List Loc} (kf : ∀ (i : Nat) (l : Loc), f[i]? = some l → f'[i]? = some l)
    (kh : ∀ a o, h.get? a = some o → a ∉ addrs f → a ∉ X → (a ∉ addrs f' ∧ a ∉ X') ∧ ∃ o', h'.get? a = some o' ∧ SameObj o o')
    (kI : ∀ o, h.get? I = some o → ∃ o', h'.get? I = some o' ∧ SameObj o o') (x : ItAt S X f h I its i) : ItAt S X' f' h' I its i := by
  cases its with
  | now xs =>
    rcases x with ⟨ax, items, n, h1, h2, h3, h4⟩ | ⟨ax, items, n, h1, h2, h3, h4⟩ | ⟨lo, hi, h1, h2⟩ | ⟨y, t, h1, h2, h3⟩
    · obtain ⟨q1, o', q2, q3⟩ := kh ax _ h3 h2.1 h2.2
      exact .inl ⟨ax, items, n, zCp h1 kI, q1, q2.trans (congrArg some (q3.exact fun _ _ q => by cases q)), VRs.keep kf kh _ _ h4⟩
    · obtain ⟨q1, o', q2, q3⟩ := kh ax _ h3 h2.1 h2.2
      exact .inr (.inl ⟨ax, items, n, tupIter_kept h1 kI, q1, q2.trans (congrArg some (q3.exact fun _ _ q => by cases q)), VRs.keep kf kh _ _ h4⟩)
    · obtain ⟨o', q2, q3⟩ := kI _ h2
      exact .inr (.inr (.inl ⟨lo, hi, h1, q2.trans (congrArg some (q3.exact fun _ _ q => by cases q))⟩))
    · exact .inr (.inr (.inr ⟨y, t, h1, h2, strIter_kept h3 kI⟩))
  | live n =>
    obtain ⟨ax, h1, h2⟩ := x
    exact ⟨ax, kf _ _ h1, zCp h2 kI⟩
  | keys _ _ => exact x.elim
theorem ItAt.keepK (k : Kp f [] s s') (hg : Fresh g s) (hI : I ∈ X) (hXf : ∀ a ∈ X, a ∉ addrs f) (x : ItAt S X f s.heap I its i) : ItAt S X (f ++ g) s'.heap I its i :=
  ItAt.keep (f := f) (f' := f ++ g) (X := X) (X' := X) (h := s.heap) (fun _ _ e => List.getElem?_append_left (List.getElem?_eq_some_iff.mp e).1 ▸ e)
    (fun a o ho h1 h2 => ⟨⟨fun h => (zAH.mp h).elim h1 (zAY hg ho), h2⟩, k.kept a o ho h1 fun h => nomatch h⟩) (fun o ho => k.kept I o ho (hXf I hI) fun h => nomatch h) x
theorem ItAt.mv (m : Mv a s s') (ha : a ∈ X) (hne : I ≠ a) (x : ItAt S X f s.heap I its i) : ItAt S X f s'.heap I its i :=
  ItAt.keep (fun _ _ e => e) (fun b o ho h1 h2 => ⟨⟨h1, h2⟩, o, m.keep b o (fun q => h2 (q ▸ ha)) ho, .refl o⟩) (fun o ho => ⟨o, m.keep I o hne ho, .refl o⟩) x
theorem ItAt.hideNew (e : Ext s s') (hn : s.heap.get? a = none) (x : ItAt S X f s.heap I its i) : ItAt S (a :: X) f s'.heap I its i :=
  ItAt.keep (fun _ _ e => e) (fun b ob q h1 h2 => ⟨⟨h1, fun h => (List.mem_cons.mp h).elim (fun h => by subst h; rw [hn] at q; cases q) h2⟩, ob, e.keep b ob q, .refl ob⟩) (fun o ho => ⟨o, e.keep I o ho, .refl o⟩) x
theorem zEW {h' : Heap} {t : Nat} {o : Obj} (hs : Heap.SameBut I s.heap h') (hl : h'.get? I = some o) (hd : ∀ o es n, s.heap.get? I = some o → o.data ≠ .dict es n) : Mv I s { s with heap := h', toks := t } :=
  ⟨rfl, fun b o hb e => (hs.2 b hb).trans e, ⟨o, hl⟩, fun o es n e d => absurd d (hd o es n e)⟩
inductive NextAt (S : Stat) (X : List Addr) (f : List Loc) (I : Addr) (its : Items) (i : Nat) (x : V) (s : Shared) (r : Option Value) (s' : Shared) : Prop
  | mk (v : Value) (e : r = some v) (m : Mv I s s') (it : ItAt S X f s'.heap I its (i + 1)) (rv : VR S X f s'.heap x v)
theorem next_item {x : V} (hI : I ∈ X) (L : Lk S X f σ s.heap) (it : ItAt S X f s.heap I its i) (hn : nextIt σ its i = some (some x)) :
    wpAny (model S.prog S.w) A (pyNext (.ref I)) (NextAt S X f I its i x s) E s := by
  cases its with
  | now xs =>
    have hx : xs[i]? = some x := by simpa [nextIt] using hn
    rcases it with ⟨ax, items, n, h1, h2, h3, h4⟩ | ⟨ax, items, n, h1, h2, h3, h4⟩ | ⟨lo, hi, rfl, h2⟩ | ⟨y, t, rfl, h2, h3⟩
    · obtain ⟨v, hv, rv⟩ := zDK h4 hx
      refine wpAny_pyNext_list_item h1 (IsL.isList h3) (by simpa using hv) fun h' hit' hs' => ?_
      obtain ⟨o1, e1, _, d1⟩ := id h1
      obtain ⟨o2, e2, _⟩ := id hit'
      have m : Mv I s { s with heap := h' } := zEW (t := s.toks) hs' e2 fun o es n e d => by rw [e1] at e; cases e; rw [d1] at d; cases d
      have hne : ax ≠ I := fun q => h2.2 (q ▸ hI)
      exact ⟨v, rfl, m, .inl ⟨ax, items, n, hit', h2, m.keep ax _ hne h3, m.vrs hI h4⟩, m.vr hI rv⟩
    · obtain ⟨v, hv, rv⟩ := zDK h4 hx
      refine wpAny_pyNext_tuple_item h1 ⟨_, h3, rfl, n, rfl⟩ (by simpa using hv) fun h' hit' hs' => ?_
      obtain ⟨o1, e1, _, d1⟩ := id h1
      obtain ⟨o2, e2, _⟩ := id hit'
      have m : Mv I s { s with heap := h' } := zEW (t := s.toks) hs' e2 fun o es n e d => by rw [e1] at e; cases e; rw [d1] at d; cases d
      have hne : ax ≠ I := fun q => h2.2 (q ▸ hI)
      exact ⟨v, rfl, m, .inr (.inl ⟨ax, items, n, hit', h2, m.keep ax _ hne h3, m.vrs hI h4⟩), m.vr hI rv⟩
    · obtain ⟨rfl, hlt⟩ := rangeL_get hx
      refine wpAny_pyNext_range_item h2 (by omega) fun h' hit' hs' => ?_
      have m : Mv I s { s with heap := h', toks := s.toks + 1 } := zEW hs' hit' fun o es n e d => by rw [h2] at e; cases e; cases d
      refine ⟨_, rfl, m, .inr (.inr (.inl ⟨lo, hi, rfl, ?_⟩)), by rw [VR]; exact ⟨_, rfl⟩⟩
      have e1 : lo + ((i + 1 : Nat) : Int) = lo + i + 1 := by omega
      have e2 : (((hi - lo).toNat : Int) - ((i + 1 : Nat) : Int)) = ((hi - lo).toNat : Int) - i - 1 := by omega
      rw [e1, e2]; exact hit'
    · obtain ⟨c, hc, rfl⟩ := charsOf_get hx
      refine wpAny_pyNext_ascii_item h3 hc fun h' hit' hs' => ?_
      obtain ⟨o1, e1, _, d1⟩ := id h3
      obtain ⟨o2, e2, _⟩ := id hit'
      have m : Mv I s { s with heap := h', toks := s.toks + 1 } := zEW hs' e2 fun o es n e d => by rw [e1] at e; cases e; rw [d1] at d; cases d
      have hlt : c < 128 := by
        have := (Array.all_eq_true'.mp h2) c (Array.mem_of_getElem? hc)
        simpa using this
      refine ⟨_, rfl, m, .inr (.inr (.inr ⟨y, t, rfl, h2, hit'⟩)), ?_⟩
      rw [VR]
      refine ⟨⟨_, rfl⟩, by show 1 ≤ LIM; decide, ?_⟩
      show (#[c] : Array Nat).all (· < 0x110000) = true
      simp; omega
  | live n =>
    obtain ⟨ax, h1, h2⟩ := it
    delta nextIt at hn; dsimp only at hn
    split at hn
    · rename_i xs ho
      have hx : xs[i]? = some x := by simpa using hn
      obtain ⟨vs, k, il, rs, hl⟩ := L.obj n (ax, none) _ h1 ho
      obtain ⟨v, hv, rv⟩ := zDK rs hx
      refine wpAny_pyNext_list_item h2 (IsL.isList il) (by simpa using hv) fun h' hit' hs' => ?_
      obtain ⟨o1, e1, _, d1⟩ := id h2
      obtain ⟨o2, e2, _⟩ := id hit'
      have m : Mv I s { s with heap := h' } := zEW (t := s.toks) hs' e2 fun o es n e d => by rw [e1] at e; cases e; rw [d1] at d; cases d
      exact ⟨v, rfl, m, ⟨ax, h1, hit'⟩, m.vr hI rv⟩
    · first | exact zAA hn | exact ff_tt hn | cases hn
  | keys _ _ => exact it.elim
theorem next_end (hh : A.handled = none) (L : Lk S X f σ s.heap) (it : ItAt S X f s.heap I its i) (hn : nextIt σ its i = some none) :
    wpAny (model S.prog S.w) A (pyNext (.ref I)) (fun r s' => r = none ∧ s' = { s with heap := s'.heap, toks := s'.toks } ∧ ∀ b o, b ≠ I → s.heap.get? b = some o → s'.heap.get? b = some o) E s := by
  cases its with
  | now xs =>
    have hx : xs[i]? = none := by simpa [nextIt] using hn
    rcases it with ⟨ax, items, n, h1, h2, h3, h4⟩ | ⟨ax, items, n, h1, h2, h3, h4⟩ | ⟨lo, hi, rfl, h2⟩ | ⟨y, t, rfl, h2, h3⟩
    · have : items[i]? = none := by
        have z := zAN h4
        rw [List.getElem?_eq_none_iff] at hx
        exact Array.getElem?_eq_none_iff.mpr (by omega)
      exact wpAny_pyNext_list_end hh h1 (IsL.isList h3) this fun h' he => ⟨rfl, rfl, he⟩
    · have : items[i]? = none := by
        have z := zAN h4
        rw [List.getElem?_eq_none_iff] at hx
        exact Array.getElem?_eq_none_iff.mpr (by omega)
      exact wpAny_pyNext_tuple_end hh h1 ⟨_, h3, rfl, n, rfl⟩ this fun h' he => ⟨rfl, rfl, he⟩
    · have := rangeL_end hx
      exact wpAny_pyNext_range_end hh h2 (by omega) fun h' he => ⟨rfl, rfl, he⟩
    · exact wpAny_pyNext_ascii_end hh h3 (charsOf_end hx) fun h' he => ⟨rfl, rfl, he⟩
  | live n =>
    obtain ⟨ax, h1, h2⟩ := it
    delta nextIt at hn; dsimp only at hn
    split at hn
    · rename_i xs ho
      have hx : xs[i]? = none := by simpa using hn
      obtain ⟨vs, k, il, rs, hl⟩ := L.obj n (ax, none) _ h1 ho
      have : vs[i]? = none := by
        have z := zAN rs
        rw [List.getElem?_eq_none_iff] at hx
        exact Array.getElem?_eq_none_iff.mpr (by omega)
      exact wpAny_pyNext_list_end hh h2 (IsL.isList il) this fun h' he => ⟨rfl, rfl, he⟩
    · first | exact zAA hn | exact ff_tt hn | cases hn
  | keys _ _ => exact it.elim
end
end Mine
end

/-! # Src -/
section
set_option autoImplicit false
namespace Mine
open PySem PyProof.Rows
inductive QI (S : Stat) (X : List Addr) (f : List Loc) (s : Shared) (r : R Items) (it : Value) (s' : Shared) : Prop where
  | mk (its : Items) (σ' : Sto) (g : List Loc) (I : Addr) (e1 : r = .ok its σ') (e2 : it = .ref I) (hI : s.heap.get? I = none) (hX : I ∉ X) (hg : Fresh g s) (k : Kp f [] s s') (L : Lk S (I :: X) (f ++ g) σ' s'.heap) (x : ItAt S (I :: X) (f ++ g) s'.heap I its 0)
section
variable {S : Stat} {C : Ctx} {T : Nat → Option Fn} {F : Calls} {q : Bool} {d : Nat} {Γ : List Str} {sc : Scope}
variable {X X' Y Z : List Addr} {f g : List Loc} {σ : Sto} {s s' : Shared} {A : Around} {E : Value → Shared → Prop} {I a : Addr} {its : Items} {i : Nat}
theorem QI.lifts : Lifts [] (fun f s r a s' => QI S X f s r a s') := fun f g s s₁ r c s' hg k q => by
  obtain ⟨its, σ', g', I, e1, e2, e3, e4, hg', k', L, x⟩ := q
  rw [List.append_assoc] at L x
  exact ⟨its, σ', g ++ g', I, e1, e2, zAc k.live e3, e4, hg.trans k.live hg', k.trans hg k', L, x⟩
theorem QI.made {o : Obj} {t : Nat} (L : Lk S X f σ s.heap) (x : ItAt S (s.heap.objs.size :: X) f (s.heap.push o) s.heap.objs.size its 0) (hl : (s.heap.push o).get? s.heap.objs.size = some o) :
    QI S X f s (.ok its σ) (.ref s.heap.objs.size) { s with heap := s.heap.push o, toks := t } := by
  have ex : Ext s { s with heap := s.heap.push o, toks := t } := .heap fun _ _ e => Heap.get?_push_of_some _ e
  refine ⟨its, σ, [], s.heap.objs.size, rfl, rfl, zAn _, (L.new (zAn _)).2, .nil s, ex.kp f [], ?_, ?_⟩
  · rw [List.append_nil]; exact L.hideNew ex (zAn _) hl
  · rw [List.append_nil]; exact x
theorem QI.moved {r : R Items} {v : Value} {s₁ : Shared} (e : Ext s s₁) (h : QI S X f s₁ r v s') : QI S X f s r v s' :=
  QI.lifts f [] s s₁ r v s' (.nil s) (e.kp f []) (by rwa [List.append_nil])
theorem vrs_hide {o : Obj} {xs : List V} {vs : List Value} (r : VRs S X f s.heap xs vs) : VRs S (s.heap.objs.size :: X) f (s.heap.push o) xs vs :=
  VRs.hideNew (s' := { s with heap := s.heap.push o }) (Ext.push s o) (zAn _) r
theorem iter_sound {v : V} {w : Value} (L : Lk S X f σ s.heap) (hi : itemsBy σ .val [v] = some its) (r : VR S X f s.heap v w) : wpAny (model S.prog S.w) A (pyIter w) (QI S X f s (.ok its σ)) E s := by
  cases v with
  | tup xs =>
    cases hi
    obtain ⟨p, vs, n, rfl, hp, il, rs, hlen⟩ := zDt r
    refine wpAny_pyIter_tuple ⟨_, il, rfl, n, rfl⟩ (QI.made (t := s.toks) L (.inr (.inl ⟨p, vs, n, ⟨_, Heap.get?_push_size _ rfl, rfl, rfl⟩, ⟨hp.1, ?_⟩, Heap.get?_push_of_some _ il, vrs_hide rs⟩)) (Heap.get?_push_size _ rfl))
    exact fun h => (List.mem_cons.mp h).elim (fun h => by have := zAn s.heap; rw [← h, il] at this; cases this) hp.2
  | lst xs =>
    cases hi
    rw [VR] at r
    obtain ⟨p, vs, n, rfl, hp, il, rs, hlen⟩ := r
    refine wpAny_pyIter_list (IsL.isList il) (QI.made (t := s.toks) L (.inl ⟨p, vs, n, ⟨_, Heap.get?_push_size _ rfl, rfl, rfl⟩, ⟨hp.1, ?_⟩, Heap.get?_push_of_some _ il, vrs_hide rs⟩) (Heap.get?_push_size _ rfl))
    exact fun h => (List.mem_cons.mp h).elim (fun h => by have := zAn s.heap; rw [← h, il] at this; cases this) hp.2
  | ref n =>
    have hi : refItems n σ[n]? = some its := hi
    unfold refItems at hi
    split at hi
    · rename_i xs ho
      cases hi
      rw [VR] at r
      obtain ⟨l, hl, rfl⟩ := r
      have := L.obj n l _ hl ho
      obtain ⟨p, dd⟩ := l
      cases dd with
      | none =>
        obtain ⟨vs, k, il, rs, hlen⟩ := this
        exact wpAny_pyIter_list (IsL.isList il) (QI.made (t := s.toks) L ⟨p, hl, ⟨_, Heap.get?_push_size _ rfl, rfl, rfl⟩⟩ (Heap.get?_push_size _ rfl))
      | some dd => exact this.elim
    · first | exact zAA hi | exact ff_tt hi | cases hi
  | str y =>
    obtain ⟨⟨t, rfl⟩, _⟩ := zAu r
    have hi : (if y.cps.all (· < 128) = true then some (Items.now (charsOf y)) else none) = some its := hi
    split at hi
    · rename_i ha
      cases hi
      exact wpAny_pyIter_ascii ha (QI.made (t := s.toks) L (.inr (.inr (.inr ⟨y, t, rfl, ha, ⟨_, Heap.get?_push_size _ rfl, rfl, rfl⟩⟩))) (Heap.get?_push_size _ rfl))
    · first | exact zAA hi | exact ff_tt hi | cases hi
  | _ => first | exact zAA hi | exact ff_tt hi | cases hi
noncomputable def SrcOk (S : Stat) (F : Calls) (q : Bool) (d : Nat) (Γ : List Str) (sc : Scope) (e : Expr) (k : SK) (cs : List CE) : Prop := (∀ env x, foldedSetIterable e env x = pure x) ∧
  ∀ (env : Env) (ρ : List V) (f : List Loc) (X : List Addr) (σ : Sto) (s : Shared) (A : Around), St S q d Γ sc env ρ f X σ s A →
    ((evL F q cs ρ σ).bind fun vs σ => R.lift σ (itemsBy σ k vs)) ≠ .stuck →
    wpAny (model S.prog S.w) A (eval e env) (fun x s₁ => wpAny (model S.prog S.w) A (pyIter x) (QI S X f s ((evL F q cs ρ σ).bind fun vs σ => R.lift σ (itemsBy σ k vs))) (ES S X [] f false s ((evL F q cs ρ σ).bind fun vs σ => R.lift σ (itemsBy σ k vs))) s₁)
      (ES S X [] f false s ((evL F q cs ρ σ).bind fun vs σ => R.lift σ (itemsBy σ k vs))) s
theorem src_val {e : Expr} {c : CE} (h : GOk S F q d Γ sc e c) : SrcOk S F q d Γ sc e .val [c] := by
  refine ⟨h.fold, fun env ρ f X σ s A st hne => ?_⟩
  have key : ((evL F q [c] ρ σ).bind fun vs σ => R.lift σ (itemsBy σ .val vs)) = (evE F q c ρ σ).bind fun v σ => R.lift σ (itemsBy σ .val [v]) := by
    rw [x_cons, R.bind_assoc]
    congr 1
  rw [key] at hne ⊢
  refine Sim.go (K := fun f s r a s' => QI S X f s r a s') QI.lifts (h.eo env ρ f X σ s A st) hne (fun _ _ x => x) (fun _ _ x => x) fun va a' σ₁ g₁ s₁ hne hg k L ra hQ hE => ?_
  obtain ⟨its, hi⟩ := zAq hne
  rw [hi] at hQ
  exact wpAny_mono (iter_sound L hi ra) hQ fun _ _ x => x
theorem range_iter {lo hi : Int} {t u v : Tok} (L : Lk S X f σ s.heap) (h0 : 0 ≤ lo) (h1 : lo ≤ LIM) (h2 : hi.natAbs ≤ LIM) :
    wpAny (model S.prog S.w) A (pyIter (.ref s.heap.objs.size)) (QI S X f s (.ok (.now (rangeL lo hi)) σ)) E { s with heap := s.heap.push { cls := .type "range", data := .fields #[.int lo t, .int hi u, .int 1 v] }, toks := s.toks } := by
  have hL : LIM = 1048576 := rfl
  have ex : Ext s { s with heap := s.heap.push { cls := .type "range", data := .fields #[.int lo t, .int hi u, .int 1 v] }, toks := s.toks } := .heap fun _ _ e => Heap.get?_push_of_some _ e
  refine wpAny_pyIter_range (IsRange.new ..) (small_one (by omega) (by omega) (by omega) (by omega)) (QI.moved ex (QI.made (t := s.toks) (ex.lk L) (.inr (.inr (.inl ⟨lo, hi, rfl, ?_⟩))) (Heap.get?_push_size _ rfl)))
  have e1 : Builtin.Range.rangeSize lo hi 1 = ((hi - lo).toNat : Int) - ((0 : Nat) : Int) := by rw [rangeSize_one]; split <;> omega
  have e2 : lo + ((0 : Nat) : Int) = lo := by simp
  show IsRangeIter _ _ (lo + ((0 : Nat) : Int)) _ 1
  rw [← e1, e2]
  exact Heap.get?_push_size _ rfl
theorem src_range (fs : Facts S C T) {p pos : Pos} {es : List Expr} {cs : List CE} {k : SK} (hg : isGlob sc "range" = true) (hn : C.fns.lookup ("range" : Str) = none) (h : All2 (GOk S F q d Γ sc) es cs)
    (hk : (k = .range1 ∧ cs.length = 1) ∨ False) : SrcOk S F q d Γ sc (.Call (.Name ("range" : Str) p) es [] pos) k cs := by
  refine ⟨fun _ _ => rfl, fun env ρ f X σ s A st hne => ?_⟩
  have hl := LOk.of h
  refine wpAny_Call_NameR (zAx fs st hg hn (.inr (.inr (.inr (.inr rfl)))) bb_range (by decide) ?_)
  refine zAi (zAP _ hl.1) ?_
  refine Sim.go (K := fun f s r a s' => QI S X f s r a s') QI.lifts (hl.2 env pos ρ f X σ s A st) hne (fun _ _ x => x) (fun _ _ x => x) fun vs xs σ₁ g₁ s₁ hne hg k L rs hQ hE => ?_
  refine ⟨zAl (by simp), ?_⟩
  obtain ⟨its, hi⟩ := zAq hne
  rw [hi] at hQ
  have hL : LIM = 1048576 := rfl
  rcases hk with ⟨rfl, _⟩ | hk
  · obtain ⟨n, rfl⟩ : ∃ n, xs = [.int n] := by
      rcases xs with _ | ⟨x, _ | ⟨y, _ | ⟨z, r⟩⟩⟩
      · first | exact zAA hi | exact ff_tt hi | cases hi
      · cases x <;> first | exact ⟨_, rfl⟩ | cases hi
      · first | exact zAA hi | exact ff_tt hi | cases hi
      · first | exact zAA hi | exact ff_tt hi | cases hi
    match vs, rs with
    | [w], rs =>
      rw [VRs] at rs
      obtain ⟨t, rfl⟩ := zAe rs.1
      have hi : (if n.natAbs ≤ LIM then some (Items.now (rangeL 0 n)) else none) = some its := hi
      split at hi
      · rename_i hb
        cases hi
        refine call_range_1 ?_
        have ex : Ext s₁ { s₁ with toks := s₁.toks + 1 + 1 } := .toks s₁ _
        exact wpAny_mono (range_iter (s := { s₁ with toks := s₁.toks + 1 + 1 }) L (by omega) (by omega) hb) (fun v s'' x => hQ v s'' (QI.moved ex x)) fun _ _ x => x
      · first | exact zAA hi | exact ff_tt hi | cases hi
    | [], rs => rw [VRs] at rs; exact rs.elim
    | _ :: _ :: _, rs => rw [VRs, VRs] at rs; exact rs.2.elim
  · exact hk.elim
end
end Mine
end

/-! # CompS -/
section
set_option autoImplicit false
namespace Mine
open PySem PyProof.Rows
section
variable {S : Stat} {C : Ctx} {T : Nat → Option Fn} {F : Calls} {q : Bool} {d : Nat} {Γ : List Str} {sc : Scope}
variable {X X' Y Z : List Addr} {f g : List Loc} {σ : Sto} {s s' : Shared} {A : Around} {E : Value → Shared → Prop} {I a : Addr} {its : Items} {i : Nat} {env : Env} {ρ : List V}
theorem append_raw {l : Addr} {items : Array Value} {n : Nat} {x : Value} {Q : Value → Shared → Prop} (hl : IsL s.heap l items n) (h : Q .none { s with heap := s.heap.update l (Obj.mapSeq (·.push x)) }) (hsz : items.size ≤ sizeLine) :
    wpAny (model S.prog S.w) A (call (.builtin "list.append") [.ref l, x]) Q E s := by
  refine wpAny_call_entry slot_list_append (IsL.isList hl).typeIs entry_list_append ?_ (args_list_append _ _)
  show wpAny _ _ (updateSeq l (·.push x) >>= fun _ => ret .none) _ _ s
  refine wpAny_bind ?_
  have hz' : (items.push x).size ≤ sizeLine + 1 := by rw [Array.size_push]; omega
  exact wpAny_updateSeq hl rfl (wpAny_pure ⟨.none, rfl, h⟩) (hz := hsz) (_hz' := hz')
theorem IsL.appended {h : Heap} {l : Addr} {items : Array Value} {n : Nat} {x : Value} (hl : IsL h l items n) : ∃ n', IsL (h.update l (Obj.mapSeq (·.push x))) l (items.push x) n' := ⟨_, IsL.update hl _⟩
theorem zDH : ∀ (names : List (Str × NameKind)) (cs : List (Str × Addr)), (∀ n, (n, NameKind.free) ∈ names → ∃ c, env.cells.lookup n = some c) → (∀ y c, cs.lookup y = some c → env.cells.lookup y = some c) →
    ∃ cl, (forIn names cs (fun x r => do
        let __x ← pure PUnit.unit
        match x with
        | (name, kind) => if (kind == .free) = true then do let y ← cellOf env name; pure (ForInStep.yield ((name, y) :: r)) else pure (ForInStep.yield r)) : Sem (List (Str × Addr))) = pure cl ∧ (∀ y c, cl.lookup y = some c → env.cells.lookup y = some c) ∧
      (∀ y, (cs.lookup y).isSome = true → (cl.lookup y).isSome = true) ∧ ∀ y, (y, NameKind.free) ∈ names → (cl.lookup y).isSome = true
  | [], cs, _, h2 => ⟨cs, rfl, h2, fun _ h => h, fun _ h => nomatch h⟩
  | (n, k) :: r, cs, h1, h2 => by
    have h1' : ∀ n, (n, NameKind.free) ∈ r → ∃ c, env.cells.lookup n = some c := fun n hn => h1 n (List.mem_cons_of_mem _ hn)
    by_cases hk : k = .free
    · subst hk
      obtain ⟨c, hc⟩ := h1 n List.mem_cons_self
      obtain ⟨cl, e1, e2, e3, e4⟩ := zDH r ((n, c) :: cs) h1' (fun y c' e => by
        rw [List.lookup_cons] at e
        split at e
        · rename_i hy; rw [eq_of_beq hy]; cases e; exact hc
        · exact h2 y c' e)
      refine ⟨cl, ?_, e2, fun y hy => e3 y ?_, fun y hy => ?_⟩
      · rw [List.forIn_cons]
        simp only [cellOf, hc]
        exact e1
      · rw [List.lookup_cons]; split
        · rfl
        · exact hy
      · rcases List.mem_cons.mp hy with e | hy
        · cases e; exact e3 n (by simp)
        · exact e4 y hy
    · obtain ⟨cl, e1, e2, e3, e4⟩ := zDH r cs h1' h2
      refine ⟨cl, ?_, e2, e3, fun y hy => ?_⟩
      · rw [List.forIn_cons]
        have : (k == NameKind.free) = false := by simpa using hk
        simp only [this]
        exact e1
      · rcases List.mem_cons.mp hy with e | hy
        · cases e; exact absurd rfl hk
        · exact e4 y hy
theorem closure_of {scope : Scope} (h : ∀ n, (n, NameKind.free) ∈ scope.names → ∃ c, env.cells.lookup n = some c) : ∃ cl, closureFor scope env = pure cl ∧ ∀ y, (y, NameKind.free) ∈ scope.names → ∃ c, cl.lookup y = some c ∧ env.cells.lookup y = some c := by
  obtain ⟨cl, e1, e2, _, e4⟩ := zDH (env := env) scope.names [] h (fun y c e => by simp at e)
  refine ⟨cl, ?_, fun y hy => ?_⟩
  · simp only [closureFor]
    have := e1
    simp only [pure_bind, bind_pure] at this ⊢
    exact this
  · obtain ⟨c, hc⟩ := Option.isSome_iff_exists.mp (e4 y hy)
    exact ⟨c, hc, e2 y c hc⟩
end
end Mine
end

/-! # CompS2 -/
section
set_option autoImplicit false
namespace Mine
open PySem PyProof.Rows
theorem zBq {env : Env} {scope : Scope} (x : Str) : (relabel scope env).names.lookup x = scope.names.lookup x ∨ (scope.names.lookup x = some .free ∧ (relabel scope env).names.lookup x = some .cell) := by
  show (scope.names.map fun (n, k) => if (k == NameKind.free && env.scope.kind == .function && env.kindOf n == some .cell) then (n, NameKind.cell) else (n, k)).lookup x = _ ∨ (_ ∧ (scope.names.map fun (n, k) => if (k == NameKind.free && env.scope.kind == .function && env.kindOf n == some .cell) then (n, NameKind.cell) else (n, k)).lookup x = some .cell)
  generalize scope.names = names
  induction names with
  | nil => exact .inl rfl
  | cons p r ih =>
    obtain ⟨n, k⟩ := p
    simp only [List.map_cons]
    by_cases hc : (k == NameKind.free && env.scope.kind == .function && env.kindOf n == some .cell) = true
    · rw [if_pos hc]
      rw [List.lookup_cons, List.lookup_cons]
      have hk : k = .free := by simp only [Bool.and_eq_true] at hc; exact eq_of_beq hc.1.1
      split
      · exact .inr ⟨by rw [hk], rfl⟩
      · exact ih
    · rw [if_neg hc]
      rw [List.lookup_cons, List.lookup_cons]
      split
      · exact .inl rfl
      · exact ih
section
variable {S : Stat} {C : Ctx} {T : Nat → Option Fn} {F : Calls} {q : Bool} {d : Nat} {Γ : List Str} {sc : Scope}
variable {X X' Y Z : List Addr} {f g : List Loc} {σ : Sto} {s s' : Shared} {A : Around} {E : Value → Shared → Prop} {I a : Addr} {its : Items} {i : Nat} {env : Env} {ρ : List V}
theorem zBt (x y : Str) : ∀ (Γ : List Str), lastIdx y (Γ ++ [x]) = if x == y then some Γ.length else lastIdx y Γ
  | [] => by simp [lastIdx]
  | z :: Γ => by
    simp only [List.cons_append, lastIdx, zBt x y Γ]
    by_cases h : (x == y) = true
    · simp [h]
    · simp [h]
theorem zDA {y : Str} : ∀ {Γ : List Str} {i : Nat}, lastIdx y Γ = some i → i < Γ.length
  | [], i, h => by simp [lastIdx] at h
  | z :: Γ, i, h => by
    simp only [lastIdx] at h
    split at h
    · rename_i j hj; cases h; have := zDA hj; simp; omega
    · split at h
      · cases h; simp
      · first | exact zAA h | exact ff_tt h | cases h
theorem zBw {y : Str} : ∀ {Γ : List Str} {i : Nat}, lastIdx y Γ = some i → y ∈ Γ
  | [], i, h => by simp [lastIdx] at h
  | z :: Γ, i, h => by
    simp only [lastIdx] at h
    split at h
    · rename_i j hj; exact List.mem_cons_of_mem _ (zBw hj)
    · split at h
      · rename_i e; rw [eq_of_beq e]; exact List.mem_cons_self
      · first | exact zAA h | exact ff_tt h | cases h
structure CompOk (Γ : List Str) (sc scope : Scope) (x : Str) : Prop where
  kind : scope.kind = .function
  self : scope.names.lookup x = some .local
  cell : ∀ p ∈ scope.names, p.2 ≠ .cell
  loc : ∀ p ∈ scope.names, p.2 = .local → (p.1 = x ∨ p.1 ∉ Γ) ∧ scope.names.lookup p.1 = some .local
  free : ∀ p ∈ scope.names, p.2 = .free → sc.names.lookup p.1 = some .cell ∨ sc.names.lookup p.1 = some .free
theorem compOk_of {scope : Scope} {x : Str} (h : compOk Γ sc scope x = true) : CompOk Γ sc scope x := by
  unfold compOk at h
  simp only [Bool.and_eq_true, List.all_eq_true, Bool.not_eq_true'] at h
  obtain ⟨⟨⟨⟨h1, h2⟩, h3⟩, h4⟩, h5⟩ := h
  refine ⟨eq_of_beq h1, eq_of_beq h2, fun p hp e => ?_, fun p hp e => ?_, fun p hp e => ?_⟩
  · have := h5 p hp
    rw [e] at this; cases this
  · have := h5 p hp
    rw [e] at this
    simp only [Bool.and_eq_true, Bool.or_eq_true] at this
    refine ⟨this.1.elim (fun q => .inl (eq_of_beq q)) fun q => .inr ?_, eq_of_beq this.2⟩
    rw [eq_of_beq q]
    intro hm
    rw [List.contains_iff_mem.mpr hm] at h3
    cases h3
  · have := h5 p hp
    rw [e] at this
    simp only [Bool.or_eq_true] at this
    exact this.elim (fun q => .inl (eq_of_beq q)) fun q => .inr (eq_of_beq q)
theorem FR.cellKind {h : Heap} (fr : FR S X f h env Γ sc ρ) {y : Str} (hy : sc.names.lookup y = some .cell ∨ sc.names.lookup y = some .free) : isCellKind (env.kindOf y) := by
  rcases fr.names y with e | ⟨_, e⟩
  · rw [e]; exact hy
  · exact .inl e
theorem FR.comp {h : Heap} {scope : Scope} {x : Str} {cl : List (Str × Addr)} {D : Addr} {m : Str → Option Value} {v : V} {w : Value} (fr : FR S X f h env Γ sc ρ) (ok : CompOk Γ sc scope x)
    (hcl : ∀ y, (y, NameKind.free) ∈ scope.names → ∃ c, cl.lookup y = some c ∧ env.cells.lookup y = some c) (hD : D ∈ X) (hn : h.Ns D m) (hm : m x = some w) (r : VR S X f h v w) :
    FR S X f h (compEnvC scope cl D env) (Γ ++ [x]) scope (ρ ++ [v]) := by
  have names : ∀ y, (compEnvC scope cl D env).kindOf y = scope.names.lookup y ∨ (scope.names.lookup y = some .free ∧ (compEnvC scope cl D env).kindOf y = some .cell) := fun y => zBq y
  have freeOf : ∀ y, isCellKind ((compEnvC scope cl D env).kindOf y) → (y, NameKind.free) ∈ scope.names := fun y hy => by
    rcases names y with e | ⟨e, _⟩
    · rw [e] at hy
      rcases hy with e' | e'
      · exact absurd rfl (ok.cell _ (zAJ e'))
      · exact zAJ e'
    · exact zAJ e
  refine ⟨ok.kind, fr.glob, fr.blt, names, ⟨hD, m, hn⟩, fun y hy => ?_, fun y i v' hv hi hv' hne => ?_, by simp [fr.len]⟩
  · obtain ⟨c, e1, e2⟩ := hcl y (freeOf y hy)
    obtain ⟨c', o, e3, e4, e5⟩ := fr.cells y (fr.cellKind (ok.free _ (freeOf y hy) rfl))
    rw [e2] at e3; cases e3
    exact ⟨c, o, e1, e4, e5⟩
  · rw [zBt] at hi
    by_cases hxy : (x == y) = true
    · rw [if_pos hxy] at hi
      cases hi
      have e := eq_of_beq hxy
      subst e
      rw [← fr.len, List.getElem?_append_right (Nat.le_refl _)] at hv'
      simp at hv'
      subst hv'
      refine ⟨w, .inl ⟨?_, m, hn, hm⟩, r⟩
      rcases names x with e | ⟨e, _⟩
      · exact e.trans ok.self
      · rw [ok.self] at e; cases e
    · rw [if_neg hxy] at hi
      have hlt := zDA hi
      rw [List.getElem?_append_left (by rw [fr.len]; exact hlt)] at hv'
      have hfree : (y, NameKind.free) ∈ scope.names := by
        unfold isVar at hv
        split at hv
        · rename_i e
          rcases (ok.loc _ (zAJ e) rfl).1 with e' | e'
          · exact absurd (by rw [show x = y from e'.symm]; simp) hxy
          · exact absurd (zBw hi) e'
        · rename_i e; exact absurd rfl (ok.cell _ (zAJ e))
        · rename_i e; exact zAJ e
        · first | exact zAA hv | exact ff_tt hv | cases hv
      have hsc := ok.free _ hfree rfl
      have hv2 : isVar sc y = true := by
        unfold isVar
        rcases hsc with e | e <;> simp only at e <;> rw [e]
      obtain ⟨w', n, r'⟩ := fr.vals y i v' hv2 hi hv' hne
      obtain ⟨c, e1, e2⟩ := hcl y hfree
      refine ⟨w', .inr ⟨?_, c, e1, ?_⟩, r'⟩
      · rcases names y with e | ⟨_, e⟩
        · rw [e]
          unfold isVar at hv
          split at hv
          · rename_i e'
            rcases (ok.loc _ (zAJ e') rfl).1 with e'' | e''
            · exact absurd (by rw [show x = y from e''.symm]; simp) hxy
            · exact absurd (zBw hi) e''
          · rename_i e'; exact .inl e'
          · rename_i e'; exact .inr e'
          · first | exact zAA hv | exact ff_tt hv | cases hv
        · exact .inl e
      · rcases n with ⟨k1, _⟩ | ⟨_, c', e3, e4⟩
        · have := fr.cellKind hsc
          rw [k1] at this
          rcases this with h | h <;> cases h
        · rw [e2] at e3; cases e3; exact e4
theorem FR.keepY (fr : FR S X f s.heap env Γ sc ρ) (hXf : ∀ a ∈ X, a ∉ addrs f) (k : Kp f Y s s') (hg : Fresh g s) (hYX : ∀ a ∈ Y, a ∈ X) (hl : env.locals ∉ Y) (hc : ∀ x c, isCellKind (env.kindOf x) → env.cells.lookup x = some c → c ∉ Y) : FR S X (f ++ g) s'.heap env Γ sc ρ := by
  have hcf : ∀ x c, env.cells.lookup x = some c → isCellKind (env.kindOf x) → c ∉ addrs f := fun x c e hk => by
    obtain ⟨c', o, e', hX, _⟩ := fr.cells x hk
    rw [e] at e'; cases e'
    exact hXf c hX
  refine ⟨fr.kind, fr.glob, fr.blt, fr.names, ⟨fr.loc.1, let ⟨m, h⟩ := fr.loc.2; ⟨m, kp_ns k (hXf _ fr.loc.1) hl h⟩⟩, fun x hx => ?_, fun x i v h1 h2 h3 h4 => ?_, fr.len⟩
  · obtain ⟨c, o, e, hX, h⟩ := fr.cells x hx
    exact ⟨c, o, e, hX, kp_cell k (hcf x c e hx) (hc x c hx e) h⟩
  · obtain ⟨w, h5, h6⟩ := fr.vals x i v h1 h2 h3 h4
    exact ⟨w, h5.keep k ⟨hXf _ fr.loc.1, hl⟩ fun x c e hk => ⟨hcf x c e hk, hc x c hk e⟩, h6.keepK k hg hYX⟩
inductive QC {α β : Type} (S : Stat) (X Y : List Addr) (f : List Loc) (P : α → β → List Loc → Shared → Prop) (s : Shared) (b : β) (σ' : Sto) (a : α) (s' : Shared) : Prop
  | mk (g : List Loc) (hg : Fresh g s) (k : Kp f Y s s') (L : Lk S X (f ++ g) σ' s'.heap) (p : P a b (f ++ g) s')
inductive Calm {α β γ : Type} (S : Stat) (A : Around) (X Y : List Addr) (f : List Loc) (P : α → β → List Loc → Shared → Prop) (t : Sem α) (r : R β) (rk : β → Sto → R γ) (s : Shared) : Prop
  | mk (b : β) (σ' : Sto) (e : r = .ok b σ') (ek : r.calm.bind rk = rk b σ') (hne : rk b σ' ≠ .stuck) (w : ∀ E, wpAny (model S.prog S.w) A t (QC S X Y f P s b σ') E s)
theorem Sim.calm {α β γ : Type} {P : α → β → List Loc → Shared → Prop} {t : Sem α} {r : R β} {rk : β → Sto → R γ} (h : Sim S A X Y f P t r s) (hne : r.calm.bind rk ≠ .stuck) :
    Calm S A X Y f P t r rk s := by
  cases r with
  | ok b σ' =>
    refine ⟨b, σ', rfl, rfl, hne, fun E => wpAny_mono (h (by simp)) (fun a s' q => ?_) fun e s' q => ?_⟩
    · obtain ⟨b', σ'', g, e, hg, k, L, p⟩ := q
      cases e
      exact ⟨g, hg, k, L, p⟩
    · obtain ⟨_, _, _, _, _, e, _⟩ := q; cases e
  | exc _ _ => exact absurd rfl hne
  | stuck => exact absurd rfl hne
end
end Mine
end

/-! # CompS3 -/
section
set_option autoImplicit false
namespace Mine
open PySem PyProof.Rows
section
variable {S : Stat} {C : Ctx} {T : Nat → Option Fn} {F : Calls} {q : Bool} {d : Nat} {Γ : List Str} {sc : Scope}
variable {X X' Y Z : List Addr} {f g : List Loc} {σ : Sto} {s s' : Shared} {A : Around} {E : Value → Shared → Prop} {I a : Addr} {its : Items} {i : Nat} {env : Env} {ρ : List V}
theorem FR.later (fr : FR S X f s.heap env Γ sc ρ) (L : Lk S X f σ s.heap) (k : Kp f [] s s') (hg : Fresh g s) (hX' : ∀ a ∈ X', a ∈ X ∨ s.heap.get? a = none) (hXX : ∀ a ∈ X, a ∈ X') : FR S X' (f ++ g) s'.heap env Γ sc ρ := by
  have fr' : FR S X' f s.heap env Γ sc ρ := ⟨fr.kind, fr.glob, fr.blt, fr.names, ⟨hXX _ fr.loc.1, fr.loc.2⟩, fun x hx => (by obtain ⟨c, o, e, hX, h⟩ := fr.cells x hx; exact ⟨c, o, e, hXX c hX, h⟩),
    fun x i v h1 h2 h3 h4 => (by obtain ⟨w, h5, h6⟩ := fr.vals x i v h1 h2 h3 h4; exact ⟨w, h5, h6.more hX'⟩), fr.len⟩
  exact fr'.keepY (fun a ha => (hX' a ha).elim (fun h => (L.hid a h).2.1) fun h => (L.new h).1) k hg (fun a h => nomatch h) (fun h => nomatch h) fun _ _ _ _ h => nomatch h
theorem iter_self {Q : Value → Shared → Prop} (x : ItAt S X f s.heap I its i) (h : Q (.ref I) s) : wpAny (model S.prog S.w) A (pyIter (.ref I)) Q E s := by
  cases its with
  | now xs =>
    rcases x with ⟨ax, items, n, h1, h2, h3, h4⟩ | ⟨ax, items, n, h1, h2, h3, h4⟩ | ⟨lo, hi, rfl, h2⟩ | ⟨y, t, rfl, h2, h3⟩
    · exact wpAny_pyIter_listiter h1 h
    · exact wpAny_pyIter_tupleiter h1 h
    · exact wpAny_pyIter_rangeiter h2 h
    · exact wpAny_pyIter_striter_ascii h3 h
  | live n => obtain ⟨ax, h1, h2⟩ := x; exact wpAny_pyIter_listiter h2 h
  | keys _ _ => exact x.elim
theorem Kp.mv {s₁ : Shared} (k : Kp f Y s s₁) (m : Mv a s₁ s') (hn : s.heap.get? a = none) : Kp f Y s s' :=
  k.ends (Z := [a]) m.rest (fun b o hb e => m.keep b o (fun q => hb (q ▸ List.mem_singleton.mpr rfl)) e) fun b hb => List.mem_singleton.mp hb ▸ hn
noncomputable def compStep (F : Calls) (q : Bool) (elt : CE) (cond : Option CE) (ρ : List V) (x : V) (acc : List V) (σ : Sto) : R (List V) :=
  (evC F q cond (ρ ++ [x]) σ).calm.bind fun t σ => if t then (evE F q elt (ρ ++ [x]) σ).calm.bind fun y σ => (if acc.length < LIM then .ok (acc ++ [y]) σ else .stuck) else .ok acc σ
structure Turn (S : Stat) (s : Shared) (X : List Addr) (f : List Loc) (N D I : Addr) (its : Items) (i : Nat) (acc : List V) (σ' : Sto) (g : List Loc) (m : Str → Option Value) (ys : Array Value) (n : Nat) (s' : Shared) : Prop where
  fresh : Fresh g s
  kp : Kp f [] s s'
  lk : Lk S (N :: D :: I :: X) (f ++ g) σ' s'.heap
  it : ItAt S (N :: D :: I :: X) (f ++ g) s'.heap I its i
  ns : s'.heap.Ns N m
  il : IsL s'.heap D ys n
  vs : VRs S (N :: D :: I :: X) (f ++ g) s'.heap acc ys.toList
  len : acc.length ≤ LIM
theorem all3 {N D I : Addr} {X : List Addr} {P : Addr → Prop} (hN : P N) (hD : P D) (hI : P I) (h : ∀ a ∈ X, P a) : ∀ a ∈ N :: D :: I :: X, P a
  | _, .head _ => hN
  | _, .tail _ (.head _) => hD
  | _, .tail _ (.tail _ (.head _)) => hI
  | a, .tail _ (.tail _ (.tail _ m)) => h a m
theorem all2 {N D : Addr} {X : List Addr} {P : Addr → Prop} (hN : P N) (hD : P D) (h : ∀ a ∈ X, P a) : ∀ a ∈ N :: D :: X, P a
  | _, .head _ => hN
  | _, .tail _ (.head _) => hD
  | a, .tail _ (.tail _ m) => h a m
inductive CLoop (S : Stat) (s : Shared) (X : List Addr) (f : List Loc) (N D I : Addr) (its : Items) (g : V → List V → Sto → R (List V)) (total : R (List V)) (k : Nat) (s' : Shared) : Prop
  | mk (i : Nat) (acc : List V) (σ' : Sto) (l : List Loc) (m : Str → Option Value) (ys : Array Value) (n : Nat) (hf : foldIt its g k i acc σ' = total) (t : Turn S s X f N D I its i acc σ' l m ys n s') : CLoop S s X f N D I its g total k s'
theorem comp_loop {scope : Scope} {x : Str} {px pos : Pos} {elt iter : Expr} {ifs : List Expr} {ce : CE} {cond : Option CE} {cl : List (Str × Addr)} {N D : Addr} {R' : Result → Shared → Prop} {s₄ : Shared}
    (st : St S q d Γ sc env ρ f X σ s A) (hh : A.handled = none) (ok : CompOk Γ sc scope x) (hcl : ∀ y, (y, NameKind.free) ∈ scope.names → ∃ c, cl.lookup y = some c ∧ env.cells.lookup y = some c)
    (hcond : (ifs = [] ∧ cond = none) ∨ ∃ e c, ifs = [e] ∧ cond = some c ∧ TOk S F q d (Γ ++ [x]) scope e c) (helt : EOk S F q d (Γ ++ [x]) scope elt ce)
    (hN : s.heap.get? N = none) (hD : s.heap.get? D = none) (hI : s.heap.get? I = none) (hND : N ≠ D) (hNI : N ≠ I) (hDI : D ≠ I)
    {total : R (List V)} (hne : total ≠ .stuck) {fuel : Nat} {acc₀ : List V} {σ₀ : Sto} (h0 : foldIt its (compStep F q ce cond ρ) fuel 0 acc₀ σ₀ = total) {g₀ : List Loc} {m₀ : Str → Option Value} {ys₀ : Array Value} {n₀ : Nat} (t0 : Turn S s X f N D I its 0 acc₀ σ₀ g₀ m₀ ys₀ n₀ s₄)
    (hR : ∀ acc σ' g m ys n s', total = .ok acc σ' → Fresh g s → Kp f [] s s' → Lk S (N :: D :: X) (f ++ g) σ' s'.heap → s'.heap.Ns N m → IsL s'.heap D ys n → VRs S (N :: D :: X) (f ++ g) s'.heap acc ys.toList → acc.length ≤ LIM → R' (.ok .next) s') :
    codeAny (model S.prog S.w) A (.compLoop (.ListComp elt [⟨.Name x px, iter, ifs, 0⟩] scope pos) 0 (.ref I) (.ref D) (compEnvC scope cl N env)) R' s₄ := by
  refine codeAny_compLoop_tests (CLoop S s X f N D I its (compStep F q ce cond ρ) total) ?_ fuel (.mk 0 acc₀ σ₀ g₀ m₀ ys₀ n₀ h0 t0)
  rintro k s' ⟨i, acc, σ', g, m, ys, n, hf, t⟩
  cases k with
  | zero => rw [foldIt_zero] at hf; exact absurd hf.symm hne
  | succ k =>
  rw [foldIt_succ] at hf
  have hIX : I ∈ N :: D :: I :: X := .tail _ (.tail _ (.head _))
  have hNX : N ∈ N :: D :: I :: X := .head _
  have hDX : D ∈ N :: D :: I :: X := .tail _ (.head _)
  cases hnx : nextIt σ' its i with
  | none => rw [hnx] at hf; exact absurd hf.symm hne
  | some o =>
  rw [hnx] at hf
  cases o with
  | none =>
    refine wpAny_mono (next_end hh t.lk t.it hnx) (fun r s₁ h₁ => ?_) fun _ _ x => x
    obtain ⟨rfl, hr, hk⟩ := h₁
    have hk' : ∀ b o, b ∉ [I] → s'.heap.get? b = some o → s₁.heap.get? b = some o := fun b o hb e => hk b o (fun q => hb (q ▸ List.mem_singleton.mpr rfl)) e
    obtain ⟨on, es, ep, e1, e2⟩ := t.ns
    have hXd : ∀ a ∈ N :: D :: X, a ∈ N :: D :: I :: X := all2 hNX hDX fun a ha => .tail _ (.tail _ (.tail _ ha))
    have hIn : ∀ a ∈ N :: D :: X, a ∉ [I] := all2 (fun h => hNI (List.mem_singleton.mp h)) (fun h => hDI (List.mem_singleton.mp h)) fun a ha h => (List.mem_singleton.mp h ▸ st.lk.hid a ha).2.2.elim fun o e => nomatch hI.symm.trans e
    have hf : R.ok acc σ' = total := hf
    refine hR acc σ' g m ys n s₁ hf.symm t.fresh (t.kp.ends (Z := [I]) hr hk' fun b hb => List.mem_singleton.mp hb ▸ hI) (t.lk.drop (Z := [I]) (fun a ha => ⟨hXd a ha, hIn a ha⟩) (fun a ha => List.mem_singleton.mp ha ▸ hIX) hk') ⟨on, es, ep, hk N on hNI e1, e2⟩ (hk D _ hDI t.il) (VRs.drop (Z := [I]) hXd (fun a ha => List.mem_singleton.mp ha ▸ hIX) hk' t.vs) t.len
  | some x' =>
  have hf : (compStep F q ce cond ρ x' acc σ').bind (fun b σ => foldIt its (compStep F q ce cond ρ) k (i + 1) b σ) = total := hf
  refine wpAny_mono (next_item hIX t.lk t.it hnx) (fun r s₁ h₁ => ?_) fun _ _ x => x
  obtain ⟨v, rfl, m1, it1, rv⟩ := h₁
  obtain ⟨on, es, ep, e1, e2⟩ := t.ns
  have ns1 : s₁.heap.Ns N m := ⟨on, es, ep, m1.keep N on hNI e1, e2⟩
  have hxk : (compEnvC scope cl N env).kindOf x = some .local := by
    rcases zBq (env := env) (scope := scope) x with e | ⟨e, _⟩
    · exact e.trans ok.self
    · rw [ok.self] at e; cases e
  refine wpAny_assign_Name (wpAny_storeName_local hxk ns1 (fun h₂ hn₂ hs₂ => ?_) (by simp [compEnvC, relabel, ok.kind]))
  have m2 : Mv N s₁ { s₁ with heap := h₂, toks := s₁.toks + 1 } := by
    obtain ⟨o2, es2, ep2, e3, e4, _⟩ := id hn₂
    exact ⟨rfl, fun b o hb e => (hs₂.2 b hb).trans e, ⟨o2, e3⟩, fun _ _ _ _ _ => ⟨o2, es2, ep2, e3, e4⟩⟩
  generalize hs₂' : ({ s₁ with heap := h₂, toks := s₁.toks + 1 } : Shared) = s₂ at m2 ⊢
  have hh₂ : s₂.heap = h₂ := by rw [← hs₂']
  rw [← hh₂] at hn₂
  have lk2 := m2.lk hNX (m1.lk hIX t.lk)
  have it2 := it1.mv m2 hNX (Ne.symm hNI)
  have kp2 : Kp f [] s s₂ := (t.kp.mv m1 hI).mv m2 hN
  have hX' : ∀ a ∈ N :: D :: I :: X, a ∈ X ∨ s.heap.get? a = none := all3 (.inr hN) (.inr hD) (.inr hI) fun a ha => .inl ha
  have fr2 := (st.fr.later st.lk kp2 t.fresh hX' fun a ha => .tail _ (.tail _ (.tail _ ha))).comp ok hcl hNX hn₂ (by simp) (m2.vr hNX rv)
  have cx2 : Cx S A q d (f ++ g) s₂.heap env.frame := st.cx.keep kp2 t.fresh
  have st2 : St S q d (Γ ++ [x]) scope (compEnvC scope cl N env) (ρ ++ [x']) (f ++ g) (N :: D :: I :: X) σ' s₂ A := ⟨cx2, fr2, lk2⟩
  have il2 : IsL s₂.heap D ys n := m2.keep D _ (Ne.symm hND) (m1.keep D _ hDI t.il)
  have vs2 := m2.vrs hNX (m1.vrs hIX t.vs)
  have hns : compStep F q ce cond ρ x' acc σ' ≠ .stuck := fun e => hne (by rw [← hf, e]; rfl)
  have tests : Sim S A (N :: D :: I :: X) [] (f ++ g) (fun b t _ _ => b = t) (forIn ifs true fun c r => if r = true then do let ok ← isTrue c (compEnvC scope cl N env) (eval c (compEnvC scope cl N env)); pure (ForInStep.yield ok) else pure (ForInStep.yield r)) (evC F q cond (ρ ++ [x']) σ') s₂ := by
    rcases hcond with ⟨rfl, rfl⟩ | ⟨e, c, rfl, rfl, ht⟩
    · intro _
      rw [x_cnone]
      exact wpAny_tests_nil (QS.bool lk2 (.refl s₂))
    · intro hn
      rw [x_csome] at hn ⊢
      exact wpAny_tests_one (ht _ _ _ _ _ _ _ st2 hn)
  unfold compStep at hns hf
  obtain ⟨b, σ₃, hb, hbk, hns2, wt⟩ := Sim.calm tests hns
  rw [hbk] at hf
  refine wpAny_mono (wt _) (fun ok' s₃ h₃ => ?_) fun _ _ x => x
  obtain ⟨g3, hg3, k3, lk3, hbe⟩ := h₃
  have hbe : ok' = b := hbe
  subst hbe
  have hXf : ∀ a ∈ N :: D :: I :: X, a ∉ addrs (f ++ g) := fun a ha => (lk2.hid a ha).2.1
  have it3 := it2.keepK k3 hg3 hIX hXf
  have kp3 : Kp f [] s s₃ := kp2.trans t.fresh k3
  have fg3 : Fresh (g ++ g3) s := t.fresh.trans kp2.live hg3
  have keepO : ∀ {s s' : Shared} {f : List Loc} {a : Addr} {o : Obj}, Kp f [] s s' → a ∉ addrs f → (∀ es n, o.data ≠ .dict es n) → s.heap.get? a = some o → s'.heap.get? a = some o := fun k h1 h2 e => by
    obtain ⟨o', e', q⟩ := k.kept _ _ e h1 (fun h => nomatch h)
    rw [e', q.exact h2]
  have il3 : IsL s₃.heap D ys n := keepO k3 (hXf D hDX) (fun _ _ h => by cases h) il2
  have ns3 := kp_ns k3 (hXf N hNX) (fun h => nomatch h) hn₂
  have vs3 := VRs.keepK k3 hg3 (fun _ h => nomatch h) vs2
  rw [List.append_assoc] at lk3 it3 vs3
  cases ok' with
  | false => exact ⟨k, Nat.lt_succ_self k, .mk (i + 1) acc σ₃ (g ++ g3) _ ys n hf ⟨fg3, kp3, lk3, it3, ns3, il3, vs3, t.len⟩⟩
  | true =>
    have hns2 : ((evE F q ce (ρ ++ [x']) σ₃).calm.bind fun y σ => (if acc.length < LIM then R.ok (acc ++ [y]) σ else .stuck)) ≠ .stuck := hns2
    have hf : (((evE F q ce (ρ ++ [x']) σ₃).calm.bind fun y σ => (if acc.length < LIM then R.ok (acc ++ [y]) σ else .stuck)).bind fun b σ => foldIt its (compStep F q ce cond ρ) k (i + 1) b σ) = total := hf
    have st3 : St S q d (Γ ++ [x]) scope (compEnvC scope cl N env) (ρ ++ [x']) ((f ++ g) ++ g3) (N :: D :: I :: X) σ₃ s₃ A := st2.keep hg3 k3 (by rw [List.append_assoc]; exact lk3)
    rw [List.append_assoc] at st3
    obtain ⟨y, σ₄, hy, hyk, hns3, we⟩ := Sim.calm (helt _ _ _ _ _ _ _ st3) hns2
    rw [hyk] at hf
    by_cases hlen : acc.length < LIM
    · rw [if_pos hlen] at hf
      show wpAny _ _ _ _ _ _
      refine wpAny_mono (we _) (fun yv s₄' h₄ => ?_) fun _ _ x => x
      obtain ⟨g4, hg4, k4, lk4, ry⟩ := h₄
      have ry : VR S (N :: D :: I :: X) ((f ++ (g ++ g3)) ++ g4) s₄'.heap y yv := ry
      have hXf3 : ∀ a ∈ N :: D :: I :: X, a ∉ addrs (f ++ (g ++ g3)) := fun a ha => (lk3.hid a ha).2.1
      have it4 := it3.keepK k4 hg4 hIX hXf3
      have kp4 : Kp f [] s s₄' := kp3.trans fg3 k4
      have fg4 : Fresh ((g ++ g3) ++ g4) s := fg3.trans kp3.live hg4
      have il4 : IsL s₄'.heap D ys n := keepO k4 (hXf3 D hDX) (fun _ _ h => by cases h) il3
      have ns4 := kp_ns k4 (hXf3 N hNX) (fun h => nomatch h) ns3
      have vs4 := VRs.keepK k4 hg4 (fun _ h => nomatch h) vs3
      rw [List.append_assoc] at lk4 it4 vs4 ry
      have hsz : ys.size ≤ sizeLine := by rw [zAN vs4]; exact Nat.le_trans t.len zAo
      refine append_raw il4 ?_ hsz
      obtain ⟨n', il5⟩ := IsL.appended (x := yv) il4
      have m5 : Mv D s₄' { s₄' with heap := s₄'.heap.update D (Obj.mapSeq (·.push yv)) } :=
        ⟨rfl, fun b o hb e => (Heap.get?_update_other _ _ (Ne.symm hb)).trans e, ⟨_, il5⟩, fun o es n e dd => by rw [il4] at e; cases e; cases dd⟩
      obtain ⟨on4, es4, ep4, e5, e6⟩ := ns4
      refine ⟨k, Nat.lt_succ_self k, .mk (i + 1) (acc ++ [y]) σ₄ ((g ++ g3) ++ g4) _ (ys.push yv) n' hf ⟨fg4, kp4.mv m5 hD, m5.lk hDX lk4, it4.mv m5 hDX (Ne.symm hDI), ⟨on4, es4, ep4, m5.keep N on4 hND e5, e6⟩, il5, ?_, ?_⟩⟩
      · rw [Array.toList_push]
        exact zBB (m5.vrs hDX vs4) (by rw [VRs, VRs]; exact ⟨m5.vr hDX ry, trivial⟩)
      · rw [List.length_append]; exact hlen
    · rw [if_neg hlen] at hns3; exact absurd rfl hns3
end
end Mine
end

/-! # CompS4 -/
section
set_option autoImplicit false
namespace Mine
open PySem PyProof.Rows
section
variable {S : Stat} {C : Ctx} {T : Nat → Option Fn} {F : Calls} {q : Bool} {d : Nat} {Γ : List Str} {sc : Scope}
variable {X X' Y Z : List Addr} {f g : List Loc} {σ : Sto} {s s' : Shared} {A : Around} {E : Value → Shared → Prop} {I a : Addr} {its : Items} {i : Nat} {env : Env} {ρ : List V}
theorem comp_block {scope : Scope} {x : Str} {px pos : Pos} {elt iter : Expr} {ifs : List Expr} {ce : CE} {cond : Option CE} {cl : List (Str × Addr)} {RR : Value → Addr → Result → Shared → Prop} {s₂ : Shared} {σ₁ : Sto}
    (st : St S q d Γ sc env ρ f X σ s A) (hh : A.handled = none) (ok : CompOk Γ sc scope x) (hcl : ∀ y, (y, NameKind.free) ∈ scope.names → ∃ c, cl.lookup y = some c ∧ env.cells.lookup y = some c)
    (hcond : (ifs = [] ∧ cond = none) ∨ ∃ e c, ifs = [e] ∧ cond = some c ∧ TOk S F q d (Γ ++ [x]) scope e c) (helt : EOk S F q d (Γ ++ [x]) scope elt ce)
    (hI : s.heap.get? I = none) (hg : Fresh g s) (k : Kp f [] s s₂) (L : Lk S (I :: X) (f ++ g) σ₁ s₂.heap) (x0 : ItAt S (I :: X) (f ++ g) s₂.heap I its 0)
    (hne : foldItems its (compStep F q ce cond ρ) [] σ₁ ≠ .stuck)
    (hR : ∀ N D acc σ' g m ys n s', s.heap.get? N = none → s.heap.get? D = none → N ≠ D → foldItems its (compStep F q ce cond ρ) [] σ₁ = .ok acc σ' → Fresh g s → Kp f [] s s' → Lk S (N :: D :: X) (f ++ g) σ' s'.heap → s'.heap.Ns N m → IsL s'.heap D ys n → VRs S (N :: D :: X) (f ++ g) s'.heap acc ys.toList → acc.length ≤ LIM → RR (.ref D) N (.ok .next) s') :
    wpAny (model S.prog S.w) A (newList []) (fun acc s₃ => wpAny (model S.prog S.w) A (newFunctionEnv scope env.globals cl [] env.qual none .none (some env)) (fun cenv s₄ =>
      codeAny (model S.prog S.w) A (.compStart (.ListComp elt [⟨.Name x px, iter, ifs, 0⟩] scope pos) 0 (.ref I) acc { cenv with scope := relabel scope env }) (RR acc cenv.locals) s₄) E s₃) E s₂ := by
  refine wpAny_newObj_type (wpAny_newFunctionEnv ok.cell (by intro y hy; simp at hy) (fun h₁ hns₁ hsb₁ => ?_) ok.kind)
  dsimp only at hns₁ hsb₁ ⊢
  generalize hH2 : s₂.heap.push { cls := .type "list", dict := none, data := .seq ([] : List Value).toArray } = H2 at hns₁ hsb₁ ⊢
  have hsz : H2.objs.size = s₂.heap.objs.size + 1 := by rw [← hH2, Heap.size_push]
  have hND : H2.objs.size ≠ s₂.heap.objs.size := by rw [hsz]; omega
  have ex1 : Ext s₂ { s₂ with heap := H2 } := ⟨rfl, fun b o e => hH2 ▸ Heap.get?_push_of_some _ e⟩
  have nD : s₂.heap.get? s₂.heap.objs.size = none := zAn _
  have lD : H2.get? s₂.heap.objs.size = some { cls := .type "list", dict := none, data := .seq ([] : List Value).toArray } := hH2 ▸ Heap.get?_push_size _ rfl
  have nN : H2.get? H2.objs.size = none := zAn _
  have ex2 : Ext { s₂ with heap := H2 } { s₂ with heap := h₁, toks := s₂.toks + ([] : List (Str × Value)).length } := ⟨rfl, fun b o e => (hsb₁.2 b (fun q => by subst q; rw [nN] at e; cases e)).trans (Heap.get?_push_of_some _ e)⟩
  obtain ⟨oN, esN, epN, eN, _⟩ := id hns₁
  have L1 : Lk S (s₂.heap.objs.size :: I :: X) (f ++ g) σ₁ H2 := L.hideNew ex1 nD lD
  have it1 := x0.hideNew (s' := { s₂ with heap := H2 }) ex1 nD
  have L2 : Lk S (H2.objs.size :: s₂.heap.objs.size :: I :: X) (f ++ g) σ₁ h₁ := Lk.hideNew (s := { s₂ with heap := H2 }) (s' := { s₂ with heap := h₁, toks := s₂.toks + ([] : List (Str × Value)).length }) L1 ex2 nN eN
  have it2 := ItAt.hideNew (s := { s₂ with heap := H2 }) (s' := { s₂ with heap := h₁, toks := s₂.toks + ([] : List (Str × Value)).length }) ex2 nN it1
  have k2 : Kp f [] s { s₂ with heap := h₁, toks := s₂.toks + ([] : List (Str × Value)).length } := k.trans hg ((ex1.trans ex2).kp _ _)
  have hD : s.heap.get? s₂.heap.objs.size = none := zAc k.live nD
  have hN : s.heap.get? H2.objs.size = none := zAc k.live (Heap.get?_none_of_le (by rw [hsz]; omega))
  have lI : ∃ o, s₂.heap.get? I = some o := (L.hid I (by simp)).2.2
  have hDI : s₂.heap.objs.size ≠ I := fun q => by obtain ⟨o, e⟩ := lI; rw [← q, nD] at e; cases e
  have hNI : H2.objs.size ≠ I := fun q => by obtain ⟨o, e⟩ := lI; rw [← q, Heap.get?_none_of_le (by rw [hsz]; omega)] at e; cases e
  have turn : Turn S s X f H2.objs.size s₂.heap.objs.size I its 0 [] σ₁ g (fun x => ([] : List (Str × Value)).reverse.lookup x) #[] 0 { s₂ with heap := h₁, toks := s₂.toks + ([] : List (Str × Value)).length } :=
    ⟨hg, k2, L2, it2, hns₁, ex2.keep _ _ lD, (by show VRs S _ _ h₁ [] []; rw [VRs]; trivial), by simp⟩
  have loop : codeAny (model S.prog S.w) A (.compLoop (.ListComp elt [⟨.Name x px, iter, ifs, 0⟩] scope pos) 0 (.ref I) (.ref s₂.heap.objs.size) (compEnvC scope cl H2.objs.size env)) (RR (.ref s₂.heap.objs.size) H2.objs.size) { s₂ with heap := h₁, toks := s₂.toks + ([] : List (Str × Value)).length } :=
    comp_loop st hh ok hcl hcond helt hN hD hI hND hNI hDI hne rfl turn fun acc σ' g m ys n s' e1 e2 e3 e4 e5 e6 e7 e8 => hR _ _ acc σ' g m ys n s' hN hD hND e1 e2 e3 e4 e5 e6 e7 e8
  exact codeAny_compStart_list loop (iter_self it2 loop)
theorem FR.closure {scope : Scope} {x : Str} {h : Heap} (fr : FR S X f h env Γ sc ρ) (ok : CompOk Γ sc scope x) : ∃ cl, closureFor scope env = pure cl ∧ ∀ y, (y, NameKind.free) ∈ scope.names → ∃ c, cl.lookup y = some c ∧ env.cells.lookup y = some c :=
  closure_of fun n hn => by
    obtain ⟨c, o, e, _⟩ := fr.cells n (fr.cellKind (ok.free _ hn rfl))
    exact ⟨c, e⟩
theorem zDG {elt : CE} {k : SK} {cs : List CE} {cond : Option CE} (hq : q = false) : evE F q (.comp elt k cs cond) ρ σ = ((evL F q cs ρ σ).bind fun vs σ => R.lift σ (itemsBy σ k vs)).bind fun its σ => (foldItems its (compStep F q elt cond ρ) [] σ).bind fun acc σ => .ok (.lst acc) σ := by
  subst hq
  rw [x_comp, if_neg (by simp), R.bind_assoc]
  rfl
theorem ok_comp {scope : Scope} {x : Str} {px pos : Pos} {elt iter : Expr} {ifs : List Expr} {ce : CE} {cond : Option CE} {k : SK} {cs : List CE} (ok : CompOk Γ sc scope x) (hsrc : SrcOk S F q d Γ sc iter k cs)
    (hcond : (ifs = [] ∧ cond = none) ∨ ∃ e c, ifs = [e] ∧ cond = some c ∧ TOk S F q d (Γ ++ [x]) scope e c) (helt : EOk S F q d (Γ ++ [x]) scope elt ce) :
    NOk S F q d Γ sc (.ListComp elt [⟨.Name x px, iter, ifs, 0⟩] scope pos) (.comp ce k cs cond) := fun env ρ f X σ s A st hne => by
  have hq : q = false := by
    cases q with
    | false => rfl
    | true => rw [x_comp] at hne; exact absurd rfl hne
  rw [zDG hq] at hne ⊢
  obtain ⟨cl, hclos, hcl⟩ := st.fr.closure ok
  rw [eval_ListComp]
  refine wpAny_comprehension_free (g := ⟨.Name x px, iter, ifs, 0⟩) (gs := []) rfl (hsrc.1 env) hclos ok.kind (fun p hp e => (ok.loc p hp e).2) ?_
  have hr : ((evL F q cs ρ σ).bind fun vs σ => R.lift σ (itemsBy σ k vs)) ≠ .stuck := fun e => hne (by rw [e]; rfl)
  refine wpAny_mono (hsrc.2 env ρ f X σ s A st hr) (fun xv s₁ h₁ => wpAny_mono h₁ (fun it s₂ h₂ => ?_) fun e s' h => ?_) fun e s' h => ?_
  · obtain ⟨its, σ₁, g, I, e1, rfl, hI, hIX, hg, kk, L, x0⟩ := h₂
    rw [e1, R.bind_ok] at hne ⊢
    have hne2 : foldItems its (compStep F q ce cond ρ) [] σ₁ ≠ .stuck := fun e => hne (by rw [e]; rfl)
    refine comp_block st (st.cx.hand hq) ok hcl hcond helt hI hg kk L x0 hne2 fun N D acc σ' g' m ys n s' hN hD hND e2 hg' k' L' hns il vs hlen => ?_
    rw [e2]
    refine ⟨m, hns, fun h' hs => ?_⟩
    have hkk : ∀ b o, b ∉ [N] → s'.heap.get? b = some o → h'.get? b = some o := fun b o hb e => (hs.2 b (fun q => hb (q ▸ List.mem_singleton.mpr rfl))).trans e
    have hNX : N ∉ X := (st.lk.new hN).2
    have hDX : D ∉ X := (st.lk.new hD).2
    have LD : Lk S (D :: X) (f ++ g') σ' h' := L'.drop (Z := [N]) (fun a ha => ⟨List.mem_cons_of_mem _ ha, fun h => by
      have := List.mem_singleton.mp h
      subst this
      exact (List.mem_cons.mp ha).elim hND hNX⟩) (fun a ha => List.mem_singleton.mp ha ▸ List.mem_cons_self) hkk
    have vD : VRs S (D :: X) (f ++ g') h' acc ys.toList := VRs.drop (Z := [N]) (fun a ha => List.mem_cons_of_mem _ ha) (fun a ha => List.mem_singleton.mp ha ▸ List.mem_cons_self) hkk vs
    have iD : IsL h' D ys n := (hs.2 D (Ne.symm hND)).trans il
    refine ⟨.lst acc, σ', g', rfl, hg', k'.ends (Z := [N]) rfl hkk (fun b hb => List.mem_singleton.mp hb ▸ hN), LD.less fun a ha => List.mem_cons_of_mem _ ha, ?_, fun xs hxs => ?_⟩
    · rw [VR]
      exact ⟨D, ys, n, rfl, ⟨(LD.hid D List.mem_cons_self).2.1, hDX⟩, iD, vD.less fun a ha => List.mem_cons_of_mem _ ha, hlen⟩
    · cases hxs
      exact ⟨D, ys, n, rfl, hD, hDX, LD, iD, vD, hlen⟩
  · obtain ⟨c, σ', g, ea, e1, e2, hgE, kE, LE, xE⟩ := h
    exact ⟨c, σ', g, ea, e1, by rw [e2]; rfl, hgE, kE, LE, xE⟩
  · obtain ⟨c, σ', g, ea, e1, e2, hgE, kE, LE, xE⟩ := h
    exact ⟨c, σ', g, ea, e1, by rw [e2]; rfl, hgE, kE, LE, xE⟩
end
end Mine
end

/-! # Expr6 -/
section
set_option autoImplicit false
namespace Mine
open PySem PyProof.Rows
section
variable {S : Stat} {C : Ctx} {T : Nat → Option Fn} {F : Calls} {q : Bool} {d : Nat} {Γ : List Str} {sc : Scope}
variable {X X' Y Z : List Addr} {f g : List Loc} {σ : Sto} {s s' : Shared} {A : Around} {E : Value → Shared → Prop} {env : Env} {ρ : List V}
theorem few1 {e : Expr} {pos : Pos} (hs : isStar e = false) : ((backTo pos (starEach [e] env)).all (fun x => !x.1) && (backToKw pos (keywordEach [] env)).all (fun x => x.1.isSome)
      && decide ([e].length + ([] : List Keyword).length + (if ([] : List Keyword).isEmpty then 0 else 1) < 30)) = true := by
  rw [zAR hs]; rfl
theorem upd_list {n : Nat} {ax : Addr} {xs : List V} {vs : Array Value} {k : Nat} {fn : Array Value → Array Value} (L : Lk S X f σ s.heap) (hn : f[n]? = some (ax, none)) (il : IsL s.heap ax vs k) (rs : VRs S X f s.heap xs (fn vs).toList) (hl : xs.length ≤ LIM) :
    Lk S X f (σ.set n (.list xs)) (s.heap.update ax (Obj.mapSeq fn)) ∧ Kp f [] s { s with heap := s.heap.update ax (Obj.mapSeq fn) } := by
  have hs : ∀ b o, b ∉ Loc.addrs (ax, none) → s.heap.get? b = some o → (s.heap.update ax (Obj.mapSeq fn)).get? b = some o := fun b o hb e => (Heap.get?_update_other s.heap (Obj.mapSeq fn) (fun q : ax = b => hb (by rw [q]; exact List.mem_singleton.mpr rfl))).trans e
  have il' := IsL.update il fn
  have hax : ax ∈ addrs f := zAb hn (List.mem_singleton.mpr rfl)
  refine ⟨L.upd hn hs ⟨_, _, il', ?_, hl⟩, Kp.upd (t := s.toks) hn hs fun a ha => ⟨_, by have := List.mem_singleton.mp ha; subst this; exact il'⟩⟩
  exact VRs.keep (fun _ _ e => e) (fun b ob q h1 h2 => ⟨⟨h1, h2⟩, ob, hs b ob (fun z => h1 (List.mem_singleton.mp z ▸ hax)) q, .refl ob⟩) _ _ rs
inductive Tracked (S : Stat) (X : List Addr) (f : List Loc) (h : Heap) (xs : List V) (n : Nat) (v : Value) : Prop
  | mk (ax : Addr) (vs : Array Value) (k : Nat) (e : v = .ref ax) (hf : f[n]? = some (ax, none)) (i : IsL h ax vs k) (p : VRs S X f h xs vs.toList) (hl : xs.length ≤ LIM)
theorem zDL {n : Nat} {v : Value} {xs : List V} (L : Lk S X f σ s.heap) (r : VR S X f s.heap (.ref n) v) (ho : σ[n]? = some (.list xs)) : Tracked S X f s.heap xs n v := by
  rw [VR] at r
  obtain ⟨⟨ax, dd⟩, hl, rfl⟩ := r
  have := L.obj n _ _ hl ho
  cases dd with
  | none => obtain ⟨vs, k, il, rs, h⟩ := this; exact ⟨ax, vs, k, rfl, hl, il, rs, h⟩
  | some dd => exact this.elim
theorem ok_append {o x : Expr} {a b : CE} {apos pos : Pos} (hb : noSuper o = true) (hp : (apos.endLine == pos.line) = true) (hs : isStar x = false) (ho : EOk S F q d Γ sc o a) (hx : EOk S F q d Γ sc x b) :
    EOk S F q d Γ sc (.Call (.Attribute o ("append" : Str) apos) [x] [] pos) (.append a b) := fun env ρ f X σ s A st hne => by
  rw [x_append] at hne ⊢
  refine wpAny_Call_method (zBo hb) (few1 hs) hp PySem.F.plainAttrs_list slot_list_append type_list_append ?_
  refine Sim.goQ (P' := PV S X) (ho env ρ f X σ s A st) hne (fun _ _ x => x) (fun _ _ x => x) fun va a' σ₁ g₁ s₁ hne hg k L ra hQ hE => ?_
  by_cases hil : isListV σ₁ a' = true
  · rw [if_pos hil] at hne hQ hE
    obtain ⟨xs₁, hxs₁⟩ := Option.isSome_iff_exists.mp hil
    obtain ⟨p, vs, n, rfl, il, rs, hlen⟩ := zAg L hxs₁ ra
    refine ⟨⟨_, il, rfl⟩, fun b hb => ⟨_, by cases hb; exact il, rfl⟩, ?_⟩
    rw [zAR hs]
    show wpAny _ _ (callWith pos (.builtin "list.append") [.ref p] [(false, eval x env)] []) _ _ _
    refine P.append_list ?_
    refine Sim.goQ (P' := PV S X) (hx env ρ _ X σ₁ s₁ A (st.keep hg k L)) hne hQ hE fun vb b' σ₂ g₂ s₂ hne hg₂ k₂ L₂ rb hQ hE => ?_
    have ra₂ := VR.keepK k₂ hg₂ (fun _ h => nomatch h) ra
    cases a' with
    | ref m =>
      simp only [doAppend] at hne hQ
      split at hne
      · rename_i xs hσ
        split at hne
        · rename_i hlt
          rw [hσ] at hQ
          simp only [if_pos hlt] at hQ
          obtain ⟨ax, vs', k', e, hf, il', rs', hlen'⟩ := zDL L₂ ra₂ hσ
          cases e
          refine ⟨vs', k', by rw [zAN rs']; exact Nat.le_trans hlen' zAo, il', hQ _ _ ?_⟩
          obtain ⟨L3, k3⟩ := upd_list (fn := fun xs => xs.push vb) (xs := xs ++ [b']) L₂ hf il' (by rw [Array.toList_push]; exact zBB rs' (by rw [VRs, VRs]; exact ⟨rb, trivial⟩)) (by rw [List.length_append]; exact hlt)
          exact ⟨.none, _, [], rfl, .nil _, k3, by rw [List.append_nil]; exact L3, (by show VR S X _ _ .none .none; rw [VR])⟩
        · exact absurd rfl hne
      · exact absurd rfl hne
    | _ => exact absurd rfl hne
  · rw [if_neg hil] at hne; exact absurd rfl hne
theorem ok_sm_by {o x : Expr} {a b : CE} {apos pos : Pos} {m : Str} {id : String} {p : P2} (slot : Slot "str" m id) (hty : typeOf (.builtin id) = pure (.type "method_descriptor"))
    (op : ∀ (X : List Addr) (f : List Loc) (σ : Sto) (s : Shared) (A : Around) (E : Value → Shared → Prop) (a b x : V) (va vb : Value), Lk S X f σ s.heap → ev2 p σ a b = some x → VR S X f s.heap a va → VR S X f s.heap b vb → wpAny (model S.prog S.w) A (call (.builtin id) [va, vb]) (PE S X f s x) E s)
    (hb : noSuper o = true) (hp : (apos.endLine == pos.line) = true) (hs : isStar x = false) (ho : EOk S F q d Γ sc o a) (hx : EOk S F q d Γ sc x b) :
    EOk S F q d Γ sc (.Call (.Attribute o m apos) [x] [] pos) (.sm p a b) := fun env ρ f X σ s A st hne => by
  rw [x_sm] at hne ⊢
  refine wpAny_Call_method (zBo hb) (few1 hs) hp PySem.F.plainAttrs_str slot hty ?_
  refine Sim.goN (ho env ρ f X σ s A st) hne (fun _ _ x => x.qs) (fun _ _ x => x) fun va a' σ₁ g₁ s₁ hne hg k L ra hQ hE => ?_
  by_cases hil : (strOf? a').isSome = true
  · rw [if_pos hil] at hne hQ hE
    obtain ⟨y, hy⟩ := Option.isSome_iff_exists.mp hil
    cases a' <;> cases hy
    obtain ⟨⟨t, rfl⟩, _⟩ := zAu ra
    refine ⟨typeIs_str _ _ _, (fun _ e => nomatch e), zAi (zAP _ (by rw [List.any_cons, hs]; rfl)) (spliced1 hs ?_)⟩
    refine Sim.goN (hx env ρ _ X σ₁ s₁ A (st.keep hg k L)) hne hQ hE fun vb b' σ₂ g₂ s₂ hne hg₂ k₂ L₂ rb hQ hE => ?_
    obtain ⟨x, hx⟩ := zAq hne
    rw [hx] at hQ
    exact ⟨zAl (by simp), wpAny_mono (op X _ σ₂ s₂ A _ _ b' x _ vb L₂ hx (VR.keepK k₂ hg₂ (fun _ h => nomatch h) ra) rb) (fun v s' p => hQ v s' (p.here L₂)) fun _ _ x => x⟩
  · rw [if_neg hil] at hne; exact absurd rfl hne
theorem ok_sm {o x : Expr} {a b : CE} {apos pos : Pos} {m : Str} {p : P2} (hm : m1Names.lookup m = some p) (hb : noSuper o = true) (hp : (apos.endLine == pos.line) = true) (hs : isStar x = false) (ho : EOk S F q d Γ sc o a) (hx : EOk S F q d Γ sc x b) :
    EOk S F q d Γ sc (.Call (.Attribute o m apos) [x] [] pos) (.sm p a b) := by
  have hm := zAJ hm
  simp only [m1Names, List.mem_cons, Prod.mk.injEq, List.not_mem_nil, or_false] at hm
  rcases hm with ⟨rfl, rfl⟩
  · exact ok_sm_by PySem.F.slot_str_join PySem.F.type_str_join (fun _ _ _ _ _ _ _ _ _ _ _ L e ra rb => join_sound L e ra rb) hb hp hs ho hx
end
end Mine
end

/-! # Stmt1 -/
section
set_option autoImplicit false
namespace Mine
open PySem PyProof.Rows
noncomputable def ya (env : Env) : List Addr := env.locals :: env.cells.map (·.2)
structure FW (env : Env) (X : List Addr) : Prop where
  loc : env.locals ∈ X
  mem : ∀ p ∈ env.cells, p.2 ∈ X
  inj : ∀ x y c, env.cells.lookup x = some c → env.cells.lookup y = some c → x = y
theorem FW.cellX {env : Env} {X : List Addr} (fw : FW env X) (x : Str) (c : Addr) (h : env.cells.lookup x = some c) : c ∈ X := fw.mem _ (zAJ h)
theorem mem_lookup {β : Type} {x : Str} {y : β} : ∀ {l : List (Str × β)}, l.lookup x = some y → y ∈ l.map (·.2) := fun h => List.mem_map_of_mem (f := (·.2)) (zAJ h)
noncomputable def FlR (S : Stat) (X : List Addr) (f : List Loc) (h : Heap) (env : Env) (Γ : List Str) (sc : Scope) : Fl → Flow → Prop
  | .next ρ, fl => fl = .next ∧ FR S X f h env Γ sc ρ
  | .ret v, fl => ∃ w, fl = .ret w ∧ VR S X f h v w
inductive QF (S : Stat) (X : List Addr) (env : Env) (Γ : List Str) (sc : Scope) (f : List Loc) (s : Shared) (r : R Fl) (fl : Flow) (s' : Shared) : Prop where
  | mk (x : Fl) (σ' : Sto) (g : List Loc) (e : r = .ok x σ') (hg : Fresh g s) (k : Kp f (ya env) s s') (L : Lk S X (f ++ g) σ' s'.heap) (p : FlR S X (f ++ g) s'.heap env Γ sc x fl)
section
variable (S : Stat) (F Fq : Calls) (q : Bool) (d : Nat)
noncomputable def SOk (Γ : List Str) (sc : Scope) (st : Stmt) (c : CS) : Prop := ∀ (env : Env) (ρ : List V) (f : List Loc) (X : List Addr) (σ : Sto) (s : Shared) (A : Around), St S q d Γ sc env ρ f X σ s A → FW env X →
  exS F Fq q c ρ σ ≠ .stuck → wpAny (model S.prog S.w) A (exec st env) (QF S X env Γ sc f s (exS F Fq q c ρ σ)) (ES S X (ya env) f false s (exS F Fq q c ρ σ)) s
noncomputable def LSOk (Γ : List Str) (sc : Scope) (st : List Stmt) (c : List CS) : Prop := ∀ (env : Env) (ρ : List V) (f : List Loc) (X : List Addr) (σ : Sto) (s : Shared) (A : Around), St S q d Γ sc env ρ f X σ s A → FW env X →
  exL F Fq q c ρ σ ≠ .stuck → wpAny (model S.prog S.w) A (execs st env) (QF S X env Γ sc f s (exL F Fq q c ρ σ)) (ES S X (ya env) f false s (exL F Fq q c ρ σ)) s
end
section
variable {S : Stat} {C : Ctx} {T : Nat → Option Fn} {F Fq : Calls} {q : Bool} {d : Nat} {Γ : List Str} {sc : Scope}
variable {X X' Y Z : List Addr} {f g : List Loc} {σ : Sto} {s s' : Shared} {A : Around} {E : Value → Shared → Prop} {I a : Addr} {its : Items} {i : Nat} {env : Env} {ρ : List V}
theorem QF.lifts : Lifts (ya env) (fun f s r a s' => QF S X env Γ sc f s r a s') := fun f g s s₁ r c s' hg k q => by
  obtain ⟨b', σ'', g', e, hg', k', L, p⟩ := q
  rw [List.append_assoc] at L p
  exact ⟨b', σ'', g ++ g', e, hg.trans k.live hg', k.trans hg k', L, p⟩
theorem Sim.goS {α β : Type} {P : α → β → List Loc → Shared → Prop}
    {t : Sem α} {r : R β} {rk : β → Sto → R Fl} {W : α → Shared → Prop} {Q' : Flow → Shared → Prop} {E' : Value → Shared → Prop} (h : Sim S A X [] f P t r s) (hne : r.bind rk ≠ .stuck)
    (hQ : ∀ c s'', QF S X env Γ sc f s (r.bind rk) c s'' → Q' c s'') (hE : ∀ e s'', ES S X (ya env) f false s (r.bind rk) e s'' → E' e s'')
    (hk : ∀ a b σ' g s', rk b σ' ≠ .stuck → Fresh g s → Kp f [] s s' → Lk S X (f ++ g) σ' s'.heap → P a b (f ++ g) s' → (∀ c s'', QF S X env Γ sc (f ++ g) s' (rk b σ') c s'' → Q' c s'') →
      (∀ e s'', ES S X (ya env) (f ++ g) false s' (rk b σ') e s'' → E' e s'') → W a s') : wpAny (model S.prog S.w) A t W E' s := by
  have hr : r ≠ .stuck := fun e => hne (by rw [e]; rfl)
  refine wpAny_mono (h hr) (fun a s' q => ?_) fun e s' q => hE e s' ?_
  · obtain ⟨b, σ', g, rfl, hg, k, L, p⟩ := q
    have ky : Kp f (ya env) s s' := k.mono fun a h => nomatch h
    exact hk a b σ' g s' hne hg k L p (fun c s'' q => hQ c s'' (QF.lifts f g s s' _ c s'' hg ky q)) fun e s'' q => hE e s'' (ES.lifts f g s s' _ e s'' hg ky q)
  · obtain ⟨c, σ', g, ea, e1, rfl, hg, k, L, x⟩ := q
    exact ⟨c, σ', g, ea, e1, rfl, hg, (k.mono fun a h => nomatch h), L, x⟩
theorem zBR {y : Str} : ∀ {Γ : List Str} {i : Nat}, lastIdx y Γ = some i → Γ[i]? = some y
  | [], i, h => by simp [lastIdx] at h
  | z :: Γ, i, h => by
    simp only [lastIdx] at h
    split at h
    · rename_i j hj; cases h; simpa using zBR hj
    · split at h
      · rename_i e; cases h; rw [eq_of_beq e]; rfl
      · first | exact zAA h | exact ff_tt h | cases h
theorem slotOf_some {x : Str} (h : slotOf Γ sc x = some i) : (sc.names.lookup x = some .local ∨ sc.names.lookup x = some .cell) ∧ lastIdx x Γ = some i := by
  unfold slotOf at h
  split at h
  · rename_i e
    simp only [Bool.or_eq_true] at e
    exact ⟨e.imp (fun q => eq_of_beq q) fun q => eq_of_beq q, h⟩
  · first | exact zAA h | exact ff_tt h | cases h
theorem FR.mv (m : Mv a s s') (ha : a ∈ X) (hl : env.locals ≠ a) (hc : ∀ x c, env.cells.lookup x = some c → c ≠ a) (fr : FR S X f s.heap env Γ sc ρ) : FR S X f s'.heap env Γ sc ρ := by
  have ns : ∀ {b : Addr} {m' : Str → Option Value}, b ≠ a → s.heap.Ns b m' → s'.heap.Ns b m' := fun hb h => by
    obtain ⟨o, es, ep, ho, r⟩ := h
    exact ⟨o, es, ep, m.keep _ _ hb ho, r⟩
  have cl : ∀ {b : Addr} {m' : Option Value}, b ≠ a → s.heap.IsCell b m' → s'.heap.IsCell b m' := fun hb h => by
    obtain ⟨o, ho, r⟩ := h
    exact ⟨o, m.keep _ _ hb ho, r⟩
  refine ⟨fr.kind, fr.glob, fr.blt, fr.names, ⟨fr.loc.1, let ⟨m', h⟩ := fr.loc.2; ⟨m', ns hl h⟩⟩, fun x hx => ?_, fun x i v h1 h2 h3 h4 => ?_, fr.len⟩
  · obtain ⟨c, o, e1, hX, h⟩ := fr.cells x hx
    exact ⟨c, o, e1, hX, cl (hc x c e1) h⟩
  · obtain ⟨w, h5, h6⟩ := fr.vals x i v h1 h2 h3 h4
    refine ⟨w, ?_, m.vr ha h6⟩
    rcases h5 with ⟨k, m', h7, h8⟩ | ⟨k, c, h7, h8⟩
    · exact .inl ⟨k, m', ns hl h7, h8⟩
    · exact .inr ⟨k, c, h7, cl (hc x c h7) h8⟩
theorem zBP {x : Str} {v : V} {w : Value} {Q : Unit → Shared → Prop} (fr : FR S X f s.heap env Γ sc ρ) (fw : FW env X) (hx : slotOf Γ sc x = some i) (r : VR S X f s.heap v w)
    (h : ∀ a s', a ∈ ya env → a ∈ X → Mv a s s' → FR S X f s'.heap env Γ sc (ρ.set i v) → Q () s') : wpAny (model S.prog S.w) A (storeName env x w) Q E s := by
  obtain ⟨hk, hi⟩ := slotOf_some hx
  have hkind : env.kindOf x = some .local ∨ env.kindOf x = some .cell := by
    rcases fr.names x with e | ⟨e, _⟩
    · rw [e]; exact hk
    · rcases hk with h | h <;> rw [h] at e <;> cases e
  have hvx : isVar sc x = true := by unfold isVar; rcases hk with h | h <;> rw [h]
  have hil : i < ρ.length := by rw [fr.len]; exact zDA hi
  obtain ⟨m, hm⟩ := fr.loc.2
  have same : ∀ y, lastIdx y Γ = some i → y = x := fun y hy => by
    have h1 := zBR hy
    rw [zBR hi] at h1; cases h1; rfl
  have setv : ∀ {j : Nat} {v' : V}, (ρ.set i v)[j]? = some v' → j ≠ i → ρ[j]? = some v' := fun h hne => by rwa [List.getElem?_set_ne (fun q => hne q.symm)] at h
  have cellNe : ∀ x c, isCellKind (env.kindOf x) → env.cells.lookup x = some c → c ≠ env.locals := fun x c hk e q => by
    obtain ⟨c', o, e', _, ⟨ob, h1, h2⟩⟩ := fr.cells x hk
    rw [e] at e'; cases e'
    obtain ⟨ob', es, ep, h3, h4, _⟩ := hm
    rw [q, h3] at h1; cases h1; rw [h4] at h2; cases h2
  rcases hkind with hl | hc
  · refine wpAny_storeName_local hl hm (fun h' hn' hs' => ?_) (by simp [fr.kind])
    obtain ⟨o2, es2, ep2, e3, e4, _⟩ := id hn'
    have mv : Mv env.locals s { s with heap := h', toks := s.toks + 1 } := ⟨rfl, fun b o hb e => (hs'.2 b hb).trans e, ⟨o2, e3⟩, fun _ _ _ _ _ => ⟨o2, es2, ep2, e3, e4⟩⟩
    refine h env.locals _ List.mem_cons_self fw.loc mv ?_
    have cl : ∀ {b : Addr} {m' : Option Value}, b ≠ env.locals → s.heap.IsCell b m' → h'.IsCell b m' := fun hb h => by
      obtain ⟨o, ho, r⟩ := h
      exact ⟨o, mv.keep _ _ hb ho, r⟩
    refine ⟨fr.kind, fr.glob, fr.blt, fr.names, ⟨fr.loc.1, _, hn'⟩, fun y hy => ?_, fun y j v' h1 h2 h3 h4 => ?_, by rw [List.length_set]; exact fr.len⟩
    · obtain ⟨c, o, e1, hX, h5⟩ := fr.cells y hy
      exact ⟨c, o, e1, hX, cl (cellNe y c hy e1) h5⟩
    · by_cases hj : j = i
      · subst hj
        have hy := same y h2
        subst hy
        rw [List.getElem?_set_self hil] at h3; cases h3
        exact ⟨w, .inl ⟨hl, _, hn', by simp⟩, mv.vr fw.loc r⟩
      · obtain ⟨w', h5, h6⟩ := fr.vals y j v' h1 h2 (setv h3 hj) h4
        refine ⟨w', ?_, mv.vr fw.loc h6⟩
        rcases h5 with ⟨k, m', h7, h8⟩ | ⟨k, c, h7, h8⟩
        · refine .inl ⟨k, _, hn', ?_⟩
          have hyx : y ≠ x := fun q => by rw [q, hi] at h2; cases h2; exact hj rfl
          obtain ⟨ob, es, ep, q1, q2, q3, q4⟩ := h7
          obtain ⟨ob', es', ep', p1, p2, p3, p4⟩ := hm
          rw [q1] at p1; cases p1; rw [q2] at p2; cases p2
          show (if y = x then some w else m y) = some w'
          rw [if_neg hyx, ← p4 y, q4 y, h8]
        · exact .inr ⟨k, c, h7, cl (cellNe y c k h7) h8⟩
  · obtain ⟨c, o, e1, hX, hcell⟩ := fr.cells x (.inl hc)
    refine wpAny_storeName_cell fr.kind hc e1 hcell fun h' hc' hs' => ?_
    obtain ⟨o2, e3, e4⟩ := id hc'
    have mv : Mv c s { s with heap := h' } := ⟨rfl, fun b o hb e => (hs'.2 b hb).trans e, ⟨o2, e3⟩, fun ob es n q1 q2 => by
      obtain ⟨ob', q3, q4⟩ := hcell
      rw [q3] at q1; cases q1; rw [q4] at q2; cases q2⟩
    refine h c _ (List.mem_cons_of_mem _ (mem_lookup e1)) hX mv ?_
    have hlne : env.locals ≠ c := fun q => cellNe x c (.inl hc) e1 q.symm
    have ns : ∀ {m' : Str → Option Value}, s.heap.Ns env.locals m' → h'.Ns env.locals m' := fun h => by
      obtain ⟨o, es, ep, ho, r⟩ := h
      exact ⟨o, es, ep, mv.keep _ _ hlne ho, r⟩
    have cl : ∀ {b : Addr} {m' : Option Value}, b ≠ c → s.heap.IsCell b m' → h'.IsCell b m' := fun hb h => by
      obtain ⟨o, ho, r⟩ := h
      exact ⟨o, mv.keep _ _ hb ho, r⟩
    refine ⟨fr.kind, fr.glob, fr.blt, fr.names, ⟨fr.loc.1, _, ns hm⟩, fun y hy => ?_, fun y j v' h1 h2 h3 h4 => ?_, by rw [List.length_set]; exact fr.len⟩
    · obtain ⟨c', o', e1', hX', h5⟩ := fr.cells y hy
      by_cases hcc : c' = c
      · subst hcc; exact ⟨c', _, e1', hX, hc'⟩
      · exact ⟨c', o', e1', hX', cl hcc h5⟩
    · by_cases hj : j = i
      · subst hj
        have hy := same y h2
        subst hy
        rw [List.getElem?_set_self hil] at h3; cases h3
        exact ⟨w, .inr ⟨.inl hc, c, e1, hc'⟩, mv.vr hX r⟩
      · obtain ⟨w', h5, h6⟩ := fr.vals y j v' h1 h2 (setv h3 hj) h4
        refine ⟨w', ?_, mv.vr hX h6⟩
        have hyx : y ≠ x := fun q => by rw [q, hi] at h2; cases h2; exact hj rfl
        rcases h5 with ⟨k, m', h7, h8⟩ | ⟨k, c', h7, h8⟩
        · exact .inl ⟨k, m', ns h7, h8⟩
        · exact .inr ⟨k, c', h7, cl (fun q => hyx (fw.inj y x c (q ▸ h7) e1)) h8⟩
theorem mv_qf {v : Fl} {fl : Flow} (hY : a ∈ ya env) (hX : a ∈ X) (L : Lk S X f σ s.heap) (m : Mv a s s') (h : FlR S X f s'.heap env Γ sc v fl) : QF S X env Γ sc f s (.ok v σ) fl s' :=
  ⟨v, σ, [], rfl, .nil s, m.kp hY, by rw [List.append_nil]; exact m.lk hX L, by rw [List.append_nil]; exact h⟩
theorem here_qf {v : Fl} {fl : Flow} (L : Lk S X f σ s.heap) (h : FlR S X f s.heap env Γ sc v fl) : QF S X env Γ sc f s (.ok v σ) fl s :=
  ⟨v, σ, [], rfl, .nil s, .refl f _ s, by rw [List.append_nil]; exact L, by rw [List.append_nil]; exact h⟩
theorem swaps_no {e : Expr} {t : Option Expr} {n : Nat} (h : isComp e = false) (h2 : ∀ el gs sc p, e ≠ .SetComp el gs sc p) (h3 : ∀ k v gs sc p, e ≠ .DictComp k v gs sc p) : swapsWith e t n env = pure false := by
  cases e <;> first | rfl | exact ff_tt h.symm | exact absurd rfl (h2 _ _ _ _) | exact absurd rfl (h3 _ _ _ _ _)
theorem ok_ret {e : Expr} {c : CE} {pos : Pos} (h : EOk S F q d Γ sc e c) : SOk S F Fq q d Γ sc (.Return (some e) pos) (.ret c) := fun env ρ f X σ s A st fw hne => by
  rw [x_ret] at hne ⊢
  refine wpAny_Return_some ?_
  refine Sim.goS (Γ := Γ) (sc := sc) (h env ρ f X σ s A st) hne (fun _ _ x => x) (fun _ _ x => x) fun va a' σ₁ g₁ s₁ hne hg k L ra hQ hE => hQ _ _ (here_qf L ⟨va, rfl, ra⟩)
theorem ok_pass {pos : Pos} : SOk S F Fq q d Γ sc (.Pass pos) .pass := fun env ρ f X σ s A st fw hne => by
  rw [x_pass]
  exact wpAny_Pass (here_qf st.lk ⟨rfl, st.fr⟩)
theorem ok_exp {e : Expr} {c : CE} {pos : Pos} (h : EOk S F q d Γ sc e c) (hs : ∀ env n t, swapsWith e t n env = pure false) : SOk S F Fq q d Γ sc (.Expr e pos) (.exp c) := fun env ρ f X σ s A st fw hne => by
  rw [x_exp] at hne ⊢
  refine wpAny_Expr_any ?_ (by simp [interactive, st.fr.kind]) (hs _ _ _)
  refine Sim.goS (Γ := Γ) (sc := sc) (h env ρ f X σ s A st) hne (fun _ _ x => x) (fun _ _ x => x) fun va a' σ₁ g₁ s₁ hne hg k L ra hQ hE => hQ _ _ (here_qf L ⟨rfl, (st.keep hg k L).fr⟩)
theorem asg_at {x : Str} {px pos : Pos} {e : Expr} {c : CE} (hx : slotOf Γ sc x = some i) (h : EOk S F q d Γ sc e c) (st : St S q d Γ sc env ρ f X σ s A) (fw : FW env X) (hs : swapsWith e (some (.Name x px)) pos.line env = pure false) (hne : exS F Fq q (.asg i c) ρ σ ≠ .stuck) :
    wpAny (model S.prog S.w) A (exec (.Assign [.Name x px] e pos) env) (QF S X env Γ sc f s (exS F Fq q (.asg i c) ρ σ)) (ES S X (ya env) f false s (exS F Fq q (.asg i c) ρ σ)) s := by
  rw [x_asg] at hne ⊢
  refine wpAny_Assign_Name ?_ hs
  refine Sim.goS (Γ := Γ) (sc := sc) (h env ρ f X σ s A st) hne (fun _ _ x => x) (fun _ _ x => x) fun va a' σ₁ g₁ s₁ hne hg k L ra hQ hE => ?_
  exact zBP (st.keep hg k L).fr fw hx ra fun b s' hY hX m fr => hQ _ _ (mv_qf hY hX L m ⟨rfl, fr⟩)
theorem ok_asg {x : Str} {px pos : Pos} {e : Expr} {c : CE} (hx : slotOf Γ sc x = some i) (h : EOk S F q d Γ sc e c) (hs : ∀ env n t, swapsWith e t n env = pure false) : SOk S F Fq q d Γ sc (.Assign [.Name x px] e pos) (.asg i c) := fun env ρ f X σ s A st fw hne =>
  asg_at hx h st fw (hs _ _ _) hne
theorem ok_if {t : Expr} {c : CE} {a b : List Stmt} {ca cb : List CS} {pos : Pos} (ht : TOk S F q d Γ sc t c) (ha : LSOk S F Fq q d Γ sc a ca) (hb : LSOk S F Fq q d Γ sc b cb) : SOk S F Fq q d Γ sc (.If t a b pos) (.ite c ca cb) := fun env ρ f X σ s A st fw hne => by
  have key : exS F Fq q (.ite c ca cb) ρ σ = ((evE F q c ρ σ).bind fun v σ => R.lift σ (truthy σ v)).bind fun t σ => if t then exL F Fq q ca ρ σ else exL F Fq q cb ρ σ := by rw [x_ite, R.bind_assoc]
  rw [key] at hne ⊢
  refine wpAny_If ?_
  refine Sim.goS (Γ := Γ) (sc := sc) (ht env ρ f X σ s A st) hne (fun _ _ x => x) (fun _ _ x => x) fun va a' σ₁ g₁ s₁ hne hg k L ra hQ hE => ?_
  have ra : va = a' := ra
  subst ra
  cases va with
  | true => exact wpAny_mono (ha env ρ _ X σ₁ s₁ A (st.keep hg k L) fw hne) hQ hE
  | false => exact wpAny_mono (hb env ρ _ X σ₁ s₁ A (st.keep hg k L) fw hne) hQ hE
theorem ok_nil : LSOk S F Fq q d Γ sc [] [] := fun env ρ f X σ s A st fw hne => by
  rw [x_lnil]
  exact wpAny_execs_nil (here_qf st.lk ⟨rfl, st.fr⟩)
theorem ok_cons {a : Stmt} {b : List Stmt} {ca : CS} {cb : List CS} (ha : SOk S F Fq q d Γ sc a ca) (hb : LSOk S F Fq q d Γ sc b cb) : LSOk S F Fq q d Γ sc (a :: b) (ca :: cb) := fun env ρ f X σ s A st fw hne => by
  rw [x_lcons] at hne ⊢
  have hr : exS F Fq q ca ρ σ ≠ .stuck := fun e => hne (by rw [e]; rfl)
  refine wpAny_execs_cons (wpAny_mono (ha env ρ f X σ s A st fw hr) (fun fl s₁ h₁ => ?_) fun e s₁ h₁ => ?_)
  · obtain ⟨x, σ₁, g, e, hg, k, L, p⟩ := h₁
    rw [e, R.bind_ok] at hne ⊢
    cases x with
    | next ρ' =>
      obtain ⟨rfl, fr⟩ := p
      have st₁ : St S q d Γ sc env ρ' (f ++ g) X σ₁ s₁ A := ⟨st.cx.keep k hg, fr, L⟩
      exact wpAny_mono (hb env ρ' _ X σ₁ s₁ A st₁ fw hne) (fun c s'' q => QF.lifts f g s s₁ _ c s'' hg k q) fun c s'' q => ES.lifts f g s s₁ _ c s'' hg k q
    | ret v =>
      obtain ⟨w, rfl, r⟩ := p
      exact ⟨.ret v, σ₁, g, rfl, hg, k, L, w, rfl, r⟩
  · obtain ⟨c, σ', g, ea, e1, e2, hgE, kE, LE, xE⟩ := h₁
    exact ⟨c, σ', g, ea, e1, by rw [e2]; rfl, hgE, kE, LE, xE⟩
end
end Mine
end

/-! # Stmt2 -/
section
set_option autoImplicit false
namespace Mine
open PySem PyProof.Rows
section
variable {S : Stat} {C : Ctx} {T : Nat → Option Fn} {F Fq : Calls} {q : Bool} {d : Nat} {Γ : List Str} {sc : Scope}
variable {X X' Y Z : List Addr} {f g : List Loc} {σ : Sto} {s s' : Shared} {A : Around} {E : Value → Shared → Prop} {I a : Addr} {its : Items} {i : Nat} {env : Env} {ρ : List V}
set_option maxRecDepth 100000 in
theorem setItem_raw {l : Addr} {items : Array Value} {n : Nat} {k : Int} {t : Tok} {v : Value} {Q : Unit → Shared → Prop} (hl : IsL s.heap l items n) (h0 : 0 ≤ k) (hfit : k < 2 ^ 63) (hn : k < items.size)
    (hQ : Q () { s with heap := s.heap.update l (Obj.mapSeq (·.setIfInBounds k.toNat v)) }) : wpAny (model S.prog S.w) A (setItem (.ref l) (.int k t) v) Q E s := by
  have il := IsL.isList hl
  unfold setItem
  try with_reducible refine wpAny_holding ?_
  first | refine wpAny_bind (wpAny_pure ?_) | skip
  refine wpAny_bind (wpAny_sequenceKey il.typeIs (by decide) ?_)
  refine wpAny_bind (wpAny_callSpecial?_slot (name := Str.ofString "__setitem__") il.typeIs slot_list_setitem
    (wpAny_call_entry slot_list_setitem il.typeIs entry_list_setitem ?_ (args_list_setitem _ _ _)))
  show wpAny _ _ (Builtin.List.listSubscript? (.int k t) >>= _) _ _ s
  refine wpAny_bind (wpAny_listSubscript_int (fitsIndex_of h0 hfit) ?_)
  clear hfit
  obtain ⟨j, rfl⟩ := Int.eq_ofNat_of_zero_le h0
  have hj : j < items.size := by omega
  have hx' : items[j]? = some items[j] := Array.getElem?_eq_getElem hj
  show wpAny _ _ ((seqItemAt l j >>= fun r => pure (r.map (j, ·))) >>= _) _ _ s
  refine wpAny_bind (wpAny_bind (wpAny_seqItemAt hl rfl (wpAny_pure ?_)))
  rw [hx']
  show wpAny _ _ (setSeqItemAt l j v >>= _) _ _ s
  refine wpAny_bind (wpAny_setSeqItemAt hl rfl ?_)
  first
    | exact wpAny_bind (wpAny_pure (wpAny_pure ⟨.none, rfl, wpAny_pure hQ⟩))
    | exact wpAny_pure ⟨.none, rfl, wpAny_pure hQ⟩
inductive SetInv (σ : Sto) (o i : V) : Prop
  | list (n : Nat) (k : Int) (xs : List V) (eo : o = .ref n) (ei : i = .int k) (hσ : σ[n]? = some (.list xs)) (hk : 0 ≤ k ∧ k.toNat < xs.length)
  | dict (n : Nat) (k : Int) (es : List (Int × V)) (eo : o = .ref n) (ei : i = .int k) (hσ : σ[n]? = some (.dict es)) (hl : es.length < LIM)
theorem setInv {σ : Sto} {o i v : V} {γ : Type} {rk : Unit → Sto → R γ} (h : (doSetItem σ o i v).bind rk ≠ .stuck) : SetInv σ o i := by
  cases o with
  | ref n =>
    cases i with
    | int k =>
      have h : (setObj σ n k v σ[n]?).bind rk ≠ .stuck := h
      cases hσ : σ[n]? with
      | none => rw [hσ] at h; exact absurd rfl h
      | some ob =>
        rw [hσ] at h
        cases ob with
        | list xs =>
          by_cases hk : 0 ≤ k ∧ k.toNat < xs.length
          · exact .list n k xs rfl rfl hσ hk
          · exact absurd (by show R.bind (if 0 ≤ k ∧ k.toNat < xs.length then _ else _) _ = _; rw [if_neg hk]; rfl) h
        | dict es =>
          by_cases hl : es.length < LIM
          · exact .dict n k es rfl rfl hσ hl
          · exact absurd (by show R.bind (if es.length < LIM then _ else _) _ = _; rw [if_neg hl]; rfl) h
        | inst _ => exact absurd rfl h
    | _ => exact absurd rfl h
  | _ => exact absurd rfl h
theorem fits_63 {j : Nat} (h : j < LIM) : (j : Int) < 2 ^ 63 := by have hL : LIM = 1048576 := rfl; omega
theorem ok_setItem {o ix e : Expr} {a b c : CE} {p' pos : Pos} (ho : EOk S F q d Γ sc o a) (hi : EOk S F q d Γ sc ix b) (h : EOk S F q d Γ sc e c) (hs : ∀ env n t, swapsWith e t n env = pure false) : SOk S F Fq q d Γ sc (.Assign [.Subscript o ix p'] e pos) (.setItem a b c) := fun env ρ f X σ s A st fw hne => by
  rw [x_setItem] at hne ⊢
  refine wpAny_Assign_Subscript ?_ (hs _ _ _)
  refine Sim.goS (Γ := Γ) (sc := sc) (h env ρ f X σ s A st) hne (fun _ _ x => x) (fun _ _ x => x) fun vv v' σ₁ g₁ s₁ hne hg k L rv hQ hE => ?_
  have st₁ := st.keep hg k L
  refine Sim.goS (Γ := Γ) (sc := sc) (ho env ρ _ X σ₁ s₁ A st₁) hne hQ hE fun vo o' σ₂ g₂ s₂ hne hg₂ k₂ L₂ ro hQ hE => ?_
  have st₂ := st₁.keep hg₂ k₂ L₂
  have rv₂ := VR.keepK k₂ hg₂ (fun _ h => nomatch h) rv
  refine Sim.goS (Γ := Γ) (sc := sc) (hi env ρ _ X σ₂ s₂ A st₂) hne hQ hE fun vi i' σ₃ g₃ s₃ hne hg₃ k₃ L₃ ri hQ hE => ?_
  have st₃ := st₂.keep hg₃ k₃ L₃
  have rv₃ := VR.keepK k₃ hg₃ (fun _ h => nomatch h) rv₂
  have ro₃ := VR.keepK k₃ hg₃ (fun _ h => nomatch h) ro
  cases setInv hne with
  | list n k' xs eo ei hσ hk =>
    subst eo
    subst ei
    have hd : doSetItem σ₃ (.ref n) (.int k') v' = .ok () (σ₃.set n (.list (xs.set k'.toNat v'))) := by show setObj σ₃ n k' v' σ₃[n]? = _; rw [hσ]; exact if_pos hk
    rw [hd] at hQ
    obtain ⟨ax, vs, kk, rfl, hf, il, rs, hlen⟩ := zDL L₃ ro₃ hσ
    obtain ⟨t, rfl⟩ := zAe ri
    obtain ⟨j, rfl⟩ := Int.eq_ofNat_of_zero_le hk.1
    have hj : j < vs.size := by rw [zAN rs]; exact hk.2
    have hfit : (j : Int) < 2 ^ 63 := fits_63 (Nat.lt_of_lt_of_le (zAN rs ▸ hj) hlen)
    obtain ⟨L4, k4⟩ := upd_list (fn := fun xs => xs.setIfInBounds j vv) (xs := xs.set j v') L₃ hf il (by rw [Array.toList_setIfInBounds]; exact VRs_set rs rv₃) (by rw [List.length_set]; exact hlen)
    refine setItem_raw il (Int.natCast_nonneg j) hfit (Int.ofNat_lt.mpr hj) (hQ _ _ ⟨.next ρ, _, [], rfl, .nil _, k4.mono (fun a h => nomatch h), by rw [List.append_nil]; exact L4, rfl, ?_⟩)
    rw [List.append_nil]
    have := st₃.fr.keep (g := []) L₃ k4 (.nil _)
    rwa [List.append_nil] at this
  | dict n k' es eo ei hσ hl =>
    subst eo
    subst ei
    have hd : doSetItem σ₃ (.ref n) (.int k') v' = .ok () (σ₃.set n (.dict (setDict es k' v'))) := by show setObj σ₃ n k' v' σ₃[n]? = _; rw [hσ]; exact if_pos hl
    rw [hd] at hQ
    refine set_dict_at L₃ ro₃ ri hσ hl rv₃ fun h' tk L4 k4 => hQ _ _ ⟨.next ρ, _, [], rfl, .nil _, k4 _, by rw [List.append_nil]; exact L4, rfl, ?_⟩
    exact st₃.fr.keep (g := []) L₃ (k4 []) (.nil _)
theorem FR.drop {h h' : Heap} (fr : FR S X f h env Γ sc ρ) (fw : FW env X') (hX : ∀ a ∈ X', a ∈ X ∧ a ∉ Z) (hZ : ∀ a ∈ Z, a ∈ X) (k : ∀ b o, b ∉ Z → h.get? b = some o → h'.get? b = some o) : FR S X' f h' env Γ sc ρ := by
  have ns : ∀ {b : Addr} {m' : Str → Option Value}, b ∈ X' → h.Ns b m' → h'.Ns b m' := fun hb x => by
    obtain ⟨o, es, ep, ho, r⟩ := x
    exact ⟨o, es, ep, k _ _ (hX _ hb).2 ho, r⟩
  have cl : ∀ {b : Addr} {m' : Option Value}, b ∈ X' → h.IsCell b m' → h'.IsCell b m' := fun hb x => by
    obtain ⟨o, ho, r⟩ := x
    exact ⟨o, k _ _ (hX _ hb).2 ho, r⟩
  refine ⟨fr.kind, fr.glob, fr.blt, fr.names, ⟨fw.loc, let ⟨m, h⟩ := fr.loc.2; ⟨m, ns fw.loc h⟩⟩, fun x hx => ?_, fun x i v h1 h2 h3 h4 => ?_, fr.len⟩
  · obtain ⟨c, o, e, _, h⟩ := fr.cells x hx
    exact ⟨c, o, e, fw.cellX x c e, cl (fw.cellX x c e) h⟩
  · obtain ⟨w, h5, h6⟩ := fr.vals x i v h1 h2 h3 h4
    refine ⟨w, ?_, h6.drop (fun a ha => (hX a ha).1) hZ k⟩
    rcases h5 with ⟨kk, m', h7, h8⟩ | ⟨kk, c, h7, h8⟩
    · exact .inl ⟨kk, m', ns fw.loc h7, h8⟩
    · exact .inr ⟨kk, c, h7, cl (fw.cellX x c h7) h8⟩
theorem FW.more (fw : FW env X) : FW env (a :: X) := ⟨List.mem_cons_of_mem _ fw.loc, fun p hp => List.mem_cons_of_mem _ (fw.mem p hp), fw.inj⟩
theorem ok_comp_asg {scope : Scope} {x y : Str} {px py pos spos : Pos} {elt iter : Expr} {ifs : List Expr} {ce c' : CE} {cond : Option CE} {k : SK} {cs : List CE} (hy : slotOf Γ sc y = some i) (ok : CompOk Γ sc scope x) (hsrc : SrcOk S F q d Γ sc iter k cs)
    (hcond : (ifs = [] ∧ cond = none) ∨ ∃ e c, ifs = [e] ∧ cond = some c ∧ TOk S F q d (Γ ++ [x]) scope e c) (helt : EOk S F q d (Γ ++ [x]) scope elt ce) (hc' : c' = .comp ce k cs cond ∨ c' = .trk (.comp ce k cs cond)) :
    SOk S F Fq q d Γ sc (.Assign [.Name y py] (.ListComp elt [⟨.Name x px, iter, ifs, 0⟩] scope pos) spos) (.asg i c') := fun env ρ f X σ s A st fw hne => by
  have hn := ok_comp (px := px) (pos := pos) ok hsrc hcond helt
  have he : EOk S F q d Γ sc (.ListComp elt [⟨.Name x px, iter, ifs, 0⟩] scope pos) c' := by
    rcases hc' with rfl | rfl
    · exact hn.eok
    · exact hn.trk
  by_cases hsw : (env.blockKind == .function && env.kindOf y == some .local && py.line == pos.line && !(scope.names.any fun (n, k) => n == y && (k == .local || k == .cell))) = true
  · have hs : swapsWith (.ListComp elt [⟨.Name x px, iter, ifs, 0⟩] scope pos) (some (.Name y py)) spos.line env = pure true := by
      show pure (env.blockKind == .function && env.kindOf y == some .local && py.line == pos.line && !(scope.names.any fun (n, k) => n == y && (k == .local || k == .cell))) = _
      rw [hsw]
    rw [exec_Assign_Name_used _ _ _ _ hs]
    rw [x_asg] at hne ⊢
    have hq : q = false := by
      cases q with
      | false => rfl
      | true => rcases hc' with rfl | rfl <;> exact absurd rfl hne
    have hval : ∃ tk : V → Sto → R V, evE F q c' ρ σ = (((evL F q cs ρ σ).bind fun vs σ => R.lift σ (itemsBy σ k vs)).bind fun its σ => (foldItems its (compStep F q ce cond ρ) [] σ).bind fun acc σ => .ok (.lst acc) σ).bind tk ∧
        ∀ {X : List Addr} {s : Shared} {r : R V} {v : Value} {s' : Shared}, (r.bind tk) ≠ .stuck → QN S X [] f s r v s' → QS S X [] f (PV S X) s (r.bind tk) v s' := by
      rcases hc' with rfl | rfl
      · exact ⟨fun v σ => .ok v σ, by rw [zDG hq]; generalize R.bind _ _ = r; cases r <;> rfl, fun {X s r v s'} _ h => by
          have : (r.bind fun v σ => R.ok v σ) = r := by cases r <;> rfl
          rw [this]; exact h.qs⟩
      · exact ⟨fun v σ => doTrk σ v, by rw [x_trk, zDG hq], fun {X s r v s'} hne h => h.trk hne⟩
    obtain ⟨tk, e0, htk⟩ := hval
    rw [e0] at hne ⊢
    obtain ⟨cl, hclos, hcl⟩ := st.fr.closure ok
    refine wpAny_bind (wpAny_standAt (wpAny_bind ?_))
    show wpAny _ A (do let _ ← comprehension (.ListComp elt [⟨.Name x px, iter, ifs, 0⟩] scope pos) scope env _ (newList []) false (eval iter env) (some (assign (.Name y py) env))) _ _ s
    refine wpAny_bind (wpAny_mono (wpAny_comprehension_free (Q := fun _ s' => QF S X env Γ sc f s _ .next s') (g := ⟨.Name x px, iter, ifs, 0⟩) (gs := []) rfl (hsrc.1 env) hclos ok.kind (fun p hp e => (ok.loc p hp e).2) ?_) (fun _ s' hq => wpAny_pure (wpAny_pure hq)) fun _ _ e => e)
    have hr : ((evL F q cs ρ σ).bind fun vs σ => R.lift σ (itemsBy σ k vs)) ≠ .stuck := fun e => hne (by rw [e]; rfl)
    refine wpAny_mono (hsrc.2 env ρ f X σ s A st hr) (fun xv s₁ h₁ => wpAny_mono h₁ (fun it s₂ h₂ => ?_) fun e s' h => ?_) fun e s' h => ?_
    · obtain ⟨its, σ₁, g, I, e1, rfl, hI, hIX, hg, kk, L, x0⟩ := h₂
      rw [e1, R.bind_ok] at hne ⊢
      have hne2 : foldItems its (compStep F q ce cond ρ) [] σ₁ ≠ .stuck := fun e => hne (by rw [e]; rfl)
      refine comp_block st (st.cx.hand hq) ok hcl hcond helt hI hg kk L x0 hne2 fun N D acc σ' g' m ys n s' hN hD hND e2 hg' k' L' hns il vs hlen => ?_
      rw [e2, R.bind_ok] at hne ⊢
      have hNX : N ∉ X := (st.lk.new hN).2
      have hDX : D ∉ X := (st.lk.new hD).2
      have qn : QN S (N :: X) [] f s (.ok (.lst acc) σ') (.ref D) s' := by
        have hsw2 : ∀ a, a ∈ D :: N :: X → a ∈ N :: D :: X := fun a ha => by simp at ha ⊢; rcases ha with h | h | h <;> simp [h]
        have L2 : Lk S (D :: N :: X) (f ++ g') σ' s'.heap := L'.less hsw2
        have vs2 := VRs.less hsw2 vs
        refine ⟨.lst acc, σ', g', rfl, hg', k', L2.less fun a ha => List.mem_cons_of_mem _ ha, ?_, fun xs hxs => ?_⟩
        · rw [VR]
          exact ⟨D, ys, n, rfl, ⟨(L2.hid D List.mem_cons_self).2.1, fun h => (List.mem_cons.mp h).elim (fun q => hND q.symm) hDX⟩, il, vs2.less fun a ha => List.mem_cons_of_mem _ ha, hlen⟩
        · cases hxs
          exact ⟨D, ys, n, rfl, hD, (fun h => (List.mem_cons.mp h).elim (fun q => hND q.symm) hDX), L2, il, vs2, hlen⟩
      have hne3 : ((R.ok (.lst acc) σ').bind tk) ≠ .stuck := fun e => hne (by rw [e]; rfl)
      obtain ⟨v3, σ3, g3, e3, hg3, k3, L3, r3⟩ := htk hne3 qn
      rw [e3, R.bind_ok]
      have fr3 : FR S (N :: X) (f ++ g3) s'.heap env Γ sc ρ := st.fr.later st.lk k3 hg3 (fun a ha => (List.mem_cons.mp ha).elim (fun h => .inr (h ▸ hN)) .inl) fun a ha => List.mem_cons_of_mem _ ha
      refine wpAny_assign_Name (zBP fr3 fw.more hy r3 fun b s4 hY hX m4 fr4 => ?_)
      have hbN : b ≠ N := fun q => by
        subst q
        rcases List.mem_cons.mp hY with h | h
        · exact hNX (h ▸ fw.loc)
        · obtain ⟨p, hp, rfl⟩ := List.mem_map.mp h
          exact hNX (fw.mem p hp)
      obtain ⟨oN, esN, epN, eN, rN⟩ := hns
      refine ⟨m, ⟨oN, esN, epN, m4.keep N oN (Ne.symm hbN) eN, rN⟩, fun h' hs4 => ?_⟩
      have hkk : ∀ b o, b ∉ [N] → s4.heap.get? b = some o → h'.get? b = some o := fun b o hb e => (hs4.2 b (fun q => hb (q ▸ List.mem_singleton.mpr rfl))).trans e
      have hZX : ∀ a ∈ X, a ∈ N :: X ∧ a ∉ [N] := fun a ha => ⟨List.mem_cons_of_mem _ ha, fun h => hNX (List.mem_singleton.mp h ▸ ha)⟩
      have hZ : ∀ a ∈ [N], a ∈ N :: X := fun a ha => List.mem_singleton.mp ha ▸ List.mem_cons_self
      have ky : Kp f (ya env) s s4 := (k3.mono fun a h => nomatch h).trans hg3 (m4.kp hY)
      exact ⟨.next (ρ.set i v3), σ3, g3, rfl, hg3, ky.ends (Z := [N]) rfl hkk (fun b hb => List.mem_singleton.mp hb ▸ hN), (m4.lk hX L3).drop hZX hZ hkk, rfl, fr4.drop fw hZX hZ hkk⟩
    · obtain ⟨c, σ', g, ea, e1, e2, hg, kk, L, r⟩ := h
      exact ⟨c, σ', g, ea, e1, by rw [e2]; rfl, hg, (kk.mono fun a h => nomatch h), L, r⟩
    · obtain ⟨c, σ', g, ea, e1, e2, hg, kk, L, r⟩ := h
      exact ⟨c, σ', g, ea, e1, by rw [e2]; rfl, hg, (kk.mono fun a h => nomatch h), L, r⟩
  · refine asg_at hy he st fw ?_ hne
    show pure (env.blockKind == .function && env.kindOf y == some .local && py.line == pos.line && !(scope.names.any fun (n, k) => n == y && (k == .local || k == .cell))) = _
    rw [Bool.eq_false_iff.mpr hsw]
end
end Mine
end

/-! # Stmt3 -/
section
set_option autoImplicit false
namespace Mine
open PySem PyProof.Rows
section
variable {S : Stat} {C : Ctx} {T : Nat → Option Fn} {F Fq : Calls} {q : Bool} {d : Nat} {Γ : List Str} {sc : Scope}
variable {X X' Y Z : List Addr} {f g : List Loc} {σ : Sto} {s s' : Shared} {A : Around} {E : Value → Shared → Prop} {I a : Addr} {its : Items} {i : Nat} {env : Env} {ρ : List V}
theorem LSOk.calm {ss : List Stmt} {cs : List CS} {γ : Type} {rk : Fl → Sto → R γ} (h : LSOk S F Fq q d Γ sc ss cs) (st : St S q d Γ sc env ρ f X σ s A) (fw : FW env X) (hne : (exL F Fq q cs ρ σ).calm.bind rk ≠ .stuck) :
    ∃ x σ', (exL F Fq q cs ρ σ).calm.bind rk = rk x σ' ∧ rk x σ' ≠ .stuck ∧ ∀ E, wpAny (model S.prog S.w) A (execs ss env) (fun fl s' => ∃ g, Fresh g s ∧ Kp f (ya env) s s' ∧ Lk S X (f ++ g) σ' s'.heap ∧ FlR S X (f ++ g) s'.heap env Γ sc x fl) E s := by
  have hs := h env ρ f X σ s A st fw
  cases hr : exL F Fq q cs ρ σ with
  | ok x σ' =>
    rw [hr] at hne hs
    refine ⟨x, σ', rfl, hne, fun E => wpAny_mono (hs (by simp)) (fun a s' q => ?_) fun e s' q => ?_⟩
    · obtain ⟨x', σ'', g, e, hg, k, L, p⟩ := q
      cases e
      exact ⟨g, hg, k, L, p⟩
    · obtain ⟨_, _, _, _, _, e, _⟩ := q; cases e
  | exc _ _ => rw [hr] at hne; exact absurd rfl hne
  | stuck => rw [hr] at hne; exact absurd rfl hne
structure FTurn (S : Stat) (s : Shared) (X : List Addr) (f : List Loc) (I : Addr) (env : Env) (Γ : List Str) (sc : Scope) (its : Items) (i : Nat) (ρ : List V) (σ' : Sto) (g : List Loc) (s' : Shared) : Prop where
  fresh : Fresh g s
  kp : Kp f (ya env) s s'
  lk : Lk S (I :: X) (f ++ g) σ' s'.heap
  it : ItAt S (I :: X) (f ++ g) s'.heap I its i
  fr : FR S (I :: X) (f ++ g) s'.heap env Γ sc ρ
theorem not_ya (fw : FW env X) (hI : I ∉ X) : I ∉ ya env := fun h => by
  rcases List.mem_cons.mp h with h | h
  · exact hI (h ▸ fw.loc)
  · obtain ⟨p, hp, rfl⟩ := List.mem_map.mp h
    exact hI (fw.mem p hp)
theorem ItAt.keepY (k : Kp f Y s s') (hg : Fresh g s) (hI : I ∈ X) (hXf : ∀ a ∈ X, a ∉ addrs f) (hY : ∀ a ∈ Y, a ∈ X) (hIY : I ∉ Y) (x : ItAt S X f s.heap I its i) : ItAt S X (f ++ g) s'.heap I its i :=
  ItAt.keep (f := f) (f' := f ++ g) (X := X) (X' := X) (h := s.heap) (fun _ _ e => List.getElem?_append_left (List.getElem?_eq_some_iff.mp e).1 ▸ e)
    (fun a o ho h1 h2 => ⟨⟨fun h => (zAH.mp h).elim h1 (zAY hg ho), h2⟩, k.kept a o ho h1 fun h => h2 (hY a h)⟩) (fun o ho => k.kept I o ho (hXf I hI) hIY) x
theorem ya_mem (fw : FW env X) : ∀ a ∈ ya env, a ∈ X := fun a h => by
  rcases List.mem_cons.mp h with h | h
  · exact h ▸ fw.loc
  · obtain ⟨p, hp, rfl⟩ := List.mem_map.mp h
    exact fw.mem p hp
theorem ok_for {x : Str} {px pos : Pos} {iter : Expr} {body : List Stmt} {cb : List CS} {k : SK} {cs : List CE} (hx : slotOf Γ sc x = some i) (hsrc : SrcOk S F q d Γ sc iter k cs) (hb : LSOk S F Fq q d Γ sc body cb) :
    SOk S F Fq q d Γ sc (.For (.Name x px) iter body [] pos) (.for i k cs cb) := fun env ρ f X σ s A st fw hne => by
  have hq : q = false := by
    cases q with
    | false => rfl
    | true => rw [x_for] at hne; exact absurd rfl hne
  have hh := st.cx.hand hq
  have key : exS F Fq q (.for i k cs cb) ρ σ = ((evL F q cs ρ σ).bind fun vs σ => R.lift σ (itemsBy σ k vs)).bind fun it σ => forItems it (fun x ρ σ => (exL F Fq q cb (ρ.set i x) σ).calm) ρ σ := by rw [x_for, hq, if_neg (by simp), R.bind_assoc]
  rw [key] at hne ⊢
  have hr : ((evL F q cs ρ σ).bind fun vs σ => R.lift σ (itemsBy σ k vs)) ≠ .stuck := fun e => hne (by rw [e]; rfl)
  refine wpAny_For ?_ (hsrc.1 env)
  refine wpAny_mono (hsrc.2 env ρ f X σ s A st hr) (fun xv s₁ h₁ => wpAny_mono h₁ (fun it s₂ h₂ => ?_) fun e s' h => ?_) fun e s' h => ?_
  rotate_left
  · obtain ⟨c, σ', g, ea, e1, e2, hg, kk, L, r⟩ := h
    exact ⟨c, σ', g, ea, e1, by rw [e2]; rfl, hg, (kk.mono fun a h => nomatch h), L, r⟩
  · obtain ⟨c, σ', g, ea, e1, e2, hg, kk, L, r⟩ := h
    exact ⟨c, σ', g, ea, e1, by rw [e2]; rfl, hg, (kk.mono fun a h => nomatch h), L, r⟩
  obtain ⟨its, σ₁, g, I, e1, rfl, hI, hIX, hg, kk, L, x0⟩ := h₂
  rw [e1, R.bind_ok] at hne ⊢
  have hIya := not_ya fw hIX
  have hIin : I ∈ I :: X := List.mem_cons_self
  have fw' : FW env (I :: X) := fw.more
  have hZX : ∀ a ∈ X, a ∈ I :: X ∧ a ∉ [I] := fun a ha => ⟨List.mem_cons_of_mem _ ha, fun h => hIX (List.mem_singleton.mp h ▸ ha)⟩
  have hZ : ∀ a ∈ [I], a ∈ I :: X := fun a ha => List.mem_singleton.mp ha ▸ List.mem_cons_self
  have fr0 : FR S (I :: X) (f ++ g) s₂.heap env Γ sc ρ := st.fr.later st.lk kk hg (fun a ha => (List.mem_cons.mp ha).elim (fun h => .inr (h ▸ hI)) .inl) fun a ha => List.mem_cons_of_mem _ ha
  have t0 : FTurn S s X f I env Γ sc its 0 ρ σ₁ g s₂ := ⟨hg, (kk.mono fun a h => nomatch h), L, x0, fr0⟩
  unfold forItems at hne ⊢
  generalize htot : forIt its (fun x ρ σ => (exL F Fq q cb (ρ.set i x) σ).calm) (itFuel σ₁ its) 0 ρ σ₁ = total at hne ⊢
  refine codeAny_forLoop (fun n s' => ∃ j ρ' σ' g, forIt its (fun x ρ σ => (exL F Fq q cb (ρ.set i x) σ).calm) n j ρ' σ' = total ∧ FTurn S s X f I env Γ sc its j ρ' σ' g s') ?_ (itFuel σ₁ its) ⟨0, ρ, σ₁, g, htot, t0⟩
  rintro n s' ⟨j, ρ', σ', g', hf, t⟩
  cases n with
  | zero => rw [forIt_zero] at hf; exact absurd hf.symm hne
  | succ n =>
  rw [forIt_succ] at hf
  cases hnx : nextIt σ' its j with
  | none => rw [hnx] at hf; exact absurd hf.symm hne
  | some o =>
  rw [hnx] at hf
  cases o with
  | none =>
    have hf : R.ok (Fl.next ρ') σ' = total := hf
    refine wpAny_mono (next_end hh t.lk t.it hnx) (fun r s₃ h₃ => ?_) fun _ _ x => x
    obtain ⟨rfl, hr3, hk3⟩ := h₃
    have hkk : ∀ b o, b ∉ [I] → s'.heap.get? b = some o → s₃.heap.get? b = some o := fun b o hb e => hk3 b o (fun q => hb (q ▸ List.mem_singleton.mpr rfl)) e
    refine wpAny_execs_nil ?_
    exact ⟨.next ρ', σ', g', hf.symm, t.fresh, t.kp.ends (Z := [I]) hr3 hkk (fun b hb => List.mem_singleton.mp hb ▸ hI), t.lk.drop hZX hZ hkk, rfl, t.fr.drop fw hZX hZ hkk⟩
  | some x' =>
  have hf : ((exL F Fq q cb (ρ'.set i x') σ').calm.bind fun fl σ => match fl with | .next ρ => forIt its (fun x ρ σ => (exL F Fq q cb (ρ.set i x) σ).calm) n (j + 1) ρ σ | .ret v => .ok (.ret v) σ) = total := hf
  refine wpAny_mono (next_item hIin t.lk t.it hnx) (fun r s₃ h₃ => ?_) fun _ _ x => x
  obtain ⟨v, rfl, m1, it1, rv⟩ := h₃
  have hlI : env.locals ≠ I := fun h => hIX (h ▸ fw.loc)
  have hcI : ∀ x c, env.cells.lookup x = some c → c ≠ I := fun x c e h => hIX (h ▸ fw.cellX x c e)
  have fr1 := t.fr.mv m1 hIin hlI hcI
  refine wpAny_assign_Name (zBP fr1 fw' hx rv fun b s4 hY hX m4 fr4 => ?_)
  have hbI : I ≠ b := fun h => hIya (h ▸ hY)
  have lk4 := m4.lk hX (m1.lk hIin t.lk)
  have it4 := it1.mv m4 hX hbI
  have kp3 : Kp f (ya env) s s₃ := t.kp.mv m1 hI
  have kp4 : Kp f (ya env) s s4 := kp3.trans t.fresh (m4.kp hY)
  have st4 : St S q d Γ sc env (ρ'.set i x') (f ++ g') (I :: X) σ' s4 A := ⟨st.cx.keep kp4 t.fresh, fr4, lk4⟩
  obtain ⟨fl5, σ5, e5, hne5, w5⟩ := hb.calm st4 fw' (by rw [hf]; exact hne)
  rw [e5] at hf
  refine wpAny_mono (w5 _) (fun fl s6 h6 => ?_) fun _ _ x => x
  obtain ⟨g6, hg6, k6, lk6, p6⟩ := h6
  have hXf : ∀ a ∈ I :: X, a ∉ addrs (f ++ g') := fun a ha => (lk4.hid a ha).2.1
  have it6 := it4.keepY k6 hg6 hIin hXf (ya_mem fw') hIya
  have kp6 : Kp f (ya env) s s6 := kp4.trans t.fresh k6
  have fg6 : Fresh (g' ++ g6) s := t.fresh.trans kp4.live hg6
  rw [List.append_assoc] at lk6 it6 p6
  cases fl5 with
  | next ρ6 =>
    obtain ⟨rfl, fr6⟩ := p6
    exact ⟨n, Nat.lt_succ_self n, j + 1, ρ6, σ5, g' ++ g6, hf, fg6, kp6, lk6, it6, fr6⟩
  | ret v6 =>
    obtain ⟨w6, rfl, r6⟩ := p6
    have hf : R.ok (Fl.ret v6) σ5 = total := hf
    exact ⟨.ret v6, σ5, g' ++ g6, hf.symm, fg6, kp6, lk6.drop (Z := []) (fun a ha => ⟨List.mem_cons_of_mem _ ha, fun h => nomatch h⟩) (fun a h => nomatch h) (fun _ _ _ e => e), w6, rfl, r6.less fun a ha => List.mem_cons_of_mem _ ha⟩
end
end Mine
end

/-! # Stmt4 -/
section
set_option autoImplicit false
namespace Mine
open PySem PyProof.Rows
section
variable {S : Stat} {C : Ctx} {T : Nat → Option Fn} {F Fq : Calls} {q : Bool} {d : Nat} {Γ : List Str} {sc : Scope}
variable {X X' Y Z : List Addr} {f g : List Loc} {σ : Sto} {s s' : Shared} {A : Around} {E : Value → Shared → Prop} {I a : Addr} {its : Items} {i : Nat} {env : Env} {ρ : List V}
end
end Mine
end

/-! # StmtX -/
section
set_option autoImplicit false
namespace Mine
open PySem PyProof.Rows
section
variable {S : Stat} {C : Ctx} {T : Nat → Option Fn} {F Fq : Calls} {q : Bool} {d : Nat} {Γ : List Str} {sc : Scope}
variable {X X' Y Z : List Addr} {f g : List Loc} {σ : Sto} {s s' s₀ : Shared} {A : Around} {E : Value → Shared → Prop} {I a ea : Addr} {its : Items} {i : Nat} {env : Env} {ρ : List V}
theorem ok_stuck {st : Stmt} : SOk S F Fq q d Γ sc st .stuck := fun env ρ f X σ s A _ _ hne => absurd rfl hne
theorem exc_name (fs : Facts S C T) {x : Str} {p : Pos} {c : Cls} {Q : Value → Shared → Prop} {σ' : Sto} (fr : FR S X f s.heap env Γ sc ρ) (L : Lk S X f σ' s.heap) (hx : excOf C sc x = some c) (h : C.excs.lookup x = some c → x ≠ ("ValueError" : Str) → Q (S.cl c) s) :
    wpAny (model S.prog S.w) A (eval (.Name x p) env) Q E s := by
  unfold excOf at hx
  split at hx
  · rename_i hc
    simp only [Bool.and_eq_true, bne_iff_ne, ne_eq] at hc
    obtain ⟨⟨hg, hd⟩, hv⟩ := hc
    obtain ⟨mg, mb, h1, h2, _, _, _, _, h3⟩ := fs.g
    refine wpAny_Name ?_ (by simpa using hd)
    rcases h3 x c hx with h4 | ⟨h4, h5⟩
    · exact zBQ fr.kind (fr.isGlob hg) (by rw [fr.glob]; exact L.ns h1) h4 (h hx hv)
    · exact zDO fr.kind (fr.isGlob hg) (by rw [fr.glob]; exact L.ns h1) h4 (by rw [fr.blt]; exact L.ns h2) h5 (h hx hv)
  · first | exact zAA hx | exact ff_tt hx | cases hx
theorem ok_raise (fs : Facts S C T) {x m : Str} {np kp cp pos : Pos} {kk : Nat} {c : Cls} (hm : (m.length ≤ 1000 && PyData.strOk m) = true) (hx : excOf C sc x = some c) :
    SOk S F Fq q d Γ sc (.Raise (some (.Call (.Name x np) [.Constant (.str m) kk kp] [] cp)) none pos) (.raise c) := fun env ρ f X σ s A st fw hne => by
  have e0 : exS F Fq q (.raise c) ρ σ = if q = true then .stuck else .exc c σ := rfl
  rw [e0] at hne ⊢
  by_cases hq : q = true
  · rw [if_pos hq] at hne; exact absurd rfl hne
  rw [if_neg hq]
  have hh : A.handled = none := st.cx.hand (by simpa using hq)
  have hcl : ∃ y, C.excs.lookup y = some c ∧ y ≠ ("ValueError" : Str) := by
    unfold excOf at hx
    split at hx
    · rename_i hc
      simp only [Bool.and_eq_true, bne_iff_ne, ne_eq] at hc
      exact ⟨x, hx, hc.2⟩
    · first | exact zAA hx | exact ff_tt hx | cases hx
  obtain ⟨y, hy, hv⟩ := hcl
  obtain ⟨Ca, bm, N, nm, qn, bs, hdct, sn, sub, ab, col, dd, k0, k1, k2, k3, k5, mN, hcl, hC, hN, hni, OT, -⟩ := (fs.exc y c hy).2 hv
  refine wpAny_Raise_call_subT (C := Ca) (nm := nm) (q := qn) (N := N) (bs := bs) (bm := bm) (hdct := hdct) (sn := sn) (sub := sub) (ab := ab) (col := col) (dd := dd) (k0 := k0) (k1 := k1) (k2 := k2) (k3 := k3) (k5 := k5)
    PySem.F.excBase_ValueError (mN := mN) (OT.hasType rfl) hh rfl hni (exc_name fs st.fr st.lk hx fun _ _ => ⟨hcl, ?_⟩)
  refine zBi rfl (spliced1 rfl ?_)
  refine wpAny_mono ((ok_str (F := F) (q := q) (d := d) (Γ := Γ) (sc := sc) hm) env ρ f X σ s A st (by rw [x_lit]; simp)) (fun v s₁ h₁ => ?_) fun e s' h => ?_
  · obtain ⟨b, σ', g, e, hg, k, L, r⟩ := h₁
    rw [x_lit] at e; cases e
    refine ⟨rfl, by show 1 ≤ sizeLine; decide, L.base _ _ hC, L.ns hN, OT.keeps L.base, fun h' e hm => ?_⟩
    obtain ⟨t, he, -, -⟩ := hm.there
    have ex : Ext s₁ { s₁ with heap := h' } := ⟨rfl, hm.keeps⟩
    have ky : Kp f (ya env) s s₁ := k.mono fun a h => nomatch h
    refine ⟨c, σ, g, e, rfl, rfl, hg, ky.trans hg (ex.kp _ _), ex.lk L, zAc k.live hm.new, (fs.exc y c hy).2 hv, [e], _, _, L.hideNew ex hm.new he, he, hcl.symm, rfl, .inl ⟨rfl, rfl⟩⟩
  · obtain ⟨_, _, _, _, _, e, _⟩ := h
    rw [x_lit] at e; cases e
noncomputable def tkEnv (k : TK) (v : V) (ρ : List V) : List V :=
  match k with
  | .asg i => ρ.set i v
  | _ => ρ
inductive QT (S : Stat) (X : List Addr) (env : Env) (Γ : List Str) (sc : Scope) (f : List Loc) (s : Shared) (ρ : List V) (k : TK) (r : R V) (fl : Flow) (s' : Shared) : Prop where
  | mk (v : V) (σ' : Sto) (g : List Loc) (e : r = .ok v σ') (hg : Fresh g s) (kp : Kp f (ya env) s s') (L : Lk S X (f ++ g) σ' s'.heap) (p : FlR S X (f ++ g) s'.heap env Γ sc (tkFl k v ρ) fl) (fr : FR S X (f ++ g) s'.heap env Γ sc (tkEnv k v ρ))
noncomputable def TKOk (S : Stat) (F : Calls) (q : Bool) (d : Nat) (Γ : List Str) (sc : Scope) (ss : List Stmt) (k : TK) (c : CE) : Prop :=
  ∀ (env : Env) (ρ : List V) (f : List Loc) (X : List Addr) (σ : Sto) (s : Shared) (A : Around), St S q d Γ sc env ρ f X σ s A → FW env X → evE F q c ρ σ ≠ .stuck →
    wpAny (model S.prog S.w) A (execs ss env) (QT S X env Γ sc f s ρ k (evE F q c ρ σ)) (ES S X [] f false s (evE F q c ρ σ)) s
theorem tk_ret {e : Expr} {c : CE} {pos : Pos} (h : EOk S F q d Γ sc e c) : TKOk S F q d Γ sc [.Return (some e) pos] .ret c := fun env ρ f X σ s A st fw hne => by
  refine wpAny_execs_cons (wpAny_Return_some (wpAny_mono (h env ρ f X σ s A st hne) (fun v s₁ h₁ => ?_) fun _ _ x => x))
  obtain ⟨b, σ', g, e, hg, k, L, r⟩ := h₁
  exact ⟨b, σ', g, e, hg, (k.mono fun a h => nomatch h), L, ⟨v, rfl, r⟩, (st.keep hg k L).fr⟩
theorem tk_exp {e : Expr} {c : CE} {pos : Pos} (h : EOk S F q d Γ sc e c) (hs : ∀ env n t, swapsWith e t n env = pure false) : TKOk S F q d Γ sc [.Expr e pos] .exp c := fun env ρ f X σ s A st fw hne => by
  refine wpAny_execs_cons (wpAny_Expr_any (wpAny_mono (h env ρ f X σ s A st hne) (fun v s₁ h₁ => ?_) fun _ _ x => x) (by simp [interactive, st.fr.kind]) (hs _ _ _))
  obtain ⟨b, σ', g, e, hg, k, L, r⟩ := h₁
  exact wpAny_execs_nil ⟨b, σ', g, e, hg, (k.mono fun a h => nomatch h), L, ⟨rfl, (st.keep hg k L).fr⟩, (st.keep hg k L).fr⟩
theorem tk_asg {x : Str} {px pos : Pos} {e : Expr} {c : CE} (hx : slotOf Γ sc x = some i) (h : EOk S F q d Γ sc e c) (hs : ∀ env n t, swapsWith e t n env = pure false) : TKOk S F q d Γ sc [.Assign [.Name x px] e pos] (.asg i) c := fun env ρ f X σ s A st fw hne => by
  refine wpAny_execs_cons (wpAny_Assign_Name (wpAny_mono (h env ρ f X σ s A st hne) (fun v s₁ h₁ => ?_) fun _ _ x => x) (hs _ _ _))
  obtain ⟨b, σ', g, e, hg, k, L, r⟩ := h₁
  refine zBP (st.keep hg k L).fr fw hx r fun b' s' hY hX m fr => wpAny_execs_nil ?_
  have ky : Kp f (ya env) s s₁ := k.mono fun a h => nomatch h
  exact ⟨b, σ', g, e, hg, ky.trans hg (m.kp hY), m.lk hX L, ⟨rfl, fr⟩, fr⟩
end
end Mine
end

/-! # StmtY -/
section
set_option autoImplicit false
namespace Mine
open PySem PyProof.Rows
section
variable {S : Stat} {C : Ctx} {T : Nat → Option Fn} {F Fq : Calls} {q : Bool} {d : Nat} {Γ : List Str} {sc : Scope}
variable {X X' Y Z : List Addr} {f g : List Loc} {σ : Sto} {s s' s₀ : Shared} {A : Around} {E : Value → Shared → Prop} {I a ea : Addr} {its : Items} {i : Nat} {env : Env} {ρ : List V}
theorem match_at {M : Model} {h : Heap} {g : Array GenState} {d : Drawn} {t : Nat} {os : OsState} {oe : Obj} {Q : Bool → Shared → Prop}
    {nm q nm' q' : Str} {Ca N Cd N' : Addr} {bs bm bs' bm' : List Value} {hdct hdct' : Bool} {sn sn' : List Str} {sub sub' : List Value} {ab ab' : Bool} {col col' : Option Bool} {dd dd' : Option Addr} {k0 k1 k2 k3 k5 k0' k1' k2' k3' k5' : Option Value} {newId newId' : String}
    (hC : h.get? Ca = some (excClassObj nm q Ca N bs bm hdct sn sub ab col dd k0 k1 k2 k3 k5 newId)) (hD : h.get? Cd = some (excClassObj nm' q' Cd N' bs' bm' hdct' sn' sub' ab' col' dd' k0' k1' k2' k3' k5' newId'))
    (he : h.get? ea = some oe) (hcls : oe.cls = .ref Ca) (hbase : bm'.contains (.type "BaseException") = true)
    {b : Bool} (hb : (Value.ref Ca :: bm).contains (.ref Cd) = b) (hq : Q b ⟨h, g, d, t, os⟩) : wpAny M A (excMatches (.ref ea) (.ref Cd)) Q E ⟨h, g, d, t, os⟩ := by
  have hcB : (Value.ref Cd :: bm').contains (.type "BaseException") = true := by rw [List.contains_cons, hbase, Bool.or_true]
  have f := tc_notTuple
  unfold excMatches
  cases b <;>
  (repeat (first | (with_reducible refine wpAny_loadPart_at he ?_; rw [hcls]) | with_reducible refine wpAny_loadPart_at hD ?_ | (with_reducible refine wpAny_isSubtype_exc hD ?_; rw [hcB]) | (with_reducible refine wpAny_isSubtype_exc hC ?_; rw [hb]) | wp_step)
   exact hq)
theorem match_sound {c k : Cls} {oe : Obj} {Q : Bool → Shared → Prop} (L : Lk S X f σ s.heap) (xc : ExcCl S c) (xk : ExcCl S k) (hk : k ∈ S.kn) (he : s.heap.get? ea = some oe) (hcls : oe.cls = S.cl c) (h : Q (c.sub k) s) :
    wpAny (model S.prog S.w) A (excMatches (.ref ea) (S.cl k)) Q E s := by
  obtain ⟨Ca, bm, N, nm, qn, bs, hdct, sn, sub, ab, col, dd, k0, k1, k2, k3, k5, mN, hcl, hC, hN, hni, OT, hm⟩ := xc
  obtain ⟨Cd, bm', N', nm', qn', bs', hdct', sn', sub', ab', col', dd', k0', k1', k2', k3', k5', mN', hcl', hC', hN', hni', OT', hm'⟩ := xk
  have := hm k hk
  rw [hcl'] at this ⊢
  rw [hcl] at hcls
  obtain ⟨hp, g, d, tk, os⟩ := s
  exact match_at (L.base _ _ hC) (L.base _ _ hC') he hcls (OT'.hasType rfl) this h
theorem zDM {e : Value} {env' : Env} (h : env'.frame = env.frame) : noteFrame e env = noteFrame e env' := by
  unfold noteFrame PySem.frameOf
  rw [h]
theorem Cx.mark {fr : Option Addr} {h : Heap} {v : Value} (c : Cx S A q d f h fr) : Cx S (A.mark (some v)) true d f h fr :=
  ⟨c.depth, c.units, fun h => (nomatch h), c.frs⟩
theorem flight_sound {M : Model} {k : Cls} {Q : Unit → Shared → Prop} {h₀ : Heap} (x : ExcR S X f σ s.heap h₀ ea k) (hX : ∀ a ∈ X, ∃ o, h₀.get? a = some o)
    (hQ : ∀ h' hs, (∀ a ∈ hs, h₀.get? a = none) → Noted S f s.heap h' hs → Lk S X f σ h' → ExcR S X f σ h' h₀ ea k → Q () { s with heap := h' }) : wpAny M A (setFlight (.ref ea) none) Q E s := by
  obtain ⟨e1, ec, hs, oe, vs, Lh, e4, e5, e6, e8⟩ := id x
  rcases e8 with ⟨rfl, v1⟩ | ⟨T, oT, ts, rfl, t0, t1, t2, t3, t4, t5⟩
  · unfold setFlight
    refine wpAny_bind (wpAny_field e4 e6 v1 ?_)
    rw [if_neg (by decide)]
    refine wpAny_pure ?_
    exact hQ s.heap [] (fun a ha => nomatch ha) ⟨fun b o _ e => ⟨o, e, .refl o⟩, Lh.base, fun _ _ => rfl⟩ (Lh.less fun a ha => List.mem_append_right _ ha) x
  · refine wpAny_setFlight_none e4 e6 t2 t3 t4 (Array.getElem?_eq_some_iff.mp t5).1 ?_
    have hd₃ := Obj.data_mapFields t4 (·.setIfInBounds 3 Value.none)
    have hT := Heap.get?_update_self (Obj.mapFields (·.setIfInBounds 3 Value.none)) t3 (Obj.isFreed_of_fields hd₃)
    have other : ∀ b, b ≠ T → (s.heap.update T (Obj.mapFields (·.setIfInBounds 3 Value.none))).get? b = s.heap.get? b := fun b hb => Heap.get?_update_other _ _ (Ne.symm hb)
    have hfree : ∀ a ∈ [ea, T], h₀.get? a = none := fun a ha => by
      rcases List.mem_cons.mp ha with rfl | ha
      · exact e1
      · rw [List.mem_singleton.mp ha]; exact t0
    have hTm : T ∈ [ea, T] ++ X := List.mem_append_left _ (List.mem_cons_of_mem _ (List.mem_singleton.mpr rfl))
    have N : Noted S f s.heap (s.heap.update T (Obj.mapFields (·.setIfInBounds 3 Value.none))) [ea, T] := by
      refine ⟨fun b o hb e => ⟨o, (other b fun q => hb (q ▸ List.mem_cons_of_mem _ (List.mem_singleton.mpr rfl))).trans e, .refl o⟩, fun b o e => ?_, fun b hb => other b fun q => ?_⟩
      · exact (other b fun q => by rw [q, (Lh.hid T hTm).1] at e; cases e).trans (Lh.base b o e)
      · exact (Lh.hid T hTm).2.1 (q ▸ hb)
    have hXs : ∀ a ∈ X, a ∉ [ea, T] := fun a ha m => by obtain ⟨o, e⟩ := hX a ha; rw [hfree a m] at e; cases e
    have L1 : Lk S ([ea, T] ++ X) f σ (s.heap.update T (Obj.mapFields (·.setIfInBounds 3 Value.none))) := N.lk Lh hXs fun a ha => ⟨.inl ha, by
      rcases List.mem_cons.mp ha with rfl | ha
      · exact ⟨_, (other a (Ne.symm t1)).trans e4⟩
      · rw [List.mem_singleton.mp ha]; exact ⟨_, hT⟩⟩
    refine hQ _ [ea, T] hfree N (L1.less fun a ha => List.mem_append_right _ ha) ⟨e1, ec, [ea, T], oe, vs, L1, (other ea (Ne.symm t1)).trans e4, e5, e6, .inr ⟨T, _, _, rfl, t0, t1, t2, hT, hd₃, by simp [(Array.getElem?_eq_some_iff.mp t5).1]⟩⟩
noncomputable def AsOk (Γ : List Str) (sc : Scope) (n : Option Str) (as : Option Nat) : Prop := (n = none ∧ as = none) ∨ False
structure HdOk (S : Stat) (C : Ctx) (Fq : Calls) (d : Nat) (Γ : List Str) (sc : Scope) (h : ExceptHandler) (c : Hd) : Prop where
  ex : ∃ x np n b₀ body pos, h = .ExceptHandler (some (.Name x np)) n (b₀ :: body) pos ∧ excOf C sc x = some c.cls ∧ AsOk Γ sc n c.as ∧ TKOk S Fq true d Γ sc (b₀ :: body) c.tk c.e
inductive TKCalm (S : Stat) (A : Around) (X : List Addr) (env : Env) (Γ : List Str) (sc : Scope) (f : List Loc) (s : Shared) (ρ : List V) (ss : List Stmt) (k : TK) (r : R V) : Prop
  | mk (v : V) (σ' : Sto) (e : r = .ok v σ') (w : ∀ E, wpAny (model S.prog S.w) A (execs ss env) (QT S X env Γ sc f s ρ k (.ok v σ')) E s)
theorem TKOk.calm {ss : List Stmt} {k : TK} {c : CE} {γ : Type} {rk : V → Sto → R γ} (h : TKOk S F q d Γ sc ss k c) (st : St S q d Γ sc env ρ f X σ s A) (fw : FW env X) (hne : (evE F q c ρ σ).calm.bind rk ≠ .stuck) :
    TKCalm S A X env Γ sc f s ρ ss k (evE F q c ρ σ) := by
  have hs := h env ρ f X σ s A st fw
  cases hr : evE F q c ρ σ with
  | ok v σ' =>
    rw [hr] at hs
    refine ⟨v, σ', rfl, fun E => wpAny_mono (hs (by simp)) (fun _ _ x => x) fun e s' q => ?_⟩
    obtain ⟨_, _, _, _, _, e, _⟩ := q; cases e
  | exc _ _ => rw [hr] at hne; exact absurd rfl hne
  | stuck => rw [hr] at hne; exact absurd rfl hne
structure Met (S : Stat) (q : Bool) (d : Nat) (Γ : List Str) (sc : Scope) (env : Env) (ρ : List V) (f g : List Loc) (X : List Addr) (σ₀ σ : Sto) (s₀ s : Shared) (A : Around) (ea : Addr) (k : Cls) : Prop where
  st : St S q d Γ sc env ρ f X σ₀ s₀ A
  fw : FW env X
  fresh : Fresh g s₀
  kp : Kp f [] s₀ s
  lk : Lk S X (f ++ g) σ s.heap
  exc : ExcR S X (f ++ g) σ s.heap s₀.heap ea k
theorem Met.alive {σ₀ : Sto} {k : Cls} (m : Met S q d Γ sc env ρ f g X σ₀ σ s₀ s A ea k) : ∀ a ∈ X, ∃ o, s₀.heap.get? a = some o := fun a ha => (m.st.lk.hid a ha).2.2
theorem handle_ok (fs : Facts S C T) {σ₀ : Sto} {k : Cls} (m : Met S q d Γ sc env ρ f g X σ₀ σ s₀ s A ea k) : ∀ {hs : List ExceptHandler} {cs : List Hd}, All2 (HdOk S C Fq d Γ sc) hs cs → exH Fq cs ρ k σ ≠ .stuck →
    wpAny (model S.prog S.w) A (handleBy (.ref ea) env hs) (QF S X env Γ sc f s₀ (exH Fq cs ρ k σ)) E s := by
  intro hs cs h
  induction h with
  | nil => intro hne; exact absurd rfl hne
  | @cons h c hs cs hh hr ih =>
    intro hne
    obtain ⟨x, np, n, b₀, body, pos, rfl, hx, has, htk⟩ := hh.ex
    have st := m.st.keep m.fresh m.kp m.lk
    have e0 : exH Fq (c :: cs) ρ k σ = if k.sub c.cls = true then ((evE Fq true c.e (hdEnv c.as k ρ) σ).calm.bind fun v σ => .ok (hdEnd c.as (tkFl c.tk v (hdEnv c.as k ρ))) σ) else exH Fq cs ρ k σ := rfl
    rw [e0] at hne ⊢
    obtain ⟨e1, ec, hs', oe, vs, Lh, e4, e5, e6, e8⟩ := id m.exc
    refine wpAny_handleBy_cons (codeAny_handlers_test (exc_name fs st.fr m.lk hx fun hc hv => ?_)) (by intro q; cases q)
    refine match_sound m.lk ec ((fs.exc x c.cls hc).2 hv) (fs.exc x c.cls hc).1 e4 e5 ?_
    by_cases hsub : k.sub c.cls = true
    · rw [if_pos hsub] at hne
      rw [hsub]
      simp only [if_true]
      rcases has with ⟨rfl, ha⟩ | has
      · rw [ha] at hne ⊢
        refine codeAny_handlers_suite (flight_sound m.exc m.alive fun h' hs'' hf N L' x' => ?_)
        have kp' := N.kp m.kp hf
        have st' : St S true d Γ sc env ρ (f ++ g) X σ { s with heap := h' } (A.mark (some (.ref ea))) := by
          have := m.st.keep m.fresh kp' L'
          exact ⟨this.cx.mark, this.fr, this.lk⟩
        obtain ⟨v, σ', ev, w⟩ := htk.calm st' m.fw hne
        refine wpAny_mono (w _) (fun fl s₁ q => ?_) fun _ _ x => x
        obtain ⟨v', σ2, g2, ez, hg2, k2, L2, p2, -⟩ := q
        cases ez
        rw [show hdEnv none k ρ = ρ from rfl, ev]
        have kp1 : Kp f (ya env) s₀ { s with heap := h' } := kp'.mono fun a h => nomatch h
        rw [List.append_assoc] at L2 p2
        exact ⟨_, σ', g ++ g2, rfl, m.fresh.trans kp1.live hg2, kp1.trans m.fresh k2, L2, p2⟩
      · exact has.elim
    · rw [if_neg hsub] at hne ⊢
      have : k.sub c.cls = false := by simpa using hsub
      rw [this]
      exact ih hne
theorem ok_try (fs : Facts S C T) {b₀ : Stmt} {body : List Stmt} {h₀ : ExceptHandler} {hs : List ExceptHandler} {k : TK} {c : CE} {cs : List Hd} {pos : Pos} (hb : TKOk S F q d Γ sc (b₀ :: body) k c) (hh : All2 (HdOk S C Fq d Γ sc) (h₀ :: hs) cs) :
    SOk S F Fq q d Γ sc (.Try (b₀ :: body) (h₀ :: hs) [] [] pos) (.try k c cs) := fun env ρ f X σ s A st fw hne => by
  have e0 : exS F Fq q (.try k c cs) ρ σ = if q = true then .stuck else (evE F q c ρ σ).orElse (fun v σ => .ok (tkFl k v ρ) σ) (exH Fq cs ρ) := rfl
  rw [e0] at hne ⊢
  by_cases hq : q = true
  · rw [if_pos hq] at hne; exact absurd rfl hne
  rw [if_neg hq] at hne ⊢
  have hr : evE F q c ρ σ ≠ .stuck := fun e => hne (by rw [e]; rfl)
  refine wpAny_Try_except (wpAny_mono (hb env ρ f X σ s A st fw hr) (fun fl s₁ h₁ => ?_) fun e s₁ h₁ => ?_)
  · obtain ⟨v, σ', g, e, hg, kk, L, p, -⟩ := h₁
    rw [e]
    have : QF S X env Γ sc f s ((R.ok v σ').orElse (fun v σ => .ok (tkFl k v ρ) σ) (exH Fq cs ρ)) fl s₁ := ⟨_, σ', g, rfl, hg, kk, L, p⟩
    cases fl with
    | next => exact wpAny_execs_nil this
    | _ => exact this
  · obtain ⟨c', σ', g, ea, rfl, e2, hg, kk, L, x⟩ := h₁
    rw [e2] at hne ⊢
    have hne : exH Fq cs ρ c' σ' ≠ .stuck := hne
    obtain ⟨en, l, h1, h2, h3⟩ := (st.cx.keep kk hg).frs
    have hX : ∀ a ∈ X, ∃ o, s.heap.get? a = some o := fun a ha => (st.lk.hid a ha).2.2
    obtain ⟨h0, L1, o, es, n, h4, -⟩ := h3 en List.mem_cons_self
    rw [zDM (env' := en) h2]
    refine note_sound h1 h3 h4 x hX (fun a h => zAc kk.live h) fun h' hs' hf _ N L' x' => ?_
    have m : Met S q d Γ sc env ρ f g X σ σ' s { s₁ with heap := h' } A ea c' := ⟨st, fw, hg, N.kp kk hf, L', x'⟩
    exact handle_ok fs m hh hne
end
end Mine
end

/-! # ExprB -/
section
set_option autoImplicit false
namespace Mine
open PySem PyProof.Rows
section
variable {S : Stat} {C : Ctx} {T : Nat → Option Fn} {F Fq : Calls} {q : Bool} {d : Nat} {Γ : List Str} {sc : Scope}
variable {X X' Y Z : List Addr} {f g : List Loc} {σ : Sto} {s s' : Shared} {A : Around} {E : Value → Shared → Prop} {env : Env} {ρ : List V}
theorem few_any {es : List Expr} {pos : Pos} (hs : es.any isStar = false) (hl : es.length ≤ 20) : ((backTo pos (starEach es env)).all (fun x => !x.1) && (backToKw pos (keywordEach [] env)).all (fun x => x.1.isSome)
      && decide (es.length + ([] : List Keyword).length + (if ([] : List Keyword).isEmpty then 0 else 1) < 30)) = true := by
  have h1 : (backTo pos (starEach es env)).all (fun x => !x.1) = true := by
    have := zAP (env := env) (pos := pos) es hs
    rw [List.any_eq_false] at this
    rw [List.all_eq_true]
    intro x hx
    simpa using this x hx
  rw [h1]
  exact decide_eq_true (show es.length + 0 + 0 < 30 by omega)
theorem meth_call {o : Expr} {name : Str} {apos pos : Pos} {args : List Expr} {Q : Value → Shared → Prop} (hbase : attributeBase o name env (eval o env) = eval o env)
    (hfew : ((backTo pos (starEach args env)).all (fun x => !x.1) && (backToKw pos (keywordEach [] env)).all (fun x => x.1.isSome)
      && decide (args.length + ([] : List Keyword).length + (if ([] : List Keyword).isEmpty then 0 else 1) < 30)) = true) (hline : (apos.endLine == pos.line) = true)
    (h : wpAny (model S.prog S.w) A (eval o env) (fun ov s₁ => ∀ pl, wpAny (model S.prog S.w) A (getMethod ov name pl) (fun fx s₂ => wpAny (model S.prog S.w) A (callWith pos fx.1 fx.2 (backTo pos (starEach args env)) []) Q E s₂) E s₁) E s) :
    wpAny (model S.prog S.w) A (eval (.Call (.Attribute o name apos) args [] pos) env) Q E s := by
  rw [arm_eval_Call, hbase]
  refine wpAny_bind (wpAny_mono h (fun ov s₁ h₁ => ?_) fun _ _ e => e)
  refine wpAny_bind (wpAny_standAt ?_)
  have hform : methodCallForm (args.length + ([] : List Keyword).length) (backTo pos (starEach args env)) (backToKw pos (keywordEach [] env)) = true := hfew
  have hpos : methodCallPos true o env apos pos = pure pos := by unfold methodCallPos; simp [hline]
  unfold methodCall
  rw [hform]
  refine wpAny_bind (wpAny_holding (wpAny_mono (h₁ _) (fun fx s₂ h₂ => ?_) fun _ _ x => x))
  obtain ⟨fv, first⟩ := fx
  exact wpAny_bind (wpAny_of_eq hpos h₂)
inductive InstAt (S : Stat) (X : List Addr) (f : List Loc) (s : Shared) (as : List (Nat × V)) (n : Nat) (v : Value) : Prop
  | mk (ax dx : Addr) (ob : Obj) (mA : Str → Option Value) (e : v = .ref ax) (hf : f[n]? = some (ax, some dx)) (h1 : s.heap.get? ax = some ob) (h2 : ob.cls = .ref S.book ∧ ob.dict = some dx ∧ (∀ c, ob.data ≠ .cls c) ∧ dx ≠ ax) (h3 : s.heap.Ns1 dx mA)
      (h4 : ∀ k x, as.lookup k = some x → ∃ w, mA (attrName k) = some w ∧ VR S X f s.heap x w) (h5 : ∀ x v, mA x = some v → x = attrName 0 ∨ x = attrName 1) (h6 : ∀ k, k ∈ as.map (·.1) → k < 2) (h7 : s.heap.Inst ax S.book mA)
theorem inst_at {n : Nat} {v : Value} {as : List (Nat × V)} (L : Lk S X f σ s.heap) (r : VR S X f s.heap (.ref n) v) (ho : σ[n]? = some (.inst as)) :
    InstAt S X f s as n v := by
  rw [VR] at r
  obtain ⟨⟨ax, dd⟩, hl, rfl⟩ := r
  have := L.obj n _ _ hl ho
  cases dd with
  | none => exact this.elim
  | some dx =>
    obtain ⟨ob, mA, e1, e2, e3, e4, e5, e6⟩ := this
    exact ⟨ax, dx, ob, mA, rfl, hl, e1, e2, e3, e4, e5, e6, ob, e1, e2.1, e2.2.2.1, .inr ⟨dx, e2.2.1, e2.2.2.2, e3⟩⟩
theorem handed (fs : Facts S C T) {x : V} {w : Value} (r : VR S X f s.heap x w) : handedOut w = pure w := by
  cases x with
  | undef => rw [VR] at r; exact r.elim
  | none => rw [VR] at r; subst r; rfl
  | bool b => rw [VR] at r; subst r; rfl
  | int i => rw [VR] at r; obtain ⟨t, rfl⟩ := r; rfl
  | str y => rw [VR] at r; obtain ⟨⟨t, rfl⟩, _⟩ := r; rfl
  | tup xs => rw [VR] at r; obtain ⟨a, _, _, rfl, _⟩ := r; rfl
  | lst xs => rw [VR] at r; obtain ⟨a, _, _, rfl, _⟩ := r; rfl
  | ref n => rw [VR] at r; obtain ⟨l, _, rfl⟩ := r; rfl
  | exc c => rw [VR] at r; obtain ⟨a, _, rfl, _⟩ := r; rfl
  | parts => rw [VR] at r; obtain ⟨hp, rfl⟩ := r; obtain ⟨dA, _, e, _⟩ := fs.parts hp; rw [e]; rfl
theorem obj_none0 : typeLookup (.type "object") (attrName 0) = pure none := by rw [typeLookup_type, builtinLookup_eq_fast]; kernel_rfl
theorem obj_none1 : typeLookup (.type "object") (attrName 1) = pure none := by rw [typeLookup_type, builtinLookup_eq_fast]; kernel_rfl
theorem attr_names {m : Str} {k : Nat} (h : attrNames.lookup m = some k) : k < 2 ∧ m = attrName k := by
  have := zAJ h
  simp only [attrNames, List.mem_cons, Prod.mk.injEq, List.not_mem_nil, or_false] at this
  rcases this with ⟨rfl, rfl⟩ | ⟨rfl, rfl⟩
  · exact ⟨by decide, rfl⟩
  · exact ⟨by decide, rfl⟩
theorem ok_attr (fs : Facts S C T) {o : Expr} {a : CE} {m : Str} {k : Nat} {pos : Pos} (hm : C.attrs.lookup m = some k) (hb : noSuper o = true) (ho : EOk S F q d Γ sc o a) : EOk S F q d Γ sc (.Attribute o m pos) (.attr a k) := fun env ρ f X σ s A st hne => by
  rw [x_attr] at hne ⊢
  rcases fs.book with ⟨_, _, h0⟩ | ⟨hat, B⟩
  · rw [h0] at hm; first | exact zAA hm | exact ff_tt hm | cases hm
  rw [hat] at hm
  obtain ⟨hk, rfl⟩ := attr_names hm
  obtain ⟨N, mN, nm, qn, bs, sn, sub, col, dd, k0, k1, k2, k3, k5, hC, hN, hq, _⟩ := B
  rw [arm_eval_Attribute, zBo hb]
  refine wpAny_bind (Sim.goQ (P' := PV S X) (ho env ρ f X σ s A st) hne (fun _ _ x => x) (fun _ _ x => x) fun va a' σ₁ g₁ s₁ hne hg kk L ra hQ hE => wpAny_bind (wpAny_standAt (wpAny_bind (wpAny_holding ?_))))
  obtain ⟨x, hx⟩ := zAq hne
  rw [hx] at hQ
  cases a' with
  | ref n =>
    have hx : attrO k σ₁[n]? = some x := hx
    cases hσ : σ₁[n]? with
    | none => rw [hσ] at hx; first | exact zAA hx | exact ff_tt hx | cases hx
    | some obj =>
    rw [hσ] at hx
    cases obj with
    | inst as =>
      obtain ⟨ax, dx, ob, mA, rfl, hf, e1, e2, e3, e4, e5, e6, I⟩ := inst_at L ra hσ
      obtain ⟨w, hw, rw'⟩ := e4 k x hx
      obtain ⟨hp, gg, dr, tk, os⟩ := s₁
      have hna : mN (attrName k) = none := by
        match k, hk with
        | 0, _ => exact hq.2.2.2.1
        | 1, _ => exact hq.2.2.2.2
      have hB : typeLookup (.type "object") (attrName k) = pure none := by
        match k, hk with
        | 0, _ => exact obj_none0
        | 1, _ => exact obj_none1
      refine load_attr (L.base _ _ hC) (L.ns hN) hq.1 hna hB I hw (handed fs rw') (wpAny_bind (wpAny_letTemporaryGo (wpAny_pure ?_)))
      have ex : Ext ⟨hp, gg, dr, tk, os⟩ ⟨hp, gg, dr, tk + 1, os⟩ := ⟨rfl, fun _ _ e => e⟩
      exact hQ _ _ ⟨x, σ₁, [], rfl, .nil _, ex.kp _ _, by rw [List.append_nil]; exact L, by rw [List.append_nil]; exact rw'⟩
    | _ => first | exact zAA hx | exact ff_tt hx | cases hx
  | _ => first | exact zAA hx | exact ff_tt hx | cases hx
theorem ok_callm (fs : Facts S C T) (FSs : FS S F q d) {o : Expr} {a : CE} {m : Str} {n : Nat} {apos pos : Pos} {es : List Expr} {cs : List CE} (hm : C.meths.lookup m = some n) (hb : noSuper o = true) (hp : (apos.endLine == pos.line) = true) (hlen : es.length ≤ 20)
    (ho : EOk S F q d Γ sc o a) (h : All2 (GOk S F q d Γ sc) es cs) : EOk S F q d Γ sc (.Call (.Attribute o m apos) es [] pos) (.callm n a cs) := fun env ρ f X σ s A st hne => by
  rw [x_callm] at hne ⊢
  rcases fs.book with ⟨_, h0, _⟩ | ⟨hat, B⟩
  · rw [h0] at hm; first | exact zAA hm | exact ff_tt hm | cases hm
  obtain ⟨N, mN, nm, qn, bs, sn, sub, col, dd, k0, k1, k2, k3, k5, hC, hN, hqt, _, _, hms⟩ := B
  obtain ⟨hmf, of, hof, hoc⟩ := hms m n hm
  have hl := LOk.of h
  refine meth_call (zBo hb) (few_any hl.1 hlen) hp ?_
  refine Sim.goQ (P' := PV S X) (ho env ρ f X σ s A st) hne (fun _ _ x => x) (fun _ _ x => x) fun va a' σ₁ g₁ s₁ hne hg kk L ra hQ hE pl => ?_
  by_cases hi : isInst σ₁ a' = true
  case neg => rw [if_neg hi] at hne; exact absurd rfl hne
  rw [if_pos hi] at hne hQ hE
  cases a' with
  | ref k =>
    simp only [isInst] at hi
    split at hi
    · rename_i as hσ
      obtain ⟨ax, dx, ob, mA, rfl, hf, e1, e2, e3, e4, e5, e6, I⟩ := inst_at L ra hσ
      have hsh : mA m = none := by
        cases e : mA m with
        | none => rfl
        | some v =>
          rcases e5 m v e with z | z
          · rw [z, hqt.2.2.2.1] at hmf; first | exact zAA hmf | exact ff_tt hmf | cases hmf
          · rw [z, hqt.2.2.2.2] at hmf; first | exact zAA hmf | exact ff_tt hmf | cases hmf
      obtain ⟨hh, gg, dr, tk, os⟩ := s₁
      refine method_of (L.base _ _ hC) (L.ns hN) hqt.1 hqt.2.1 hmf (L.base _ _ hof) hoc (typeLookup_type _ _) I hsh ?_
      refine zAi (zAP _ hl.1) ?_
      refine Sim.goQ (P' := PV S X) (hl.2 env pos ρ _ X σ₁ _ A (st.keep hg kk L)) hne hQ hE fun vs xs σ₂ g₂ s₂ hne hg₂ k₂ L₂ rs hQ hE => ?_
      have ra₂ := VR.keepK k₂ hg₂ (fun _ h => nomatch h) ra
      obtain ⟨⟨o, fd, h1, h2⟩, h3⟩ := FSs n (.ref k :: xs) σ₂ _ X A s₂ (.ref ax :: vs) ((st.keep hg kk L).keep hg₂ k₂ L₂).cx.call L₂ (by rw [VRs]; exact ⟨ra₂, rs⟩) hne
      refine ⟨.inr ⟨_, o, fd, rfl, L₂.base _ _ h1, h2⟩, wpAny_call ?_⟩
      refine codeAny_mono h3 fun r s' hq => ?_
      match r, hq with
      | .ok (.ret v), hq => exact hQ v s' hq
      | .error e, hq => exact hE e s' hq
    · first | exact zAA hi | exact ff_tt hi | cases hi
  | _ => first | exact zAA hi | exact ff_tt hi | cases hi
theorem call_cls {pos : Pos} {Cb N : Addr} {nm qn : Str} {bs bm : List Value} {hdct : Bool} {sn : List Str} {sub : List Value} {ab : Bool} {col : Option Bool} {dd : Option Addr} {k0 k1 k2 k3 k5 : Option Value} {newId : String} {Q : Value → Shared → Prop}
    (hC : s.heap.get? Cb = some (excClassObj nm qn Cb N bs bm hdct sn sub ab col dd k0 k1 k2 k3 k5 newId)) (h : wpAny (model S.prog S.w) A (call (.ref Cb) []) Q E s) : wpAny (model S.prog S.w) A (callWith pos (.ref Cb) [] (backTo pos (starEach [] env)) []) Q E s := by
  show wpAny (model S.prog S.w) A (callWith pos (.ref Cb) [] [] []) Q E s
  unfold callWith
  refine wpAny_bind (wpAny_holding (evalArgs_empty ?_))
  refine wpAny_bind (wpAny_standAt ?_)
  obtain ⟨hh, gg, dr, tk, os⟩ := s
  refine wpAny_bind (wpAny_keeperOf_exc hC ?_)
  exact wpAny_bind (wpAny_mono h (fun r s' q => wpAny_bind (wpAny_holding (wpAny_point (wpAny_pure q)))) fun _ _ q => q)
theorem ok_new (fs : Facts S C T) (FSs : FS S F q d) {p pos : Pos} (hbk : C.book = true) (hg : isGlob sc "Book" = true) : EOk S F q d Γ sc (.Call (.Name "Book" p) [] [] pos) .new := fun env ρ f X σ s A st hne => by
  have e0 : evE F q .new ρ σ = (F 0 [.ref σ.length] (σ ++ [.inst []])).bind (newEnd σ.length) := rfl
  rw [e0] at hne ⊢
  rcases fs.book with ⟨h0, _⟩ | ⟨hat, B⟩
  · rw [h0] at hbk; first | exact zAA hbk | exact ff_tt hbk | cases hbk
  obtain ⟨N, mN, nm, qn, bs, sn, sub, col, dd, k0, k1, k2, k3, k5, hC, hN, hqt, hini, ⟨of, hof, hoc⟩, _⟩ := B
  obtain ⟨mg, mb, g1, g2, g3, g4, g5, g6, _⟩ := fs.g
  refine wpAny_Call_NameR (wpAny_Name (zBQ st.fr.kind (st.fr.isGlob hg) (by rw [st.fr.glob]; exact st.lk.ns g1) (g6 hbk) ?_) (by decide))
  refine call_cls (st.lk.base _ _ hC) ?_
  have L := st.lk
  have cx := st.cx
  have key : ∀ h' x dx, Heap.MadeObj s.heap h' x dx S.book → wpAny (model S.prog S.w) (A.under (.builtin "type.__call__" ⟨[Value.ref S.book], []⟩)) (call (Value.ref (S.fn 0)) [Value.ref x])
      (fun r s' => r = .none ∧ QS S X [] f (PV S X) s ((F 0 [.ref σ.length] (σ ++ [.inst []])).bind (newEnd σ.length)) (.ref x) s')
      (ES S X [] f false s ((F 0 [.ref σ.length] (σ ++ [.inst []])).bind (newEnd σ.length))) { s with heap := h' } := fun h' x dx Mk => by
    have ex : Ext s { s with heap := h' } := ⟨rfl, Mk.keeps⟩
    obtain ⟨ob, hx, hcx, hncx, hdx⟩ := Mk.inst
    have hdd := Mk.dict ob hx
    obtain ⟨hne', hns⟩ : dx ≠ x ∧ h'.Ns1 dx fun _ => none := by
      rcases hdx with ⟨hn0, _⟩ | ⟨d', hd', hne', hns'⟩
      · rw [hn0] at hdd; first | exact zAA hdd | exact ff_tt hdd | cases hdd
      · obtain rfl := Option.some.inj (hd'.symm.trans hdd); exact ⟨hne', hns'⟩
    have hfr : Fresh [(x, some dx)] s := fun a ha => by
      rcases List.mem_cons.mp ha with rfl | ha
      · exact Mk.newX
      · obtain rfl := List.mem_singleton.mp ha; exact Mk.newD
    have L1 : Lk S ([x, dx] ++ X) f σ h' := L.enter (s₁ := { s with heap := h' }) Mk.keeps fun a ha => by
      rcases List.mem_cons.mp ha with rfl | ha
      · exact ⟨Mk.newX, ob, hx⟩
      · obtain rfl := List.mem_singleton.mp ha
        exact ⟨Mk.newD, let ⟨o, _, _, e, _⟩ := hns; ⟨o, e⟩⟩
    have hnX : ∀ a ∈ [x, dx], a ∉ X := fun a ha hX => by
      obtain ⟨o, e⟩ := (L.hid a hX).2.2
      rcases List.mem_cons.mp ha with rfl | ha
      · rw [Mk.newX] at e; first | exact zAA e | exact ff_tt e | cases e
      · obtain rfl := List.mem_singleton.mp ha; rw [Mk.newD] at e; cases e
    have L2 : Lk S X (f ++ [(x, some dx)]) (σ ++ [.inst []]) h' := Lk.track (l := (x, some dx)) L1 (List.nodup_cons.mpr ⟨fun h => hne' (List.mem_singleton.mp h).symm, List.nodup_cons.mpr ⟨fun h => (nomatch h), .nil⟩⟩) hnX
      ⟨ob, fun _ => none, hx, ⟨hcx, hdd, hncx, hne'⟩, hns, fun k x e => by simp at e, fun x v e => by simp at e, fun k e => by simp at e⟩
    have hlen : (f ++ [(x, some dx)])[σ.length]? = some (x, some dx) := by rw [← L.len]; simp
    have rx : VRs S X (f ++ [(x, some dx)]) h' [.ref σ.length] [.ref x] := by rw [VRs, VR, VRs]; exact ⟨⟨_, hlen, rfl⟩, trivial⟩
    have kp0 : Kp f [] s { s with heap := h' } := ex.kp _ _
    have cxc : CxC S (A.under (.builtin "type.__call__" ⟨[Value.ref S.book], []⟩)) q d (f ++ [(x, some dx)]) h' := by
      obtain ⟨e1, l, h1, _, h3⟩ := cx.frs
      refine ⟨?_, ?_, cx.hand, e1 :: l, ?_, h3.keep kp0 hfr⟩
      · have := cx.depth; show A.depth + 1 + 2 * d + 2 ≤ 900; omega
      · have := cx.units; show A.units + 1 + 5 * d + 200 ≤ 9900; omega
      · exact h1
    have hr : F 0 [.ref σ.length] (σ ++ [.inst []]) ≠ .stuck := fun e => hne (by rw [e]; rfl)
    obtain ⟨_, h3⟩ := FSs 0 [.ref σ.length] (σ ++ [.inst []]) _ X _ { s with heap := h' } [.ref x] cxc L2 rx hr
    refine wpAny_call (codeAny_mono h3 fun r s' hq => ?_)
    match r, hq with
    | .ok (.ret v), hq =>
      obtain ⟨b, σ'', g', e, hg', kp', L3, rv⟩ := hq
      rw [e] at hne ⊢
      have hb : b = .none := by cases b <;> first | rfl | exact absurd rfl hne
      subst hb
      have rv : v = .none := by have : VR _ _ _ _ _ _ := rv; rwa [VR] at this
      refine ⟨rv, .ref σ.length, σ'', (x, some dx) :: g', rfl, ?_, kp0.trans hfr kp', by rw [List.append_cons]; exact L3, ?_⟩
      · exact hfr.trans kp0.live hg'
      · show VR _ _ _ _ _ _
        rw [VR]
        exact ⟨(x, some dx), by rw [← L.len, List.append_cons, List.getElem?_append_left (by simp)]; simp, rfl⟩
    | .error e, hq =>
      obtain ⟨c, σ', g', ea, e1, e2, hg', kp', L3, xr⟩ := hq
      rw [e2]
      refine ⟨c, σ', (x, some dx) :: g', ea, e1, rfl, hfr.trans kp0.live hg', kp0.trans hfr kp', by rw [List.append_cons]; exact L3, ?_⟩
      rw [List.append_cons]
      exact xr.back fun a h => zAc kp0.live h
  obtain ⟨hh, gg, dr, tk, os⟩ := s
  exact wpAny_call_obj_init PySem.F.objNew (L.base _ _ hC) (L.ns hN) hini (L.base _ _ hof) hoc key
theorem zDN {β : Type} {k : Nat} {y : β} : ∀ {l : List (Nat × β)}, l.lookup k = some y → (k, y) ∈ l
  | (k', y') :: l, h => by
    rw [List.lookup_cons] at h
    split at h
    · rename_i e; cases h; rw [eq_of_beq e]; exact List.mem_cons_self
    · exact List.mem_cons_of_mem _ (zDN h)
theorem attr_or {n k : Nat} {ax dx : Addr} {ob o₁ : Obj} {mA : Str → Option Value} {as : List (Nat × V)} {v' : V} {vv : Value} {h' : Heap} (hk : k < 2) (hf : f[n]? = some (ax, some dx)) (e2 : ob.cls = .ref S.book ∧ ob.dict = some dx ∧ (∀ c, ob.data ≠ .cls c) ∧ dx ≠ ax)
    (e4 : ∀ k x, as.lookup k = some x → ∃ w, mA (attrName k) = some w ∧ VR S X f s.heap x w) (e5 : ∀ x v, mA x = some v → x = attrName 0 ∨ x = attrName 1) (e6 : ∀ k, k ∈ as.map (·.1) → k < 2) (rv : VR S X f s.heap v' vv)
    (hs : ∀ b o, b ∉ Loc.addrs (ax, some dx) → s.heap.get? b = some o → h'.get? b = some o) (w1 : h'.get? ax = some o₁) (w2 : o₁.cls = ob.cls) (w3 : o₁.data = ob.data) (w5 : o₁.dict = some dx)
    (hns : h'.Ns1 dx (fun y => if y = attrName k then some vv else mA y)) : OR S X f h' (ax, some dx) (.inst ((k, v') :: as)) := by
  have kv : ∀ x v, VR S X f s.heap x v → VR S X f h' x v := VR.keep (fun _ _ e => e) fun a o q h1 h2 => ⟨⟨h1, h2⟩, o, hs a o (fun z => h1 (zAb hf z)) q, .refl o⟩
  refine ⟨o₁, _, w1, ⟨w2.trans e2.1, w5, fun c => by rw [w3]; exact e2.2.2.1 c, e2.2.2.2⟩, hns, fun j x hj => ?_, fun y v hy => ?_, fun j hj => ?_⟩
  · rw [List.lookup_cons] at hj
    cases hjk : (j == k) with
    | true =>
      rw [hjk] at hj
      cases hj
      obtain rfl : j = k := eq_of_beq hjk
      exact ⟨vv, if_pos rfl, kv _ _ rv⟩
    | false =>
      rw [hjk] at hj
      obtain ⟨w, hw, hr⟩ := e4 j x hj
      refine ⟨w, ?_, kv _ _ hr⟩
      have hj2 : j < 2 := e6 j (List.mem_map_of_mem (f := (·.1)) (zDN hj))
      have hjn : attrName j ≠ attrName k := by
        have hne : j ≠ k := fun q => by rw [q] at hjk; simp at hjk
        clear hj hjk hr e4 e5 e6 hns
        match j, k, hj2, hk, hne with
        | 0, 0, _, _, h => exact absurd rfl h
        | 0, 1, _, _, _ => decide
        | 1, 0, _, _, _ => decide
        | 1, 1, _, _, h => exact absurd rfl h
      exact (if_neg hjn).trans hw
  · by_cases hyk : y = attrName k
    · clear hy hns e4
      match k, hk, hyk with
      | 0, _, h => exact .inl h
      | 1, _, h => exact .inr h
    · exact e5 y v ((if_neg hyk).symm.trans hy)
  · rcases List.mem_cons.mp hj with rfl | hj
    · exact hk
    · exact e6 j hj
theorem setAttr_at (B : BookAt S C) {n k : Nat} {vo vv : Value} {v' : V} {as : List (Nat × V)} {Q : Unit → Shared → Prop} (hk : k < 2) (L : Lk S X f σ s.heap) (ro : VR S X f s.heap (.ref n) vo) (hσ : σ[n]? = some (.inst as)) (rv : VR S X f s.heap v' vv)
    (h : ∀ h' tk, Lk S X f (σ.set n (.inst ((k, v') :: as))) h' → (∀ Y, Kp f Y s { s with heap := h', toks := tk }) → Q () { s with heap := h', toks := tk }) : wpAny (model S.prog S.w) A (setAttr vo (attrName k) vv) Q E s := by
  obtain ⟨N, mN, nm, qn, bs, sn, sub, col, dd, k0, k1, k2, k3, k5, hC, hN, hqt, _⟩ := B
  obtain ⟨ax, dx, ob, mA, rfl, hf, e1, e2, e3, e4, e5, e6, I⟩ := inst_at L ro hσ
  have hna : mN (attrName k) = none := by
    match k, hk with
    | 0, _ => exact hqt.2.2.2.1
    | 1, _ => exact hqt.2.2.2.2
  have hB : typeLookup (.type "object") (attrName k) = pure none := by
    match k, hk with
    | 0, _ => exact obj_none0
    | 1, _ => exact obj_none1
  have hxC : ax ≠ S.book := fun z => by
    have h1 := L.fresh ax (zAb hf List.mem_cons_self)
    rw [z, hC] at h1; cases h1
  have hsz : ([attrName 0, attrName 1] : List Str).length ≤ sizeLine := by show 2 ≤ sizeLine; decide
  have hw : Within mA [attrName 0, attrName 1] := fun y hy => by
    obtain ⟨v, hv⟩ := Option.ne_none_iff_exists'.mp hy
    rcases e5 y v hv with rfl | rfl
    · exact List.mem_cons_self
    · exact List.mem_cons_of_mem _ (List.mem_singleton.mpr rfl)
  have fin : ∀ h' tk', h'.Inst ax S.book (fun y => if y = attrName k then some vv else mA y) →
      (∀ b o, b ≠ ax → (∀ o₀ d', s.heap.get? ax = some o₀ → o₀.dict = some d' → b ≠ d') → s.heap.get? b = some o → h'.get? b = some o) →
      (∀ o₀, s.heap.get? ax = some o₀ → ∃ o₁, h'.get? ax = some o₁ ∧ o₁.cls = o₀.cls ∧ o₁.data = o₀.data ∧ o₁.slots = o₀.slots ∧ ∀ d', o₀.dict = some d' → o₁.dict = some d') → Q () { s with heap := h', toks := tk' } := fun h' tk' I' hkeep hsame => by
    have hs' : ∀ b o, b ∉ Loc.addrs (ax, some dx) → s.heap.get? b = some o → h'.get? b = some o := fun b o hb e =>
      hkeep b o (fun z => hb (by rw [z]; exact List.mem_cons_self)) (fun o₀ d' q1 q2 z => hb (by
        rw [e1] at q1; cases q1; rw [e2.2.1] at q2; cases q2
        rw [z]; exact List.mem_cons_of_mem _ (List.mem_singleton.mpr rfl))) e
    obtain ⟨o₁, w1, w2, w3, _, w5⟩ := hsame ob e1
    obtain ⟨o', q1, q2, q3, q4⟩ := I'
    rw [w1] at q1; cases q1
    have hns : h'.Ns1 dx (fun y => if y = attrName k then some vv else mA y) := by
      rcases q4 with ⟨q5, _⟩ | ⟨d', q5, _, q6⟩
      · rw [w5 dx e2.2.1] at q5; first | exact zAA q5 | exact ff_tt q5 | cases q5
      · rw [w5 dx e2.2.1] at q5; cases q5; exact q6
    have hlive : ∀ b ∈ Loc.addrs (ax, some dx), ∃ o, h'.get? b = some o := fun b hb => by
      rcases List.mem_cons.mp hb with rfl | hb
      · exact ⟨_, w1⟩
      · rw [List.mem_singleton.mp hb]; exact let ⟨o, _, _, e, _⟩ := hns; ⟨o, e⟩
    exact h h' tk' (L.upd hf hs' (attr_or hk hf e2 e4 e5 e6 rv hs' w1 w2 w3 (w5 dx e2.2.1) hns)) fun Y => Kp.upd hf hs' hlive
  have L1 := L.base _ _ hC
  have L2 := L.ns hN
  clear e4 e5 e6 e3 h ro rv L
  obtain ⟨hh, gg, dr, tk, os⟩ := s
  exact store_attr PySem.F.store_object L1 L2 hqt.2.2.1 hna hB hxC I fin hw hsz
theorem ok_setAttr (fs : Facts S C T) {o e : Expr} {a c : CE} {m : Str} {k : Nat} {p' pos : Pos} (hm : C.attrs.lookup m = some k) (ho : EOk S F q d Γ sc o a) (h : EOk S F q d Γ sc e c) (hs : ∀ env n t, swapsWith e t n env = pure false) :
    SOk S F Fq q d Γ sc (.Assign [.Attribute o m p'] e pos) (.setAttr a k c) := fun env ρ f X σ s A st fw hne => by
  rw [x_setAttr] at hne ⊢
  rcases fs.book with ⟨_, _, h0⟩ | ⟨hat, B⟩
  · rw [h0] at hm; first | exact zAA hm | exact ff_tt hm | cases hm
  rw [hat] at hm
  obtain ⟨hk, rfl⟩ := attr_names hm
  refine plainObj_wpAny_Assign_Attribute ?_ (hs _ _ _)
  refine Sim.goS (Γ := Γ) (sc := sc) (h env ρ f X σ s A st) hne (fun _ _ x => x) (fun _ _ x => x) fun vv v' σ₁ g₁ s₁ hne hg kk L rv hQ hE => ?_
  have st₁ := st.keep hg kk L
  refine Sim.goS (Γ := Γ) (sc := sc) (ho env ρ _ X σ₁ s₁ A st₁) hne hQ hE fun vo o' σ₂ g₂ s₂ hne hg₂ k₂ L₂ ro hQ hE => ?_
  have st₂ := st₁.keep hg₂ k₂ L₂
  have rv₂ := VR.keepK k₂ hg₂ (fun _ h => nomatch h) rv
  cases o' with
  | ref n =>
    have hd0 : doSetAttr σ₂ (.ref n) k v' = setAttrO σ₂ n k v' σ₂[n]? := rfl
    rw [hd0] at hne hQ
    cases hσ : σ₂[n]? with
    | none => rw [hσ] at hne; exact absurd rfl hne
    | some obj =>
      rw [hσ] at hne hQ
      cases obj with
      | inst as =>
        have hd : setAttrO σ₂ n k v' (some (.inst as)) = .ok () (σ₂.set n (.inst ((k, v') :: as))) := if_pos hk
        rw [hd] at hQ
        refine setAttr_at B hk L₂ ro hσ rv₂ fun h' tk L3 kp3 => hQ _ _ ⟨.next ρ, _, [], rfl, .nil _, kp3 _, by rw [List.append_nil]; exact L3, rfl, ?_⟩
        have := st₂.fr.keep (g := []) st₂.lk (kp3 []) (.nil _)
        exact this
      | _ => exact absurd rfl hne
  | _ => exact absurd rfl hne
end
end Mine
end

/-! # ExprD -/
section
set_option autoImplicit false
namespace Mine
open PySem PyProof.Rows
section
variable {S : Stat} {C : Ctx} {T : Nat → Option Fn} {F Fq : Calls} {q : Bool} {d : Nat} {Γ : List Str} {sc : Scope}
variable {X X' Y Z : List Addr} {f g : List Loc} {σ : Sto} {s s' : Shared} {A : Around} {E : Value → Shared → Prop} {env : Env} {ρ : List V}
theorem dict_new (L : Lk S X f σ s.heap) : Ext s { s with heap := s.heap.push { cls := .type "dict", data := .dict #[] } } ∧ Fresh [(s.heap.objs.size, none)] s ∧
    Lk S X (f ++ [(s.heap.objs.size, none)]) (σ ++ [.dict []]) (s.heap.push { cls := .type "dict", data := .dict #[] }) := by
  have hn : s.heap.get? s.heap.objs.size = none := Heap.get?_none_of_le (Nat.le_refl _)
  have hl : (s.heap.push { cls := .type "dict", data := .dict #[] }).get? s.heap.objs.size = some { cls := .type "dict", data := .dict #[] } := Heap.get?_push_size _ rfl
  have ex : Ext s { s with heap := s.heap.push { cls := .type "dict", data := .dict #[] } } := ⟨rfl, fun b o e => Heap.get?_push_of_some _ e⟩
  refine ⟨ex, fun a ha => by rw [List.mem_singleton.mp ha]; exact hn, ?_⟩
  have L1 : Lk S (s.heap.objs.size :: X) f σ (s.heap.push { cls := .type "dict", data := .dict #[] }) := L.hideNew ex hn hl
  exact Lk.track (l := (s.heap.objs.size, none)) L1 (List.nodup_cons.mpr ⟨fun h => (nomatch h), .nil⟩) (fun a ha hX => by
    rw [List.mem_singleton.mp ha] at hX
    obtain ⟨o, e⟩ := (L.hid _ hX).2.2
    rw [hn] at e; cases e) ⟨[], Heap.DictOf.new _, rfl, by rw [List.map_nil, List.map_nil, VRs]; trivial, Nat.zero_le _⟩
theorem ok_dict0 {pos : Pos} : EOk S F q d Γ sc (.Dict [] [] pos) .dict0 := fun env ρ f X σ s A st hne => by
  rw [x_dict0]
  obtain ⟨ex, hg, L⟩ := dict_new st.lk
  refine wpAny_Dict_empty ⟨.ref σ.length, _, _, rfl, hg, ex.kp _ _, L, ?_⟩
  show VR _ _ _ _ _ _
  rw [VR]
  exact ⟨(s.heap.objs.size, none), by rw [← st.lk.len]; simp, rfl⟩
theorem ok_dict1 {k v : Expr} {a b : CE} {pos : Pos} (hk : EOk S F q d Γ sc k a) (hv : EOk S F q d Γ sc v b) : EOk S F q d Γ sc (.Dict [some k] [v] pos) (.dict1 a b) := fun env ρ f X σ s A st hne => by
  rw [x_dict1] at hne ⊢
  obtain ⟨ex, hg, L⟩ := dict_new st.lk
  have kp0 := ex.kp f []
  have st0 := st.keep hg kp0 L
  have hlen : (f ++ [(s.heap.objs.size, none)])[σ.length]? = some (s.heap.objs.size, none) := by rw [← st.lk.len]; simp
  refine wpAny_Dict_pairs (knd := intKind S.prog S.w) (pairs := [(eval k env, do let x ← eval v env; standAt pos; pure x)]) rfl (by simp) (by show 1 ≤ 15; decide) ?_
  refine evalPairs_cons ?_
  refine Sim.goQ (P' := PV S X) (hk env ρ _ X _ _ A st0) hne (fun c s'' x => QS.lifts f _ s _ _ c s'' hg kp0 x) (fun c s'' x => ES.lifts f _ s _ _ c s'' hg kp0 x) fun vk k' σ₁ g₁ s₁ hne hg₁ k₁ L₁ rk hQ hE => ?_
  have st₁ := st0.keep hg₁ k₁ L₁
  refine wpAny_bind (Sim.goQ (P' := PV S X) (hv env ρ _ X σ₁ s₁ A st₁) hne hQ hE fun vv v' σ₂ g₂ s₂ hne hg₂ k₂ L₂ rv hQ hE => wpAny_bind (wpAny_standAt (wpAny_pure (evalPairs_nil ?_))))
  have hf₂ : (f ++ [(s.heap.objs.size, none)] ++ g₁ ++ g₂)[σ.length]? = some (s.heap.objs.size, none) := by
    have h1 : σ.length < (f ++ [(s.heap.objs.size, none)]).length := (List.getElem?_eq_some_iff.mp hlen).1
    rw [List.append_assoc, List.getElem?_append_left h1]; exact hlen
  cases k' with
  | int ki =>
    have hd0 : doDict1 σ.length σ₂ (.int ki) v' = dict1O σ.length σ₂ ki v' σ₂[σ.length]? := rfl
    rw [hd0] at hne hQ
    cases hσ : σ₂[σ.length]? with
    | none => rw [hσ] at hne; exact absurd rfl hne
    | some ob =>
      rw [hσ] at hne hQ
      cases ob with
      | dict es =>
        cases es with
        | nil =>
          obtain ⟨kvs, hd, e1, _⟩ := dict_at L₂ hf₂ hσ
          obtain rfl : kvs = [] := List.map_eq_nil_iff.mp e1
          obtain ⟨t, rfl⟩ := zAe rk
          refine ⟨[(ki, vv)], ⟨by show Value.isInt ki (.int ki t) = true; simp [Value.isInt], rfl, trivial⟩, hd, fun h' hd' hs => ?_⟩
          have hd' : h'.DictOf (intKind S.prog S.w) s.heap.objs.size [(ki, vv)] := hd'
          obtain ⟨L3, k3⟩ := upd_dict (es' := [(ki, v')]) (t := s₂.toks + 1) L₂ hf₂ hs hd' rfl (by rw [List.map_cons, List.map_nil, List.map_cons, List.map_nil, VRs, VRs]; exact ⟨rv, trivial⟩) (by show 1 ≤ 1048576; decide)
          refine hQ _ _ ⟨.ref σ.length, _, [], rfl, .nil _, k3 [], by rw [List.append_nil]; exact L3, ?_⟩
          show VR _ _ _ _ _ _
          rw [VR, List.append_nil]
          exact ⟨_, hf₂, rfl⟩
        | cons _ _ => exact absurd rfl hne
      | _ => exact absurd rfl hne
  | _ => exact absurd rfl hne
end
end Mine
end

/-! # Sound -/
section
set_option autoImplicit false
namespace Mine
open PySem PyProof.Rows
section
variable {S : Stat} {C : Ctx} {T : Nat → Option Fn} {F Fq : Calls} {q : Bool} {d : Nat}
theorem GOk.of {Γ : List Str} {sc : Scope} {e : Expr} {c : CE} (h : EOk S F q d Γ sc e c) (he : ∀ env whole, isTrue e env whole = (do let v ← whole; standAt e.pos; holding [v] (PySem.truthy v))) (hs : isStar e = false) (hm : ∀ op, behindInMarks op e = false) (hf : ∀ env x, foldedSetIterable e env x = pure x) : GOk S F q d Γ sc e c :=
  ⟨h, .plain h he, hs, hm, hf⟩
theorem mapM_all2 {ops : List CmpOp} {os : List P2} (h : ops.mapM cmpOf = some os) : All2 (fun op o => cmpOf op = some o) ops os := by
  induction ops generalizing os with
  | nil => simp at h; subst h; exact .nil
  | cons op ops ih =>
    simp only [List.mapM_cons] at h
    cases h1 : cmpOf op with
    | none => first | (rw [h1] at h; exact zAA h) | simp [h1] at h
    | some o =>
      cases h2 : ops.mapM cmpOf with
      | none => first | (rw [h1, h2] at h; exact zAA h) | (rw [h1, Option.bind_some, h2] at h; exact zAA h) | simp [h1, h2] at h
      | some os' =>
        simp [h1, h2] at h
        subst h
        exact .cons h1 (ih h2)
structure Clean (C : Ctx) : Prop where
  dbg : C.fns.lookup ("__debug__" : Str) = none
  isin : C.fns.lookup ("isinstance" : Str) = none
  rng : C.fns.lookup ("range" : Str) = none
theorem Clean.nd (cl : Clean C) {x : Str} {n : Nat} (h : C.fns.lookup x = some n) : (x == ("__debug__" : Str)) = false := by
  cases e : (x == ("__debug__" : Str)) with
  | false => rfl
  | true => rw [eq_of_beq e, cl.dbg] at h; first | exact zAA h | exact ff_tt h | cases h
theorem g_name (fs : Facts S C T) {Γ : List Str} {sc : Scope} {x : Str} {pos : Pos} {c : CE} (h : cName C Γ sc x = some c) : GOk S F q d Γ sc (.Name x pos) c :=
  .of (ok_name fs h) (fun _ _ => rfl) rfl (fun _ => rfl) fun _ _ => rfl
theorem zCs {Γ : List Str} {sc : Scope} {f : Expr} {es : List Expr} {pos : Pos} {c : CE} (h : EOk S F q d Γ sc (.Call f es [] pos) c) : GOk S F q d Γ sc (.Call f es [] pos) c :=
  .of h (fun _ _ => rfl) rfl (fun _ => rfl) fun _ _ => rfl
theorem g_sub {Γ : List Str} {sc : Scope} {o i : Expr} {pos : Pos} {c : CE} (h : EOk S F q d Γ sc (.Subscript o i pos) c) : GOk S F q d Γ sc (.Subscript o i pos) c :=
  .of h (fun _ _ => rfl) rfl (fun _ => rfl) fun _ _ => rfl
noncomputable def IfOk (S : Stat) (F : Calls) (q : Bool) (d : Nat) (Γ : List Str) (sc : Scope) (ifs : List Expr) (cond : Option CE) : Prop := (ifs = [] ∧ cond = none) ∨ ∃ e c, ifs = [e] ∧ cond = some c ∧ TOk S F q d Γ sc e c
noncomputable def OptOk (S : Stat) (F : Calls) (q : Bool) (d : Nat) (Γ : List Str) (sc : Scope) (o : Option Expr) (c : Option CE) : Prop := (o = none ∧ c = none) ∨ ∃ e' c', o = some e' ∧ c = some c' ∧ EOk S F q d Γ sc e' c'
section
variable {rec : List Str → Scope → Expr → Option CE}
theorem cL_ok (hr : ∀ Γ sc e c, rec Γ sc e = some c → GOk S F q d Γ sc e c) {Γ : List Str} {sc : Scope} : ∀ {es : List Expr} {cs : List CE}, cL rec Γ sc es = some cs → All2 (GOk S F q d Γ sc) es cs
  | [], cs, h => by cases h; exact .nil
  | e :: es, cs, h => by
    unfold cL at h
    split at h
    · first | exact zAA h | exact ff_tt h | cases h
    · simp only [Option.bind_eq_some_iff, Option.map_eq_some_iff] at h
      obtain ⟨a, ha, as, has, rfl⟩ := h
      exact .cons (hr Γ sc e a ha) (cL_ok hr has)
theorem cOpt_ok (hr : ∀ Γ sc e c, rec Γ sc e = some c → GOk S F q d Γ sc e c) {Γ : List Str} {sc : Scope} {o : Option Expr} {c : Option CE} (h : cOpt rec Γ sc o = some c) : OptOk S F q d Γ sc o c := by
  cases o with
  | none => cases h; exact .inl ⟨rfl, rfl⟩
  | some e =>
    have h : (rec Γ sc e).map some = some c := h
    simp only [Option.map_eq_some_iff] at h
    obtain ⟨a, ha, rfl⟩ := h
    exact .inr ⟨e, a, rfl, rfl, (hr Γ sc e a ha).eo⟩
theorem cIf_ok (hr : ∀ Γ sc e c, rec Γ sc e = some c → GOk S F q d Γ sc e c) {Γ : List Str} {sc : Scope} {o : List Expr} {c : Option CE} (h : cIf rec Γ sc o = some c) : IfOk S F q d Γ sc o c := by
  match o, h with
  | [], h => cases h; exact .inl ⟨rfl, rfl⟩
  | [e], h =>
    have h : (rec Γ sc e).map some = some c := h
    simp only [Option.map_eq_some_iff] at h
    obtain ⟨a, ha, rfl⟩ := h
    exact .inr ⟨e, a, rfl, rfl, (hr Γ sc e a ha).to⟩
  | _ :: _ :: _, h => cases h
theorem cConst_ok {Γ : List Str} {sc : Scope} {k : Const} {n : Nat} {pos : Pos} {c : CE} (h : cConst k = some c) : GOk S F q d Γ sc (.Constant k n pos) c := by
  cases k with
  | none => cases h; exact .of ok_none (fun _ _ => rfl) rfl (fun _ => rfl) fun _ _ => rfl
  | bool b => cases h; exact .of ok_bool (fun _ _ => rfl) rfl (fun _ => rfl) fun _ _ => rfl
  | int i => cases h; exact .of ok_int (fun _ _ => rfl) rfl (fun _ => rfl) fun _ _ => rfl
  | str s =>
    simp only [cConst] at h
    split at h
    · rename_i hs; cases h; exact .of (ok_str hs) (fun _ _ => rfl) rfl (fun _ => rfl) fun _ _ => rfl
    · first | exact zAA h | exact ff_tt h | cases h
  | _ => first | exact zAA h | exact ff_tt h | cases h
theorem cCmp_ok (fs : Facts S C T) (hr : ∀ Γ sc e c, rec Γ sc e = some c → GOk S F q d Γ sc e c) {Γ : List Str} {sc : Scope} {a : Expr} {ops : List CmpOp} {cs : List Expr} {pos : Pos} {c : CE} (h : cCmp rec Γ sc a ops cs = some c) : GOk S F q d Γ sc (.Compare a ops cs pos) c := by
  unfold cCmp at h
  split at h
  · first | exact zAA h | exact ff_tt h | cases h
  rename_i hlen
  have hlen : ops.length = cs.length := by simpa using hlen
  split at h
  · simp only [Option.bind_eq_some_iff, Option.map_eq_some_iff] at h
    obtain ⟨o, ho, x, hx, y, hy, rfl⟩ := h
    have g2 := hr Γ sc _ y hy
    have g := ok_cmp (pos := pos) fs ho (g2.marks _) (hr Γ sc a x hx).eo g2.eo
    exact ⟨g, .cmp1 (g2.marks _) g, rfl, fun _ => rfl, fun _ _ => rfl⟩
  · simp only [Option.bind_eq_some_iff, Option.map_eq_some_iff] at h
    obtain ⟨os, ho, x, hx, ys, hy, rfl⟩ := h
    have g := ok_chain (pos := pos) fs (hr Γ sc a x hx).eo (mapM_all2 ho) (cL_ok hr hy) hlen
    exact ⟨g.1, g.2, rfl, fun _ => rfl, fun _ _ => rfl⟩
theorem cSrc_ok (fs : Facts S C T) (cl : Clean C) (hr : ∀ Γ sc e c, rec Γ sc e = some c → GOk S F q d Γ sc e c) {Γ : List Str} {sc : Scope} {e : Expr} {k : SK} {cs : List CE} (h : cSrc rec Γ sc e = some (k, cs)) : SrcOk S F q d Γ sc e k cs := by
  have hv : Option.map (fun a => (SK.val, [a])) (rec Γ sc e) = some (k, cs) → SrcOk S F q d Γ sc e k cs := fun h => by
    simp only [Option.map_eq_some_iff] at h
    obtain ⟨a, ha, e'⟩ := h
    cases e'
    exact src_val (hr Γ sc e a ha)
  unfold cSrc at h
  split at h
  · rename_i fn args kws hc
    obtain ⟨pc, rfl⟩ := callParts?_eq hc
    split at h
    · rename_i f hn
      obtain ⟨p, rfl⟩ := nameOf?_eq hn
      split at h
      · rename_i hf
        obtain rfl := eq_of_beq hf
        split at h
        · rename_i hg
          simp only [Bool.and_eq_true, List.isEmpty_iff] at hg
          obtain ⟨hg, rfl⟩ := hg
          simp only [Option.bind_eq_some_iff] at h
          obtain ⟨es, hes, h⟩ := h
          have ga := cL_ok hr hes
          split at h
          · cases h; exact src_range fs hg cl.rng ga (.inl ⟨rfl, rfl⟩)
          · first | exact zAA h | exact ff_tt h | cases h
        · first | exact zAA h | exact ff_tt h | cases h
      · exact hv h
    · exact hv h
  · exact hv h
theorem cComp_ok (fs : Facts S C T) (cl : Clean C) (hr : ∀ Γ sc e c, rec Γ sc e = some c → GOk S F q d Γ sc e c) {Γ : List Str} {sc scope : Scope} {elt : Expr} {gens : List Comprehension} {c : CE} (h : cComp rec Γ sc elt gens scope = some c) :
    ∃ x px iter ifs ce cond k cs, gens = [⟨.Name x px, iter, ifs, 0⟩] ∧ CompOk Γ sc scope x ∧ SrcOk S F q d Γ sc iter k cs ∧ IfOk S F q d (Γ ++ [x]) scope ifs cond ∧ EOk S F q d (Γ ++ [x]) scope elt ce ∧ c = .comp ce k cs cond := by
  unfold cComp at h
  split at h
  · rename_i g
    obtain ⟨tgt, iter, ifs, n⟩ := g
    simp only [Option.bind_eq_some_iff] at h
    obtain ⟨x, hx, h⟩ := h
    obtain ⟨px, rfl⟩ := nameOf?_eq hx
    split at h
    · first | exact zAA h | exact ff_tt h | cases h
    · rename_i hok
      simp only [Bool.or_eq_true, not_or, Bool.not_eq_true, bne_eq_false_iff_eq, Bool.not_eq_false'] at hok
      obtain ⟨rfl, hok⟩ := hok
      simp only [Option.bind_eq_some_iff, Option.map_eq_some_iff] at h
      obtain ⟨⟨k, cs⟩, h1, cond, h2, ce, h3, rfl⟩ := h
      exact ⟨x, px, iter, ifs, ce, cond, k, cs, rfl, compOk_of hok, cSrc_ok fs cl hr h1, cIf_ok hr h2, (hr _ scope elt ce h3).eo, rfl⟩
  · first | exact zAA h | exact ff_tt h | cases h
theorem cSub_ok (fs : Facts S C T) (hr : ∀ Γ sc e c, rec Γ sc e = some c → GOk S F q d Γ sc e c) {Γ : List Str} {sc : Scope} {o i : Expr} {pos : Pos} {c : CE} (h : cSub C rec Γ sc o i pos = some c) : GOk S F q d Γ sc (.Subscript o i pos) c := by
  unfold cSub at h
  split at h
  · rename_i lo hi hs
    obtain ⟨p, rfl⟩ := sliceParts?_eq hs
    simp only [Option.bind_eq_some_iff, Option.map_eq_some_iff] at h
    obtain ⟨a, ha, l, hl, u, hu, rfl⟩ := h
    exact g_sub (zCC (ok_slice (hr Γ sc o a ha).eo (cOpt_ok hr hl) (cOpt_ok hr hu)))
  · simp only [Option.bind_eq_some_iff, Option.map_eq_some_iff] at h
    obtain ⟨a, ha, b, hb, rfl⟩ := h
    exact g_sub (ok_index fs (hr Γ sc o a ha).eo (hr Γ sc i b hb).eo)
theorem cMethB_ok (hr : ∀ Γ sc e c, rec Γ sc e = some c → GOk S F q d Γ sc e c) {Γ : List Str} {sc : Scope} {o : Expr} {m : Str} {apos pos : Pos} {args : List Expr} {c : CE} (h1 : noSuper o = true) (h2 : (apos.endLine == pos.line) = true) (h : cMethB rec Γ sc o m args = some c) : GOk S F q d Γ sc (.Call (.Attribute o m apos) args [] pos) c := by
  unfold cMethB at h
  split at h
  · split at h
    · first | exact zAA h | exact ff_tt h | cases h
    rename_i hx
    split at h
    · rename_i hm
      simp only [Option.bind_eq_some_iff, Option.map_eq_some_iff] at h
      obtain ⟨a, ha, b, hb, rfl⟩ := h
      obtain rfl := eq_of_beq hm
      exact zCs (ok_append h1 h2 (by simpa using hx) (hr Γ sc o a ha).eo (hr Γ sc _ b hb).eo)
    · simp only [Option.bind_eq_some_iff, Option.map_eq_some_iff] at h
      obtain ⟨p, hp, a, ha, b, hb, rfl⟩ := h
      exact zCs (ok_sm hp h1 h2 (by simpa using hx) (hr Γ sc o a ha).eo (hr Γ sc _ b hb).eo)
  · first | exact zAA h | exact ff_tt h | cases h
theorem cMeth_ok (fs : Facts S C T) (FSs : FS S F q d) (hr : ∀ Γ sc e c, rec Γ sc e = some c → GOk S F q d Γ sc e c) {Γ : List Str} {sc : Scope} {o : Expr} {m : Str} {apos pos : Pos} {args : List Expr} {c : CE} (hlen : args.length ≤ 20) (h : cMeth C rec Γ sc o m apos args pos = some c) : GOk S F q d Γ sc (.Call (.Attribute o m apos) args [] pos) c := by
  unfold cMeth at h
  split at h
  · first | exact zAA h | exact ff_tt h | cases h
  rename_i hc
  simp only [Bool.or_eq_true, not_or, Bool.not_eq_true, Bool.not_eq_false', bne_eq_false_iff_eq] at hc
  have h1 : noSuper o = true := by simpa using hc.1
  have h2 : (apos.endLine == pos.line) = true := by simpa using hc.2
  split at h
  · rename_i n hn
    simp only [Option.bind_eq_some_iff, Option.map_eq_some_iff] at h
    obtain ⟨a, ha, es, hes, rfl⟩ := h
    exact zCs (ok_callm fs FSs hn h1 h2 hlen (hr Γ sc o a ha).eo (cL_ok hr hes))
  · exact cMethB_ok hr h1 h2 h
theorem cFun_ok (fs : Facts S C T) (FSs : FS S F q d) (cl : Clean C) (hr : ∀ Γ sc e c, rec Γ sc e = some c → GOk S F q d Γ sc e c) {Γ : List Str} {sc : Scope} {f : Str} {args : List Expr} {p pos : Pos} {c : CE} (h : cFun C rec Γ sc f args pos = some c) : GOk S F q d Γ sc (.Call (.Name f p) args [] pos) c := by
  unfold cFun at h
  split at h
  · first | exact zAA h | exact ff_tt h | cases h
  rename_i hg
  have hg : isGlob sc f = true := by simpa using hg
  split at h
  · rename_i hf
    obtain rfl := eq_of_beq hf
    unfold cIsinst at h
    split at h
    · split at h
      · first | exact zAA h | exact ff_tt h | cases h
      rename_i hx
      simp only [Option.bind_eq_some_iff] at h
      obtain ⟨kn, hkn, h⟩ := h
      obtain ⟨pk, rfl⟩ := nameOf?_eq hkn
      split at h
      · rename_i hgk
        simp only [Option.bind_eq_some_iff, Option.map_eq_some_iff] at h
        obtain ⟨kd, hk, a, ha, rfl⟩ := h
        exact zCs (ok_isinst fs hg cl.isin hk hgk (by simpa using hx) (hr Γ sc _ a ha).eo)
      · first | exact zAA h | exact ff_tt h | cases h
    · first | exact zAA h | exact ff_tt h | cases h
  · simp only [Option.bind_eq_some_iff] at h
    obtain ⟨es, hes, h⟩ := h
    have ga := cL_ok hr hes
    split at h
    · rename_i n hn
      cases h
      exact zCs (ok_call fs FSs hg (cl.nd hn) hn ga)
    · rename_i hn
      split at h
      · rename_i hbk
        simp only [Bool.and_eq_true] at hbk
        obtain rfl := eq_of_beq hbk.2
        split at h
        · rename_i hem
          cases h
          have hnil : es = [] := List.isEmpty_iff.mp hem
          subst hnil
          cases ga
          exact zCs (ok_new fs FSs hbk.1 hg)
        · first | exact zAA h | exact ff_tt h | cases h
      split at h
      · simp only [Option.map_eq_some_iff] at h
        obtain ⟨o, ho, h⟩ := h
        cases ga with
        | cons g1 gs =>
          cases gs
          split at h
          · subst h; exact zCs (zCC (ok_b1 fs hg hn ho g1))
          · subst h; exact zCs (ok_b1 fs hg hn ho g1).eok
      · simp only [Option.map_eq_some_iff] at h
        obtain ⟨o, ho, rfl⟩ := h
        cases ga with
        | cons g1 gs =>
          cases gs with
          | cons g2 gs =>
            cases gs
            exact zCs (ok_b2 fs hg hn ho g1.star g2.star g1.eo g2.eo)
      · first | exact zAA h | exact ff_tt h | cases h
theorem cCall_ok (fs : Facts S C T) (FSs : FS S F q d) (cl : Clean C) (hr : ∀ Γ sc e c, rec Γ sc e = some c → GOk S F q d Γ sc e c) {Γ : List Str} {sc : Scope} {fn : Expr} {args : List Expr} {kws : List Keyword} {pos : Pos} {c : CE} (h : cCall C rec Γ sc fn args kws pos = some c) : GOk S F q d Γ sc (.Call fn args kws pos) c := by
  unfold cCall at h
  split at h
  · first | exact zAA h | exact ff_tt h | cases h
  rename_i hk
  simp only [Bool.or_eq_true, not_or, Bool.not_eq_true, Bool.not_eq_false', List.isEmpty_iff] at hk
  obtain ⟨rfl, hk⟩ := hk
  split at h
  · rename_i o m apos ha
    obtain rfl := attrParts?_eq ha
    exact cMeth_ok fs FSs hr (by simpa using hk) h
  · simp only [Option.bind_eq_some_iff] at h
    obtain ⟨f, hf, h⟩ := h
    obtain ⟨p, rfl⟩ := nameOf?_eq hf
    exact cFun_ok fs FSs cl hr h
theorem cDict_ok (hr : ∀ Γ sc e c, rec Γ sc e = some c → GOk S F q d Γ sc e c) {Γ : List Str} {sc : Scope} {ks : List (Option Expr)} {vs : List Expr} {pos : Pos} {c : CE} (h : cDict rec Γ sc ks vs = some c) : GOk S F q d Γ sc (.Dict ks vs pos) c := by
  cases vs with
  | nil =>
    cases ks with
    | nil => cases h; exact .of ok_dict0 (fun _ _ => rfl) rfl (fun _ => rfl) fun _ _ => rfl
    | cons _ _ => first | exact zAA h | exact ff_tt h | cases h
  | cons v vs =>
    cases vs with
    | cons _ _ => first | exact zAA h | exact ff_tt h | cases h
    | nil =>
      match ks, h with
      | [], h => cases h
      | _ :: _ :: _, h => cases h
      | [none], h => cases h
      | [some k], h =>
        have h : ((rec Γ sc k).bind fun a => (rec Γ sc v).map fun b => CE.dict1 a b) = some c := h
        obtain ⟨a, ha, h⟩ := Option.bind_eq_some_iff.mp h
        obtain ⟨b, hb, rfl⟩ := Option.map_eq_some_iff.mp h
        exact .of (ok_dict1 (hr Γ sc _ a ha).eo (hr Γ sc _ b hb).eo) (fun _ _ => rfl) rfl (fun _ => rfl) fun _ _ => rfl
theorem stepE_ok (fs : Facts S C T) (FSs : FS S F q d) (cl : Clean C) (hr : ∀ Γ sc e c, rec Γ sc e = some c → GOk S F q d Γ sc e c) {Γ : List Str} {sc : Scope} {e : Expr} {c : CE} (h : stepE C rec Γ sc e = some c) : GOk S F q d Γ sc e c := by
  cases e with
  | Constant k n pos => exact cConst_ok h
  | Name x pos => exact g_name fs h
  | BoolOp op vs pos =>
    have h : ((cL rec Γ sc vs).bind fun es => foldBool (op == .And) es) = some c := h
    simp only [Option.bind_eq_some_iff] at h
    obtain ⟨es, h1, h2⟩ := h
    have := ok_bools (pos := pos) (cL_ok hr h1) h2
    exact ⟨this.1, this.2, rfl, fun _ => rfl, fun _ _ => rfl⟩
  | BinOp l op r pos =>
    have h : ((binOf op).bind fun o => (rec Γ sc l).bind fun a => (rec Γ sc r).map fun b => trkAt C pos (.p2 o a b)) = some c := h
    simp only [Option.bind_eq_some_iff, Option.map_eq_some_iff] at h
    obtain ⟨o, ho, a, ha, b, hb, rfl⟩ := h
    exact .of (zCC (ok_BinOp ho (hr Γ sc l a ha).eo (hr Γ sc r b hb).eo)) (fun _ _ => rfl) rfl (fun _ => rfl) fun _ _ => rfl
  | UnaryOp op x pos =>
    cases op with
    | Not =>
      have h : (rec Γ sc x).map (.p1 .not) = some c := h
      simp only [Option.map_eq_some_iff] at h
      obtain ⟨a, ha, rfl⟩ := h
      have g := hr Γ sc x a ha
      exact ⟨ok_not g.eo, g.to.not, rfl, fun _ => rfl, fun _ _ => rfl⟩
    | USub =>
      have h : (rec Γ sc x).map (.p1 .neg) = some c := h
      simp only [Option.map_eq_some_iff] at h
      obtain ⟨a, ha, rfl⟩ := h
      exact .of (ok_neg (hr Γ sc x a ha).eo) (fun _ _ => rfl) rfl (fun _ => rfl) fun _ _ => rfl
    | UAdd => first | exact zAA h | exact ff_tt h | cases h
    | Invert => first | exact zAA h | exact ff_tt h | cases h
  | Compare a ops cs pos => exact cCmp_ok fs hr h
  | List es pos =>
    have h : (if es.length ≤ 1000 then (cL rec Γ sc es).map fun es => trkAt C pos (.list es) else none) = some c := h
    split at h
    · rename_i hl
      simp only [Option.map_eq_some_iff] at h
      obtain ⟨cs, h1, rfl⟩ := h
      exact .of (zCC (ok_list hl (cL_ok hr h1))) (fun _ _ => rfl) rfl (fun _ => rfl) fun _ _ => rfl
    · first | exact zAA h | exact ff_tt h | cases h
  | Tuple es k pos =>
    have h : (if es.length ≤ 1000 then (cL rec Γ sc es).map .tup else none) = some c := h
    split at h
    · rename_i hl
      simp only [Option.map_eq_some_iff] at h
      obtain ⟨cs, h1, rfl⟩ := h
      exact .of (ok_tuple hl (cL_ok hr h1)) (fun _ _ => rfl) rfl (fun _ => rfl) fun _ _ => rfl
    · first | exact zAA h | exact ff_tt h | cases h
  | ListComp elt gens scope pos =>
    have h : ((cComp rec Γ sc elt gens scope).map fun e => trkAt C pos e) = some c := h
    simp only [Option.map_eq_some_iff] at h
    obtain ⟨c', h', rfl⟩ := h
    obtain ⟨x, px, iter, ifs, ce, cond, k, cs, rfl, h1, h2, h3, h4, rfl⟩ := cComp_ok fs cl hr h'
    exact .of (zCC (ok_comp h1 h2 h3 h4)) (fun _ _ => rfl) rfl (fun _ => rfl) fun _ _ => rfl
  | Subscript o i pos => exact cSub_ok fs hr h
  | Call fn args kws pos => exact cCall_ok fs FSs cl hr h
  | Attribute o m pos =>
    have h : ((C.attrs.lookup m).bind fun k => if noSuper o then (rec Γ sc o).map fun a => .attr a k else none) = some c := h
    simp only [Option.bind_eq_some_iff] at h
    obtain ⟨k, hk, h⟩ := h
    split at h
    · rename_i hb
      simp only [Option.map_eq_some_iff] at h
      obtain ⟨a, ha, rfl⟩ := h
      exact .of (ok_attr fs hk hb (hr Γ sc o a ha).eo) (fun _ _ => rfl) rfl (fun _ => rfl) fun _ _ => rfl
    · first | exact zAA h | exact ff_tt h | cases h
  | Dict ks vs pos =>
    exact cDict_ok hr h
  | _ => first | exact zAA h | exact ff_tt h | cases h
end
theorem cE_ok (fs : Facts S C T) (FSs : FS S F q d) (cl : Clean C) : ∀ (n : Nat) (Γ : List Str) (sc : Scope) (e : Expr) (c : CE), cE C n Γ sc e = some c → GOk S F q d Γ sc e c
  | 0, _, _, _, _, h => by cases h
  | n + 1, Γ, sc, e, c, h => stepE_ok fs FSs cl (cE_ok fs FSs cl n) h
theorem isComp_eq {e : Expr} (h : isComp e = true) : ∃ a b c p, e = .ListComp a b c p := by
  cases e with
  | ListComp => exact ⟨_, _, _, _, rfl⟩
  | Constant k n p => cases k <;> exact ff_tt h
  | Slice l u st p => cases st <;> exact ff_tt h
  | _ => exact ff_tt h
theorem zCy {n : Nat} {Γ : List Str} {sc : Scope} {e : Expr} {c : CE} (h : cE C n Γ sc e = some c) (hc : isComp e = false) : ∀ env n t, swapsWith e t n env = pure false := fun env _ t =>
  swaps_no hc (fun el gs sc p e' => by subst e'; cases n <;> cases h) (fun k v gs sc p e' => by subst e'; cases n <;> cases h)
section
variable {rec : Stmt → CS} {Γ : List Str} {sc : Scope}
theorem zEh (hr : ∀ s, SOk S F Fq q d Γ sc s (rec s)) : ∀ (ss : List Stmt), LSOk S F Fq q d Γ sc ss (ss.map rec)
  | [] => ok_nil
  | s :: ss => ok_cons (hr s) (zEh hr ss)
theorem cAsg_ok (fs : Facts S C T) (FSs : FS S F q d) (cl : Clean C) {t e : Expr} {pos : Pos} {c : CS} (h : cAsg C Γ sc t e = some c) : SOk S F Fq q d Γ sc (.Assign [t] e pos) c := by
  have hE := cE_ok (F := F) (q := q) (d := d) fs FSs cl deep
  unfold cAsg at h
  split at h
  · rename_i x hx
    obtain ⟨px, rfl⟩ := nameOf?_eq hx
    simp only [Option.bind_eq_some_iff, Option.map_eq_some_iff] at h
    obtain ⟨i, hi, a, ha, rfl⟩ := h
    cases hc : isComp e with
    | false => exact ok_asg hi (hE Γ sc _ a ha).eo (zCy ha hc)
    | true =>
      obtain ⟨elt, gens, scope, p, rfl⟩ := isComp_eq hc
      have ha : ((cComp (cE C 29) Γ sc elt gens scope).map fun e => trkAt C p e) = some a := ha
      simp only [Option.map_eq_some_iff] at ha
      obtain ⟨c', h', rfl⟩ := ha
      obtain ⟨x, px, iter, ifs, ce, cond, k, cs, rfl, h1, h2, h3, h4, rfl⟩ := cComp_ok fs cl (cE_ok fs FSs cl 29) h'
      refine ok_comp_asg hi h1 h2 h3 h4 ?_
      unfold trkAt
      split
      · exact .inr rfl
      · exact .inl rfl
  · split at h
    · rename_i p hp
      obtain ⟨p', rfl⟩ := subParts?_eq hp
      split at h
      · first | exact zAA h | exact ff_tt h | cases h
      · rename_i hc
        simp only [Option.bind_eq_some_iff, Option.map_eq_some_iff] at h
        obtain ⟨v, hv, a, ha, b, hb, rfl⟩ := h
        exact ok_setItem (hE Γ sc _ a ha).eo (hE Γ sc _ b hb).eo (hE Γ sc _ v hv).eo (zCy hv (by simpa using hc))
    · unfold cAsgA at h
      split at h
      · rename_i p hp
        obtain ⟨o, m, pa⟩ := p
        obtain rfl := attrParts?_eq hp
        simp only [Option.bind_eq_some_iff] at h
        obtain ⟨k, hk, h⟩ := h
        split at h
        · first | exact zAA h | exact ff_tt h | cases h
        · rename_i hc
          simp only [Option.bind_eq_some_iff, Option.map_eq_some_iff] at h
          obtain ⟨v, hv, b, hb, rfl⟩ := h
          exact ok_setAttr fs hk (hE Γ sc _ b hb).eo (hE Γ sc _ v hv).eo (zCy hv (by simpa using hc))
      cases h
theorem cTK_ok (fs : Facts S C T) (FSs : FS S F q d) (cl : Clean C) {ss : List Stmt} {k : TK} {c : CE} (h : cTK C Γ sc ss = some (k, c)) : (∃ b₀ bs, ss = b₀ :: bs) ∧ TKOk S F q d Γ sc ss k c := by
  have hE := cE_ok (F := F) (q := q) (d := d) fs FSs cl deep
  match ss, h with
  | [], h => cases h
  | _ :: _ :: _, h => cases h
  | [s], h =>
    refine ⟨⟨_, _, rfl⟩, ?_⟩
    have h : cTK1 C Γ sc s = some (k, c) := h
    cases s with
    | Return v pos =>
      cases v with
      | none => first | exact zAA h | exact ff_tt h | cases h
      | some e =>
        obtain ⟨a, ha, e'⟩ := Option.map_eq_some_iff.mp h
        cases e'
        exact tk_ret (hE Γ sc _ _ ha).eo
    | Assign ts e pos =>
      match ts, h with
      | [], h => cases h
      | _ :: _ :: _, h => cases h
      | [t], h =>
        have h : (if isComp e = true then none else (nameOf? t).bind fun x => (slotOf Γ sc x).bind fun i => (cE C deep Γ sc e).map fun c => (TK.asg i, c)) = some (k, c) := h
        by_cases hcm : isComp e = true
        · rw [if_pos hcm] at h; first | exact zAA h | exact ff_tt h | cases h
        rw [if_neg hcm] at h
        obtain ⟨x, hx, h⟩ := Option.bind_eq_some_iff.mp h
        obtain ⟨i, hi, h⟩ := Option.bind_eq_some_iff.mp h
        obtain ⟨a, ha, e'⟩ := Option.map_eq_some_iff.mp h
        cases e'
        obtain ⟨px, rfl⟩ := nameOf?_eq hx
        exact tk_asg hi (hE Γ sc _ _ ha).eo (zCy ha (by simpa using hcm))
    | Expr e pos =>
      have h : (if isComp e = true then none else (cE C deep Γ sc e).map fun c => (TK.exp, c)) = some (k, c) := h
      by_cases hcm : isComp e = true
      · rw [if_pos hcm] at h; first | exact zAA h | exact ff_tt h | cases h
      rw [if_neg hcm] at h
      obtain ⟨a, ha, e'⟩ := Option.map_eq_some_iff.mp h
      cases e'
      exact tk_exp (hE Γ sc _ _ ha).eo (zCy ha (by simpa using hcm))
    | _ => first | exact zAA h | exact ff_tt h | cases h
theorem cHds_ok (fs : Facts S C T) (FSq : FS S Fq true d) (cl : Clean C) : ∀ {hs : List ExceptHandler} {cs : List Hd}, cHds C Γ sc hs = some cs → All2 (HdOk S C Fq d Γ sc) hs cs
  | [], cs, h => by cases h; exact .nil
  | h₀ :: hs, cs, h => by
    have h : ((cHd C Γ sc h₀).bind fun a => (cHds C Γ sc hs).map fun as => a :: as) = some cs := h
    simp only [Option.bind_eq_some_iff, Option.map_eq_some_iff] at h
    obtain ⟨a, ha, as, has, rfl⟩ := h
    refine .cons ?_ (cHds_ok fs FSq cl has)
    unfold cHd at ha
    split at ha
    · rename_i t n body pos
      simp only [Option.bind_eq_some_iff, Option.map_eq_some_iff] at ha
      obtain ⟨x, hx, k, hk, as, has, ⟨tk, c⟩, hp, rfl⟩ := ha
      obtain ⟨px, rfl⟩ := nameOf?_eq hx
      obtain ⟨⟨b₀, bs, rfl⟩, ht⟩ := cTK_ok fs FSq cl hp
      refine ⟨x, px, n, b₀, bs, pos, rfl, hk, ?_, ht⟩
      cases n with
      | none => cases has; exact .inl ⟨rfl, rfl⟩
      | some y =>
        have has : (if sc.names.lookup y == some .local then (slotOf Γ sc y).bind (fun _ => (none : Option (Option Nat))) else none) = some as := has
        split at has
        · cases hs : slotOf Γ sc y <;> rw [hs] at has <;> cases has
        · first | exact zAA has | exact ff_tt has | cases has
    · first | exact zAA ha | exact ff_tt ha | cases ha
theorem cRaise_ok (fs : Facts S C T) {e : Expr} {pos : Pos} {c : CS} (h : cRaise C sc e = some c) : SOk S F Fq q d Γ sc (.Raise (some e) none pos) c := by
  obtain ⟨⟨fn, args, kws⟩, hc, h⟩ := Option.bind_eq_some_iff.mp h
  obtain ⟨cp, rfl⟩ := callParts?_eq hc
  clear hc
  match args, h with
  | [], h => cases h
  | _ :: _ :: _, h => cases h
  | [x], h =>
    have h2 : (if kws.isEmpty then (strC? x).bind fun s => (nameOf? fn).bind fun f => if s.length ≤ 1000 && PyData.strOk s then (excOf C sc f).map .raise else none else none) = some c := h
    by_cases hk0 : kws.isEmpty = true
    · rw [if_pos hk0] at h2
      obtain ⟨m, hm, h3⟩ := Option.bind_eq_some_iff.mp h2
      obtain ⟨f, hf, h4⟩ := Option.bind_eq_some_iff.mp h3
      obtain ⟨kk, kp, rfl⟩ := strC?_eq hm
      obtain ⟨px, rfl⟩ := nameOf?_eq hf
      obtain rfl : kws = [] := List.isEmpty_iff.mp hk0
      by_cases hl : (m.length ≤ 1000 && PyData.strOk m) = true
      · rw [if_pos hl] at h4
        obtain ⟨k, hk, rfl⟩ := Option.map_eq_some_iff.mp h4
        exact ok_raise fs hl hk
      · rw [if_neg hl] at h4; first | exact zAA h4 | exact ff_tt h4 | cases h4
    · rw [if_neg hk0] at h2; first | exact zAA h2 | exact ff_tt h2 | cases h2
theorem stepS_ok (fs : Facts S C T) (FSs : FS S F q d) (FSq : FS S Fq true d) (cl : Clean C) (hr : ∀ s, SOk S F Fq q d Γ sc s (rec s)) {s : Stmt} {c : CS} (h : stepS C Γ sc rec s = some c) : SOk S F Fq q d Γ sc s c := by
  have hE := cE_ok (F := F) (q := q) (d := d) fs FSs cl deep
  cases s with
  | Return v pos =>
    cases v with
    | none => first | exact zAA h | exact ff_tt h | cases h
    | some e =>
      have h : (cE C deep Γ sc e).map .ret = some c := h
      simp only [Option.map_eq_some_iff] at h
      obtain ⟨a, ha, rfl⟩ := h
      exact ok_ret (hE Γ sc _ a ha).eo
  | Assign ts e pos =>
    match ts, h with
    | [], h => cases h
    | [t], h => exact cAsg_ok fs FSs cl h
    | _ :: _ :: _, h => cases h
  | If t a b pos =>
    have h : ((cE C deep Γ sc t).map fun t => CS.ite t (a.map rec) (b.map rec)) = some c := h
    simp only [Option.map_eq_some_iff] at h
    obtain ⟨t', ht, rfl⟩ := h
    exact ok_if (hE Γ sc _ t' ht).to (zEh hr a) (zEh hr b)
  | For x iter body orelse pos =>
    cases orelse with
    | cons _ _ => first | exact zAA h | exact ff_tt h | cases h
    | nil =>
      have h : ((nameOf? x).bind fun x => (slotOf Γ sc x).bind fun i => (cSrc (cE C deep) Γ sc iter).map fun s => CS.for i s.1 s.2 (body.map rec)) = some c := h
      simp only [Option.bind_eq_some_iff, Option.map_eq_some_iff] at h
      obtain ⟨xn, hx, i, hi, ⟨k, cs⟩, hs, rfl⟩ := h
      obtain ⟨px, rfl⟩ := nameOf?_eq hx
      exact ok_for hi (cSrc_ok fs cl hE hs) (zEh hr body)
  | Expr e pos =>
    have h : (if isComp e then none else (cE C deep Γ sc e).map .exp) = some c := h
    split at h
    · first | exact zAA h | exact ff_tt h | cases h
    · rename_i hc
      simp only [Option.map_eq_some_iff] at h
      obtain ⟨a, ha, rfl⟩ := h
      exact ok_exp (hE Γ sc _ a ha).eo (zCy ha (by simpa using hc))
  | Pass pos => cases h; exact ok_pass
  | Raise e c' pos =>
    match e, c', h with
    | none, _, h => cases h
    | some _, some _, h => cases h
    | some e, none, h =>
      exact cRaise_ok fs h
  | Try body hs oe fb pos =>
    match hs, oe, fb, h with
    | h₀ :: hs, [], [], h =>
      have h : ((cTK C Γ sc body).bind fun p => (cHds C Γ sc (h₀ :: hs)).map fun hs => CS.try p.1 p.2 hs) = some c := h
      simp only [Option.bind_eq_some_iff, Option.map_eq_some_iff] at h
      obtain ⟨⟨k, ce⟩, hb, cs, hcs, rfl⟩ := h
      obtain ⟨⟨b₀, bs, rfl⟩, ht⟩ := cTK_ok fs FSs cl hb
      exact ok_try fs ht (cHds_ok fs FSq cl hcs)
    | [], _, _, h => cases h
    | _ :: _, _ :: _, _, h => cases h
    | _ :: _, [], _ :: _, h => cases h
  | _ => first | exact zAA h | exact ff_tt h | cases h
end
theorem cS_ok (fs : Facts S C T) (FSs : FS S F q d) (FSq : FS S Fq true d) (cl : Clean C) {Γ : List Str} {sc : Scope} : ∀ (n : Nat) (s : Stmt), SOk S F Fq q d Γ sc s (cS C Γ sc n s)
  | 0, _ => ok_stuck
  | n + 1, s => by
    show SOk S F Fq q d Γ sc s ((stepS C Γ sc (cS C Γ sc n) s).getD .stuck)
    cases h : stepS C Γ sc (cS C Γ sc n) s with
    | none => exact ok_stuck
    | some c => exact stepS_ok fs FSs FSq cl (cS_ok fs FSs FSq cl n) h
theorem sSL (fs : Facts S C T) (FSs : FS S F q d) (FSq : FS S Fq true d) (cl : Clean C) (Γ : List Str) (sc : Scope) (ss : List Stmt) : LSOk S F Fq q d Γ sc ss (cSL C Γ sc ss) := zEh (cS_ok fs FSs FSq cl deep) ss
end
end Mine
end

/-! # Fun -/
section
set_option autoImplicit false
namespace Mine
open PySem PyProof.Rows
inductive FnAt (S : Stat) (C : Ctx) (k : Nat) (fn : Fn) : Prop where
  | mk (o : Obj) (fd : FuncData) (body : List Stmt) (ps : List Str) (ho : S.hb.get? (S.fn k) = some o) (hdata : o.data = .func fd) (hbody : fd.body = .stmts body) (hclo : fd.closure = []) (hglob : fd.globals = mainGlobals) (hblt : fd.builtins = builtinsNs)
      (hcode : S.hb.CodeRec fd.code fd.qualname) (hco : fd.scope.isCoroutine = false) (hgen : fd.scope.isGenerator = false) (hkf : fd.scope.kind = .function)
      (hbind : ∀ vals : List Value, vals.length = ps.length → bindArgs fd ⟨vals, []⟩ = pure (ps.zip vals)) (hnd : ps.Nodup) (hpk : ∀ p ∈ ps, fd.scope.names.lookup p = some .local ∨ fd.scope.names.lookup p = some .cell)
      (hfree : ∀ p ∈ fd.scope.names, p.2 ≠ .free) (hnn : (fd.scope.names.map (·.1)).Nodup) (hpar : fn.params = ps.length) (hslots : fn.slots = (slotsOf ps fd.scope).length) (hcomp : cSL C (slotsOf ps fd.scope) fd.scope body = fn.body)
theorem bindL_skip {kindOf : Str → Option NameKind} {x : Str} : ∀ (b : List (Str × Value)) (m : Str → Option Value), (∀ p ∈ b, p.1 ≠ x) → bindL kindOf b m x = m x
  | [], m, _ => rfl
  | (n, v) :: r, m, h => by
    rw [bindL, bindL_skip r _ fun p hp => h p (List.mem_cons_of_mem _ hp)]
    have : x ≠ n := fun e => h (n, v) List.mem_cons_self e.symm
    split
    · simp [this]
    · rfl
theorem bindC_skip {kindOf : Str → Option NameKind} {x : Str} : ∀ (b : List (Str × Value)) (m : Str → Option Value), (∀ p ∈ b, p.1 ≠ x) → bindC kindOf b m x = m x
  | [], m, _ => rfl
  | (n, v) :: r, m, h => by
    rw [bindC, bindC_skip r _ fun p hp => h p (List.mem_cons_of_mem _ hp)]
    have : x ≠ n := fun e => h (n, v) List.mem_cons_self e.symm
    split
    · rfl
    · simp [this]
theorem zDs {ps : List Str} {vs : List Value} {p : Str × Value} (h : p ∈ ps.zip vs) : p.1 ∈ ps := (List.of_mem_zip h).1
theorem bindL_at {kindOf : Str → Option NameKind} {x : Str} {w : Value} (hk : kindOf x = some .local) : ∀ (ps : List Str) (vs : List Value) (i : Nat) (m : Str → Option Value), ps.Nodup → ps[i]? = some x → vs[i]? = some w → bindL kindOf (ps.zip vs) m x = some w
  | [], _, i, _, _, h, _ => by simp at h
  | p :: ps, [], i, _, _, _, h => by simp at h
  | p :: ps, v :: vs, 0, m, hn, h1, h2 => by
    obtain rfl : p = x := by simpa using h1
    obtain rfl : v = w := by simpa using h2
    rw [List.zip_cons_cons, bindL, bindL_skip (x := p) _ _ fun q hq e => (List.nodup_cons.mp hn).1 (e ▸ zDs hq), if_pos hk]
    simp
  | p :: ps, v :: vs, i + 1, m, hn, h1, h2 => by
    rw [List.zip_cons_cons, bindL]
    exact bindL_at hk ps vs i _ (List.nodup_cons.mp hn).2 (by simpa using h1) (by simpa using h2)
theorem bindC_at {kindOf : Str → Option NameKind} {x : Str} {w : Value} (hk : kindOf x ≠ some .local) : ∀ (ps : List Str) (vs : List Value) (i : Nat) (m : Str → Option Value), ps.Nodup → ps[i]? = some x → vs[i]? = some w → bindC kindOf (ps.zip vs) m x = some w
  | [], _, i, _, _, h, _ => by simp at h
  | p :: ps, [], i, _, _, _, h => by simp at h
  | p :: ps, v :: vs, 0, m, hn, h1, h2 => by
    obtain rfl : p = x := by simpa using h1
    obtain rfl : v = w := by simpa using h2
    rw [List.zip_cons_cons, bindC, bindC_skip (x := p) _ _ fun q hq e => (List.nodup_cons.mp hn).1 (e ▸ zDs hq), if_neg hk]
    simp
  | p :: ps, v :: vs, i + 1, m, hn, h1, h2 => by
    rw [List.zip_cons_cons, bindC]
    exact bindC_at hk ps vs i _ (List.nodup_cons.mp hn).2 (by simpa using h1) (by simpa using h2)
theorem zBV {x : Str} : ∀ (names : List (Str × NameKind)) (n : Nat) (acc : List (Str × Addr)), (acc.lookup x).isSome = true → ((cellsFrom n names acc).lookup x).isSome = true
  | [], _, _, h => h
  | (y, k) :: r, n, acc, h => by
    unfold cellsFrom
    split
    · refine zBV r _ _ ?_
      rw [List.lookup_cons]
      split
      · rfl
      · exact h
    · exact zBV r _ _ h
theorem zAm {x : Str} : ∀ (names : List (Str × NameKind)) (n : Nat) (acc : List (Str × Addr)), (x, NameKind.cell) ∈ names → ((cellsFrom n names acc).lookup x).isSome = true
  | [], _, _, h => nomatch h
  | (y, k) :: r, n, acc, h => by
    unfold cellsFrom
    rcases List.mem_cons.mp h with e | h
    · cases e
      rw [if_pos (by rfl)]
      exact zBV r _ _ (by rw [List.lookup_cons]; simp)
    · split
      · exact zAm r _ _ h
      · exact zAm r _ _ h
theorem zBE : ∀ (names : List (Str × NameKind)) (n : Nat) (acc : List (Str × Addr)), (names.map (·.1)).Nodup → (acc.map (·.1)).Nodup → (∀ x ∈ acc.map (·.1), x ∉ names.map (·.1)) → ((cellsFrom n names acc).map (·.1)).Nodup
  | [], _, _, _, h, _ => h
  | (y, k) :: r, n, acc, h1, h2, h3 => by
    have h1' := List.nodup_cons.mp h1
    unfold cellsFrom
    split
    · refine zBE r _ _ h1'.2 (List.nodup_cons.mpr ⟨fun h => h3 _ h List.mem_cons_self, h2⟩) fun x hx => ?_
      rcases List.mem_cons.mp hx with rfl | hx
      · exact h1'.1
      · exact fun h => h3 x hx (List.mem_cons_of_mem _ h)
    · exact zBE r _ _ h1'.2 h2 fun x hx h => h3 x hx (List.mem_cons_of_mem _ h)
theorem zCo {β : Type} : ∀ {l : List (Str × β)} {p : Str × β}, (l.map (·.1)).Nodup → p ∈ l → l.lookup p.1 = some p.2
  | (y, v) :: r, p, hn, h => by
    have hn' := List.nodup_cons.mp hn
    rw [List.lookup_cons]
    rcases List.mem_cons.mp h with rfl | h
    · simp
    · have : (p.1 == y) = false := by
        cases e : (p.1 == y) with
        | false => rfl
        | true => exact (hn'.1 (eq_of_beq e ▸ List.mem_map_of_mem (f := (·.1)) h)).elim
      rw [this]
      exact zCo hn'.2 h
section
variable {S : Stat} {C : Ctx} {T : Nat → Option Fn}
theorem zDI (fs : Facts S C T) (cl : Clean C) (fa : ∀ k fn, T k = some fn → FnAt S C k fn) : ∀ (d : Nat) (q : Bool), FS S (callFn T d q) q d
  | 0, q => fun k vs σ f X A s vals cx L rs hne => (hne (by rfl)).elim
  | d + 1, q => fun k vs σ f X A s vals cx L rs hne => by
    have ih := zDI fs cl fa d q
    have ihq := zDI fs cl fa d true
    rw [zCA] at hne ⊢
    cases hT : T k with
    | none => rw [hT] at hne; exact (hne rfl).elim
    | some fn =>
      rw [hT] at hne
      simp only at hne ⊢
      by_cases hlen : vs.length = fn.params
      case neg => rw [if_neg hlen] at hne; exact (hne rfl).elim
      rw [if_pos hlen] at hne ⊢
      obtain ⟨o, fd, body, ps, ho, hdata, hbody, hclo, hglob, hblt, hcode, hco, hgen, hkf, hbind, hnd, hpk, hfree, hnn, hpar, hslots, hcomp⟩ := fa k fn hT
      have LS : LSOk S (callFn T d q) (callFn T d true) q d (slotsOf ps fd.scope) fd.scope body fn.body := hcomp ▸ sSL fs ih ihq cl _ _ _
      refine ⟨⟨o, fd, ho, hdata⟩, ?_⟩
      have hvl : vals.length = ps.length := by rw [← zBO rs, hlen, hpar]
      refine codeAny_call_cells (by have := cx.depth; show A.depth < 1000; omega) (L.base _ _ ho) hdata (by obtain ⟨mc, h1, h2⟩ := fs.nolimit; exact ⟨mc, L.ns h1, h2⟩)
        (by obtain ⟨c, o, vs, t, e1, e2, e3⟩ := hcode; exact ⟨c, o, vs, t, e1, L.base _ _ e2, e3⟩) hbody (hbind vals hvl) hclo
        (fun x hx => (hpk x.1 (zDs hx)).imp id fun h => ⟨h, zAm _ _ _ (zAJ h)⟩) (fun s₁ ic => ?_) hco hgen hkf
      generalize henv : callEnvC fd s.heap.objs.size (S.fn k) = env at ic ⊢
      have e_loc : env.locals = s.heap.objs.size := by rw [← henv]; rfl
      have e_cells : env.cells = cellsFrom (s.heap.objs.size + 1) fd.scope.names [] := by rw [← henv]; rfl
      have e_kind : ∀ x, env.kindOf x = fd.scope.names.lookup x := fun x => by rw [← henv]; rfl
      have e_scope : env.scope = fd.scope := by rw [← henv]; rfl
      have e_glob : env.globals = mainGlobals := by rw [← henv]; exact hglob
      have e_blt : env.builtins = builtinsNs := by rw [← henv]; exact hblt
      have e_frame : env.frame = some s.heap.objs.size := by rw [← henv]; rfl
      have hkeep := ic.toInCall.keep
      have hnew : ∀ a, s.heap.objs.size ≤ a → s.heap.get? a = none := fun a ha => by
        cases e : s.heap.get? a with
        | none => rfl
        | some o => exact absurd (Heap.lt_size e) (Nat.not_lt.mpr ha)
      have hN : ∀ a ∈ ya env, s.heap.get? a = none ∧ ∃ o, s₁.heap.get? a = some o := fun a ha => by
        rcases List.mem_cons.mp ha with rfl | ha
        · refine ⟨hnew _ (by rw [e_loc]; exact Nat.le_refl _), ?_⟩
          obtain ⟨o, _, _, ho, _⟩ := ic.toInCall.ns
          exact ⟨o, ho⟩
        · obtain ⟨p, hp, rfl⟩ := List.mem_map.mp ha
          have hlo := ic.above p.1 p.2 hp
          refine ⟨hnew _ (Nat.le_of_lt (e_loc ▸ hlo)), ?_⟩
          have hlk : env.cells.lookup p.1 = some p.2 := zCo (by rw [e_cells]; exact zBE _ _ _ hnn .nil fun _ h => nomatch h) hp
          obtain ⟨o, ho, _⟩ := ic.cell p.1 p.2 hlk
          exact ⟨o, ho⟩
      have L' : Lk S (ya env ++ X) f σ s₁.heap := L.enter hkeep hN
      have rs' : VRs S (ya env ++ X) f s₁.heap vs vals :=
        VRs.keep (fun _ _ e => e) (fun a o ho h1 h2 => ⟨⟨h1, fun h => (List.mem_append.mp h).elim (fun h => by rw [(hN a h).1] at ho; cases ho) h2⟩, o, hkeep a o ho, .refl o⟩) _ _ rs
      have hcx : Cx S (A.deeper env) q d f s₁.heap env.frame := by
        obtain ⟨l, h1, h2⟩ := cx.frs
        refine ⟨by have := cx.depth; show A.depth + 1 + 2 * d + 3 ≤ 900; omega, by have := cx.units; show A.units + 3 + 5 * d + 202 ≤ 9900; omega, cx.hand, env, l, by show A.frames.map (env :: ·) = _; rw [h1]; rfl, rfl, fun e he => ?_⟩
        rcases List.mem_cons.mp he with rfl | he
        · obtain ⟨o, es, n, ho, hd, _⟩ := ic.toInCall.ns
          have hl := L'.hid e.locals (List.mem_append_left _ List.mem_cons_self)
          exact ⟨by rw [e_scope, hkf]; simp, e.locals, o, es, n, by rw [e_frame, e_loc], hl.1, hl.2.1, ho, hd⟩
        · obtain ⟨h3, L1, o, es, n, h4, h5, h6, h7, h8⟩ := h2 e he
          exact ⟨h3, L1, o, es, n, h4, h5, h6, hkeep _ _ h7, h8⟩
      have hfr : FR S (ya env ++ X) f s₁.heap env (slotsOf ps fd.scope) fd.scope (vs ++ List.replicate (fn.slots - fn.params) .undef) := by
        refine ⟨by rw [e_scope, hkf], e_glob, e_blt, fun x => .inl (e_kind x), ⟨List.mem_append_left _ List.mem_cons_self, _, ic.toInCall.ns⟩, fun x hx => ?_, fun x i v h1 h2 h3 h4 => ?_, ?_⟩
        · have hc : fd.scope.names.lookup x = some .cell := by
            rcases hx with h | h
            · rw [← e_kind]; exact h
            · rw [e_kind] at h; exact absurd rfl (hfree _ (zAJ h))
          have := zAm (x := x) fd.scope.names (s.heap.objs.size + 1) [] (zAJ hc)
          rw [← e_cells] at this
          obtain ⟨c, hcl⟩ := Option.isSome_iff_exists.mp this
          exact ⟨c, _, hcl, List.mem_append_left _ (List.mem_cons_of_mem _ (mem_lookup hcl)), ic.cell x c hcl⟩
        · have hi : i < vs.length := by
            cases hlt : decide (i < vs.length) with
            | true => exact of_decide_eq_true hlt
            | false =>
              have hge : vs.length ≤ i := Nat.le_of_not_lt (of_decide_eq_false hlt)
              rw [List.getElem?_append_right hge] at h3
              have := List.eq_of_mem_replicate (List.mem_of_getElem? h3)
              exact (h4 this).elim
          rw [List.getElem?_append_left hi] at h3
          obtain ⟨w, hw, r⟩ := zDK rs' h3
          have hx : ps[i]? = some x := by
            have := zBR h2
            unfold slotsOf at this
            rwa [List.getElem?_append_left (by rw [← hpar, ← hlen]; exact hi)] at this
          refine ⟨w, ?_, r⟩
          rcases hpk x (List.mem_of_getElem? hx) with h | h
          · exact .inl ⟨by rw [e_kind, h], _, ic.toInCall.ns, bindL_at (by rw [e_kind, h]) ps vals i _ hnd hx hw⟩
          · have := zAm (x := x) fd.scope.names (s.heap.objs.size + 1) [] (zAJ h)
            rw [← e_cells] at this
            obtain ⟨c, hcl⟩ := Option.isSome_iff_exists.mp this
            refine .inr ⟨.inl (by rw [e_kind, h]), c, hcl, ?_⟩
            have := ic.cell x c hcl
            rwa [bindC_at (by rw [e_kind, h]; simp) ps vals i _ hnd hx hw] at this
        · have : (slotsOf ps fd.scope).length = ps.length + ((fd.scope.names.filter fun p => (p.2 == .local || p.2 == .cell) && !ps.contains p.1).map (·.1)).length := by rw [slotsOf, List.length_append]
          rw [List.length_append, List.length_replicate, hlen, hslots, hpar]
          omega
      have hfw : FW env (ya env ++ X) := by
        refine ⟨List.mem_append_left _ List.mem_cons_self, fun p hp => List.mem_append_left _ (List.mem_cons_of_mem _ (List.mem_map_of_mem hp)), fun x y c h1 h2 => ?_⟩
        exact name_of_addr ic.apart (mem_of_lookup h1) (mem_of_lookup h2)
      have hne' : exL (callFn T d q) (callFn T d true) q fn.body (vs ++ List.replicate (fn.slots - fn.params) .undef) σ ≠ .stuck := fun e => hne (by rw [e]; rfl)
      refine wpAny_mono (LS env _ f (ya env ++ X) σ s₁ (A.deeper env) ⟨hcx, hfr, L'⟩ hfw hne') (fun fl s' hq => ?_) fun e s' he => ?_
      · obtain ⟨x, σ', g, er, hg, kp, Lk', hfl⟩ := hq
        rw [er] at hne ⊢
        have hg0 : Fresh g s := fun a ha => zAc (fun a o e => ⟨o, hkeep a o e⟩) (hg a ha)
        have kp0 : Kp f [] s s' := by
          obtain ⟨h0, tk, e0⟩ := ic.toInCall.same
          refine ⟨by rw [kp.rest, e0], fun a o e => kp.live a o (hkeep a o e), fun a o e h1 _ => kp.kept a o (hkeep a o e) h1 fun h => (by rw [(hN a h).1] at e; cases e), fun a o es n e hd h1 => kp.dicts a o es n (hkeep a o e) hd h1⟩
        have Lk0 : Lk S X (f ++ g) σ' s'.heap := Lk'.less fun a ha => List.mem_append_right _ ha
        cases x with
        | ret v =>
          obtain ⟨w, rfl, r⟩ := hfl
          exact ⟨v, σ', g, rfl, hg0, kp0, Lk0, r.less fun a ha => List.mem_append_right _ ha⟩
        | next ρ' =>
          obtain ⟨rfl, -⟩ := hfl
          exact ⟨.none, σ', g, rfl, hg0, kp0, Lk0, by show VR _ _ _ _ _ _; rw [VR]⟩
      · obtain ⟨c, σ', g, ea, rfl, e2, hg, kp, Lk', x⟩ := he
        rw [e2] at hne ⊢
        obtain ⟨en, l, h1, h2, h3⟩ := (hcx.keep kp hg).frs
        obtain ⟨_, L1, _, _, _, h4, _⟩ := h3 en List.mem_cons_self
        have hX : ∀ a ∈ ya env ++ X, ∃ o, s₁.heap.get? a = some o := fun a ha => (L'.hid a ha).2.2
        unfold leaving
        rw [zDM (env' := en) h2]
        refine wpAny_bind (note_sound h1 h3 h4 x hX (fun a h => zAc kp.live h) fun h' hs hf _ N L'' x' => ?_)
        have kp1 := N.kp kp hf
        refine ⟨c, σ', g, ea, rfl, rfl, fun a ha => zAc (fun a o e => ⟨o, hkeep a o e⟩) (hg a ha), ?_, L''.less fun a ha => List.mem_append_right _ ha, (x'.less fun a ha => List.mem_append_right _ ha).back fun a h => zAc (fun a o e => ⟨o, hkeep a o e⟩) h⟩
        obtain ⟨h0, tk, e0⟩ := ic.toInCall.same
        exact ⟨by rw [kp1.rest, e0], fun a o e => kp1.live a o (hkeep a o e), fun a o e h1 _ => kp1.kept a o (hkeep a o e) h1 fun h => (by rw [(hN a h).1] at e; cases e), fun a o es n e hd h1 => kp1.dicts a o es n (hkeep a o e) hd h1⟩
end
end Mine
end

/-! # Link -/
section
set_option autoImplicit false
namespace Mine
open PySem PySem.W PyProof.Rows
noncomputable def plainArgs (a : Arguments) : Bool := a.posonlyargs.isEmpty && a.vararg.isNone && a.kwonlyargs.isEmpty && a.kw_defaults.isEmpty && a.kwarg.isNone && a.defaults.isEmpty
noncomputable def recOkB (params : Arguments) (scope : Scope) : Bool := plainArgs params && !scope.isCoroutine && !scope.isGenerator && scope.kind == .function && decide (params.args.map (·.arg)).Nodup && ((params.args.map (·.arg)).all fun p => scope.names.lookup p == some .local || scope.names.lookup p == some .cell)
  && !scope.names.any (fun p => p.2 == .free) && decide (scope.names.map (·.1)).Nodup
noncomputable def recFn (C : Ctx) (params : Arguments) (body : List Stmt) (scope : Scope) : Option Fn :=
  if recOkB params scope then some ⟨(params.args.map (·.arg)).length, (slotsOf (params.args.map (·.arg)) scope).length, cSL C (slotsOf (params.args.map (·.arg)) scope) scope body⟩ else none
noncomputable def tabF (C : Ctx) (ds : List DefRec) : Option (List (Nat × Fn)) := ds.mapM fun d => (C.fns.lookup d.name).bind fun k => (recFn C d.params d.body d.scope).map fun f => (k, f)
noncomputable def tabM (C : Ctx) (ms : List MethRec) : Option (List (Nat × Fn)) := ms.mapM fun d => (C.meths.lookup d.name).bind fun k => (recFn C d.params d.body d.scope).map fun f => (k, f)
theorem mapM_mem {α β : Type} {g : α → Option β} : ∀ {l : List α} {r : List β} {b : β}, l.mapM g = some r → b ∈ r → ∃ a ∈ l, g a = some b
  | [], r, b, h, hb => by simp at h; subst h; cases hb
  | a :: l, r, b, h, hb => by
    rw [List.mapM_cons] at h
    cases h1 : g a with
    | none => first | (rw [h1] at h; exact zAA h) | simp [h1] at h
    | some x =>
      cases h2 : l.mapM g with
      | none => first | (rw [h1, h2] at h; exact zAA h) | (rw [h1, Option.bind_some, h2] at h; exact zAA h) | simp [h1, h2] at h
      | some xs =>
        simp [h1, h2] at h
        subst h
        rcases List.mem_cons.mp hb with rfl | hb
        · exact ⟨a, List.mem_cons_self, h1⟩
        · obtain ⟨a', h3, h4⟩ := mapM_mem h2 hb
          exact ⟨a', List.mem_cons_of_mem _ h3, h4⟩
theorem zEY {β : Type} {k : Nat} {y : β} : ∀ {l : List (Nat × β)}, l.lookup k = some y → (k, y) ∈ l
  | (k', y') :: l, h => by
    rw [List.lookup_cons] at h
    split at h
    · rename_i e; cases h; rw [eq_of_beq e]; exact List.mem_cons_self
    · exact List.mem_cons_of_mem _ (zEY h)
noncomputable def refOf : Option Value → Addr
  | some (.ref a) => a
  | _ => 0
noncomputable def fnAddr (C : Ctx) (mg mN : Str → Option Value) (k : Nat) : Addr := match C.fns.find? (fun p => p.2 == k) with
  | some p => refOf (mg p.1)
  | none => (match C.meths.find? (fun p => p.2 == k) with
    | some p => refOf (mN p.1)
    | none => 0)
theorem zEk {β : Type} : ∀ {ps : List Str} {vs : List β} {n : Str}, n ∈ ps → vs.length = ps.length → ∃ v, (ps.zip vs).lookup n = some v
  | p :: ps, [], n, _, h => by simp at h
  | p :: ps, v :: vs, n, hn, h => by
    rw [List.zip_cons_cons, List.lookup_cons]
    split
    · exact ⟨v, rfl⟩
    · rename_i e
      rcases List.mem_cons.mp hn with rfl | hn
      · simp at e
      · exact zEk hn (by simpa using h)
theorem zip_back {β : Type} : ∀ {ps : List Str} {vs : List β}, ps.Nodup → vs.length = ps.length → (ps.filterMap fun n => ((ps.zip vs).lookup n).map (n, ·)) = ps.zip vs
  | [], vs, _, _ => by simp
  | p :: ps, [], _, h => by simp at h
  | p :: ps, v :: vs, hn, h => by
    have hn' := List.nodup_cons.mp hn
    rw [List.zip_cons_cons, List.filterMap_cons]
    simp only [List.lookup_cons, beq_self_eq_true, Option.map_some]
    have key : ∀ l : List Str, (∀ n ∈ l, n ≠ p) → (l.filterMap fun n => (match n == p with | true => some v | false => (ps.zip vs).lookup n).map (n, ·)) = l.filterMap fun n => ((ps.zip vs).lookup n).map (n, ·) := by
      intro l hl
      induction l with
      | nil => rfl
      | cons n l ih =>
        have hne : (n == p) = false := by simpa using hl n List.mem_cons_self
        rw [List.filterMap_cons, List.filterMap_cons, ih fun n hm => hl n (List.mem_cons_of_mem _ hm), hne]
    exact congrArg _ ((key ps fun n hm e => hn'.1 (e ▸ hm)).trans (zip_back hn'.2 (by simpa using h)))
noncomputable def noDf (n : Nat) : List Value := List.drop (([] : List Value).length - n) []
theorem noDf_eq (n : Nat) : noDf n = [] := List.drop_nil
theorem bind_by {fd : FuncData} {as : List Arg} {ps : List Str} {vals : List Value} (hp : fd.params = ⟨[], as, none, [], [], none, []⟩) (h1 : fd.defaults = .none) (h2 : fd.kwdefaults = .none) (hps : as.map (·.arg) = ps) (hgt : ¬ ((decide (vals.length > ps.length) && true) = true))
    (hm : ¬ ((!(List.filter (fun n => ((ps.zip vals).lookup n).isNone) (List.take (ps.length - (noDf ps.length).length) ps)).isEmpty) = true))
    (hz : (ps.drop (ps.length - (noDf ps.length).length)).zip (noDf ps.length) = []) {r : List (Str × Value)} (hr : (ps ++ []).filterMap (fun n => ((ps.zip vals).lookup n).map (n, ·)) = r) :
    bindArgs fd ⟨vals, []⟩ = pure r := by
  cases hps
  cases fd
  cases hp
  cases h1
  cases h2
  refine (if_neg hgt).trans ((if_neg hm).trans ?_)
  exact Eq.trans (congrArg (fun l => (forIn l _ _ : Sem _) >>= _) hz) (congrArg (fun x => (pure x : Sem (List (Str × Value)))) hr)
theorem bind_all {fd : FuncData} {as : List Arg} (hp : fd.params = ⟨[], as, none, [], [], none, []⟩) (h1 : fd.defaults = .none) (h2 : fd.kwdefaults = .none) (hn : (as.map (·.arg)).Nodup) (vals : List Value) (hl : vals.length = (as.map (·.arg)).length) :
    bindArgs fd ⟨vals, []⟩ = pure ((as.map (·.arg)).zip vals) := by
  refine bind_by hp h1 h2 rfl (by rw [hl, Bool.and_true, decide_eq_true_iff]; exact Nat.lt_irrefl _) ?_ (by rw [noDf_eq]; exact List.zip_nil_right) (by rw [List.append_nil]; exact zip_back hn hl)
  rw [noDf_eq, List.length_nil, Nat.sub_zero, List.take_length]
  have : ((as.map (·.arg)).filter fun n => (((as.map (·.arg)).zip vals).lookup n).isNone) = [] := by
    rw [List.filter_eq_nil_iff]
    intro n hm
    obtain ⟨v, e⟩ := zEk hm hl
    rw [e]; exact Bool.false_ne_true
  rw [this]; exact Bool.false_ne_true
noncomputable def fnsOk (C : Ctx) (ds : List DefRec) : Bool := C.fns.all fun q => C.fns.find? (fun r => r.2 == q.2) == some q && ds.any (fun d => d.name == q.1)
noncomputable def methsOk (C : Ctx) (ms : List MethRec) : Bool := C.meths.all fun q => C.fns.find? (fun r => r.2 == q.2) == none && C.meths.find? (fun r => r.2 == q.2) == some q && ms.any (fun d => d.name == q.1)
theorem plainArgs_eq {a : Arguments} (h : plainArgs a = true) : a = ⟨[], a.args, none, [], [], none, []⟩ := by
  obtain ⟨a1, a2, a3, a4, a5, a6, a7⟩ := a
  unfold plainArgs at h
  simp only [Bool.and_eq_true, List.isEmpty_iff, Option.isNone_iff_eq_none] at h
  obtain ⟨⟨⟨⟨⟨rfl, rfl⟩, rfl⟩, rfl⟩, rfl⟩, rfl⟩ := h
  rfl
theorem by_name {α : Type} (nm : α → Str) {d d' : α} (hn : nm d' = nm d) : ∀ l : List α, (l.map nm).Nodup → d' ∈ l → d ∈ l → d' = d := by
  intro l
  induction l with
  | nil => intro _ h; cases h
  | cons x l ih =>
    intro hnd h1 h2
    have hnd' := List.nodup_cons.mp hnd
    rcases List.mem_cons.mp h1 with rfl | h1' <;> rcases List.mem_cons.mp h2 with rfl | h2'
    · rfl
    · exact (hnd'.1 (by rw [hn]; exact List.mem_map_of_mem (f := nm) h2')).elim
    · exact (hnd'.1 (by rw [← hn]; exact List.mem_map_of_mem (f := nm) h1')).elim
    · exact ih hnd'.2 h1' h2'
section
variable {p : Program} {loose : List Str} {mean : ExcName → Option Value} {mg mb mN : Str → Option Value} {S : Stat} {C : Ctx} {tab tF tM : List (Nat × Fn)} {c : ClsRec} {Cb N : Addr}
theorem fnAt_rec {k : Nat} {fn : Fn} {o : Obj} {fd : FuncData} {params : Arguments} {body : List Stmt} {scope : Scope} (hr : recFn C params body scope = some fn) (e2 : S.hb.get? (S.fn k) = some o) (e3 : o.data = .func fd)
    (h1 : fd.params = params) (h2 : fd.body = .stmts body) (h3 : fd.scope = scope) (h4 : fd.closure = []) (h5 : fd.globals = mainGlobals) (h6 : fd.builtins = builtinsNs) (h7 : fd.defaults = .none) (h8 : fd.kwdefaults = .none) (e4 : S.hb.CodeRec fd.code fd.qualname) : FnAt S C k fn := by
  subst h1 h3
  unfold recFn at hr
  by_cases hc : recOkB fd.params fd.scope = true
  case neg => rw [if_neg hc] at hr; first | exact zAA hr | exact ff_tt hr | cases hr
  rw [if_pos hc] at hr
  cases hr
  unfold recOkB at hc
  simp only [Bool.and_eq_true, Bool.not_eq_true', beq_iff_eq, decide_eq_true_eq] at hc
  obtain ⟨⟨⟨⟨⟨⟨⟨c0, c1⟩, c2⟩, c3⟩, c4⟩, c5⟩, c6⟩, c7⟩ := hc
  refine ⟨o, fd, body, fd.params.args.map (·.arg), e2, e3, h2, h4, h5, h6, e4, c1, c2, c3, fun vals hv => bind_all (plainArgs_eq c0) h7 h8 c4 vals hv, c4, fun q hq => ?_, fun q hq => ?_, c7, rfl, rfl, rfl⟩
  · have := List.all_eq_true.mp c5 q hq
    exact (Bool.or_eq_true_iff.mp this).imp eq_of_beq eq_of_beq
  · intro e
    have := List.any_eq_false.mp c6 q hq
    rw [e] at this
    exact this rfl
theorem fn_at (T : Top p loose mean mg mb S.hb) (hf : fnsOk C (recsOf p) = true) (hS : S.fn = fnAddr C mg mN) {x : Str} {k : Nat} (h : C.fns.lookup x = some k) :
    ∃ d ∈ recsOf p, d.name = x ∧ ∃ o pm code doc, mg x = some (.ref (S.fn k)) ∧ S.hb.get? (S.fn k) = some o ∧ o.data = .func (Calls.docDef d.name d.params d.body d.scope pm code doc) ∧ S.hb.CodeRec code d.name := by
  have hm := zAJ h
  have := List.all_eq_true.mp hf _ hm
  simp only [Bool.and_eq_true, beq_iff_eq] at this
  obtain ⟨h1, h2⟩ := this
  obtain ⟨d, hd, hn⟩ := List.any_eq_true.mp h2
  obtain rfl := eq_of_beq hn
  obtain ⟨a, o, pm, code, doc, e1, e2, e3, e4⟩ := T.fn d hd
  have ha : S.fn k = a := by rw [hS, fnAddr, h1]; simp only [e1, refOf]
  rw [ha]
  exact ⟨d, hd, rfl, o, pm, code, doc, e1, e2, e3, e4⟩
theorem fnAt_of (T : Top p loose mean mg mb S.hb) (hf : fnsOk C (recsOf p) = true) (hS : S.fn = fnAddr C mg mN) (hone : ((recsOf p).map (·.name)).Nodup) (htab : tabF C (recsOf p) = some tF) : ∀ k fn, (k, fn) ∈ tF → FnAt S C k fn := by
  intro k fn hk
  obtain ⟨d, hd, e⟩ := mapM_mem htab hk
  simp only [Option.bind_eq_some_iff, Option.map_eq_some_iff] at e
  obtain ⟨k', hl, f, hr, e⟩ := e
  cases e
  obtain ⟨d', hd', hn, o, pm, code, doc, -, e2, e3, e4⟩ := fn_at T hf hS hl
  obtain rfl := by_name (·.name) hn _ hone hd' hd
  exact fnAt_rec hr e2 e3 rfl rfl rfl rfl rfl rfl rfl rfl e4
theorem meth_at (P : PlainAt S.hb c Cb N mN) (hf : methsOk C c.meths = true) (hS : S.fn = fnAddr C mg mN) {x : Str} {k : Nat} (h : C.meths.lookup x = some k) :
    ∃ d ∈ c.meths, d.name = x ∧ ∃ o pm code doc, mN x = some (.ref (S.fn k)) ∧ S.hb.get? (S.fn k) = some o ∧ o.cls = .type "function" ∧ o.data = .func (methDef d.name (c.name ++ "." ++ d.name) d.params d.body d.scope pm code doc) ∧ S.hb.CodeRec code (c.name ++ "." ++ d.name) := by
  have hm := zAJ h
  have := List.all_eq_true.mp hf _ hm
  simp only [Bool.and_eq_true, beq_iff_eq] at this
  obtain ⟨⟨h0, h1⟩, h2⟩ := this
  obtain ⟨d, hd, hn⟩ := List.any_eq_true.mp h2
  obtain rfl := eq_of_beq hn
  obtain ⟨a, o, pm, code, doc, e1, e2, ec, e3, e4⟩ := P.meths d hd
  have ha : S.fn k = a := by rw [hS, fnAddr, h0, h1]; simp only [e1, refOf]
  rw [ha]
  exact ⟨d, hd, rfl, o, pm, code, doc, e1, e2, ec, e3, e4⟩
theorem methAt_of (P : PlainAt S.hb c Cb N mN) (hf : methsOk C c.meths = true) (hS : S.fn = fnAddr C mg mN) (hone : (c.meths.map (·.name)).Nodup) (htab : tabM C c.meths = some tM) : ∀ k fn, (k, fn) ∈ tM → FnAt S C k fn := by
  intro k fn hk
  obtain ⟨d, hd, e⟩ := mapM_mem htab hk
  simp only [Option.bind_eq_some_iff, Option.map_eq_some_iff] at e
  obtain ⟨k', hl, f, hr, e⟩ := e
  cases e
  obtain ⟨d', hd', hn, o, pm, code, doc, -, e2, -, e3, e4⟩ := meth_at P hf hS hl
  obtain rfl := by_name (·.name) hn _ hone hd' hd
  exact fnAt_rec hr e2 e3 rfl rfl rfl rfl rfl rfl rfl rfl e4
theorem book_of (P : PlainAt S.hb c Cb N mN) (hC : S.book = Cb) (hf : methsOk C c.meths = true) (hS : S.fn = fnAddr C mg mN) (hi : C.meths.lookup ("__init__" : Str) = some 0) (hq : attrName 0 ∈ c.quiet ∧ attrName 1 ∈ c.quiet) : BookAt S C := by
  subst hC
  obtain ⟨nm, q, bs, sn, sub, col, dd, k0, k1, k2, k3, k5, e⟩ := P.cls.obj
  have q3 : ∀ n ∈ (["__setattr__", "__getattribute__", "__getattr__"] : List Str), mN n = none := fun n hn => P.quiet n (List.mem_append_left _ hn)
  refine ⟨N, mN, nm, q, bs, sn, sub, col, dd, k0, k1, k2, k3, k5, e, P.cls.ns, ⟨q3 _ (by simp), q3 _ (by simp), q3 _ (by simp), P.quiet _ hq.1, P.quiet _ hq.2⟩, ?_, ?_, fun m k h => ?_⟩
  · obtain ⟨_, _, _, _, _, _, _, e1, _⟩ := meth_at P hf hS hi; exact e1
  · obtain ⟨_, _, _, o, _, _, _, _, e2, ec, _⟩ := meth_at P hf hS hi; exact ⟨o, e2, ec⟩
  · obtain ⟨_, _, _, o, _, _, _, e1, e2, ec, _⟩ := meth_at P hf hS h; exact ⟨e1, o, e2, ec⟩
noncomputable def freeOk (p : Program) (loose : List Str) (C : Ctx) : Bool := (b1Names.map (·.1) ++ b2Names.map (·.1) ++ kindNames.map (·.1) ++ [("isinstance" : Str), "range"]).all fun x =>
  (C.fns.lookup x).isSome || (x != ("__name__" : Str) && !(startupNames.contains x || loose.contains x || ((recsOf p).map (·.name)).contains x || ((litsOf p).map (·.1)).contains x || ((clssOf p loose).map (·.name)).contains x))
theorem facts_of (T : Top p loose mean mg mb S.hb) (hf : fnsOk C (recsOf p) = true) (hS : S.fn = fnAddr C mg mN) (hfree : freeOk p loose C = true)
    (hconst : ∀ x v, C.consts.lookup x = some v → ∃ w, mg x = some w ∧ VR S [] [] S.hb v w) (hbook : C.book = true → mg "Book" = some (.ref S.book)) (hB : (C.book = false ∧ C.meths = [] ∧ C.attrs = []) ∨ (C.attrs = attrNames ∧ BookAt S C))
    (hexc : ∀ x c, C.excs.lookup x = some c → (mg x = some (S.cl c)) ∨ (mg x = none ∧ mb x = some (S.cl c))) (hcl : ∀ x c, C.excs.lookup x = some c → c ∈ S.kn ∧ (x ≠ ("ValueError" : Str) → ExcCl S c))
    (hparts : PartsAt S S.hb) (hpn : S.parts ≠ .none) (fa : ∀ k fn, tab.lookup k = some fn → FnAt S C k fn) : Facts S C (fun k => tab.lookup k) := by
  refine ⟨⟨mg, mb, T.g, T.b, hconst, fun x k h => ?_, fun x hx hn => ?_, hbook, hexc⟩, T.nolimit, hB, hcl, hparts, hpn, fun k fn h => ?_⟩
  · obtain ⟨_, _, _, _, _, _, _, e, _⟩ := fn_at T hf hS h
    exact e
  · have hm : x ∈ b1Names.map (·.1) ++ b2Names.map (·.1) ++ kindNames.map (·.1) ++ [("isinstance" : Str), "range"] := by
      simp only [List.mem_append, List.mem_cons, List.not_mem_nil, or_false]
      rcases hx with h | h | h | h | h
      · exact .inl (.inl (.inl h))
      · exact .inl (.inl (.inr h))
      · exact .inl (.inr h)
      · exact .inr (.inl h)
      · exact .inr (.inr h)
    have := List.all_eq_true.mp hfree x hm
    rw [hn] at this
    simp only [Option.isSome_none, Bool.false_or, Bool.and_eq_true, bne_iff_ne, ne_eq, Bool.not_eq_true', Bool.or_eq_false_iff] at this
    obtain ⟨h0, ⟨⟨⟨h1, h2⟩, h3⟩, h4⟩, h5⟩ := this
    have no : ∀ {l : List Str}, l.contains x = false → x ∉ l := fun h hm => by rw [List.contains_iff_mem.mpr hm] at h; cases h
    exact ⟨T.free x (no h1) (no h2) (no h3) (no h4) (no h5), T.builtins x h0⟩
  · obtain ⟨o, fd, _, _, h1, h2, _⟩ := fa k fn h
    exact ⟨o, fd, h1, h2⟩
theorem VR_script {P : Params} {a : Addr} {ns : List Int} (W : Well P S.hb (.ref a) (ofPy (.list (ns.map PyData.int)))) (hl : ns.length ≤ LIM) : VR S [] [] S.hb (.lst (ns.map V.int)) (.ref a) := by
  have key : ∀ {vs : List Value} {l : List Int}, WellAll P S.hb vs (ofPys (l.map PyData.int)) → VRs S [] [] S.hb (l.map V.int) vs := by
    intro vs l
    induction l generalizing vs with
    | nil => intro h; cases h; rw [List.map_nil, VRs]; trivial
    | cons n l ih =>
      intro h
      cases h with
      | cons h1 h2 =>
        cases h1
        rw [List.map_cons, VRs]
        exact ⟨by rw [VR]; exact ⟨_, rfl⟩, ih h2⟩
  cases W with
  | list h1 h2 =>
    rw [VR]
    exact ⟨a, _, _, rfl, ⟨by simp [addrs], by simp⟩, h1, key h2, by simpa using hl⟩
theorem law_call (fs : Facts S C (fun k => tab.lookup k)) (cl : Clean C) (fa : ∀ k fn, tab.lookup k = some fn → FnAt S C k fn) {s₁ : Shared} (hS : S.hb = s₁.heap) {ns : List Int} {a : Addr} {k d : Nat} (hd : d ≤ 100)
    (hv : VR S [] [] S.hb (.lst (ns.map V.int)) (.ref a)) (hres : ∃ σ', callFn (fun k => tab.lookup k) d false k [.lst (ns.map V.int)] [] = .ok (.bool true) σ') :
    codeAny (model S.prog S.w) callerA (.call (.ref (S.fn k)) ⟨[.ref a], []⟩) (fun r s' => r = .ok (.ret (.bool true)) ∧ (∀ b o, s₁.heap.get? b = some o → s'.heap.get? b = some o) ∧ s'.os = s₁.os ∧ s'.gens = s₁.gens) s₁ := by
  obtain ⟨σ', hres⟩ := hres
  have L : Lk S [] [] [] s₁.heap := ⟨fun b o h => hS ▸ h, rfl, .nil, (fun a h => nomatch h), (fun a h => nomatch h), fun i l o h => by simp at h⟩
  have cx : CxC S callerA false d [] s₁.heap := ⟨by show 1 + claimMargin + 2 * d + 2 ≤ 900; simp only [claimMargin]; omega, by show 4 + 5 * d + 200 ≤ 9900; omega, fun _ => rfl, [], rfl, fun _ h => nomatch h⟩
  have := (zDI fs cl fa d false k [.lst (ns.map V.int)] [] [] [] callerA s₁ [.ref a] cx L (by rw [VRs, VRs]; exact ⟨hS ▸ hv, trivial⟩) (by rw [hres]; simp)).2
  refine codeAny_mono this fun r s' h => ?_
  match r, h with
  | .ok (.ret v), h =>
    obtain ⟨b, σ'', g, e, hg, kp, L', p⟩ := h
    rw [hres] at e
    cases e
    have hv : v = .bool true := by have : VR _ _ _ _ _ _ := p; rwa [VR] at this
    refine ⟨by rw [hv], fun b o h => L'.base b o (hS ▸ h), ?_, ?_⟩
    · rw [kp.rest]
    · rw [kp.rest]
  | .error e, h =>
    obtain ⟨c, σ'', g, ea, e1, e2, hgE, kE, LE, xE⟩ := h
    rw [hres] at e2
    cases e2
end
theorem law_raises (l : OpenLaw) (args : List WData) (cls : ExcName) : l.row.claim.raises args cls = false := rfl
theorem law_post (l : OpenLaw) (args : List WData) : l.row.claim.post args (.bool true) args = true :=
  postW_of (X := true) (by rfl) (by wtm_val) rfl
theorem law_good (l : OpenLaw) {args : List WData} {c : Str → Option Addr} {mean : ExcName → Option Value} {s₁ s' : Shared} (hk : ∀ b o, s₁.heap.get? b = some o → s'.heap.get? b = some o) (hos : s'.os = s₁.os) (hg : s₁.gens = #[]) (hgs : s'.gens = s₁.gens) :
    GoodWG l.row.claim c mean args s₁ (.ok (.ret (.bool true))) s' :=
  ⟨.inl ⟨_, .bool true, [], rfl, law_raises l args, .bool true, law_post l args, fun _ => ⟨.nil, fun _ h => nomatch h⟩⟩, .of_keep hk, hos, fun y hy => by rw [hgs, hg] at hy; simp at hy⟩
end Mine
end

/-! # Plain2 -/
section
set_option autoImplicit false
namespace Mine
open PySem
section
variable {F Fq : Calls} {q : Bool} {ρ ρ' : List V} {σ σ' σ₁ σ₂ σ₃ : Sto} {rest A B : List CS} {r : R Fl} {v x y z : V} {c e a b : CE} {i : Nat}
@[simp] theorem fnEnd_ret (v : V) : fnEnd (.ret v) σ = .ok v σ := rfl
@[simp] theorem fnEnd_next : fnEnd (.next ρ) σ = .ok .none σ := rfl
noncomputable def thenL (F Fq : Calls) (q : Bool) (ss : List CS) (fl : Fl) (σ : Sto) : R Fl :=
  match fl with
  | .next ρ => exL F Fq q ss ρ σ
  | .ret v => .ok (.ret v) σ
theorem zAt (s : CS) : exL F Fq q (s :: rest) ρ σ = (exS F Fq q s ρ σ).bind (thenL F Fq q rest) := by
  rw [x_lcons]
  cases exS F Fq q s ρ σ with
  | ok fl σ => cases fl <;> rfl
  | _ => rfl
theorem zDF : ∀ (A rest : List CS) (ρ : List V) (σ : Sto), exL F Fq q (A ++ rest) ρ σ = (exL F Fq q A ρ σ).bind (thenL F Fq q rest)
  | [], _, _, _ => rfl
  | s :: A, rest, ρ, σ => by
    rw [List.cons_append, zAt, zAt]
    cases exS F Fq q s ρ σ with
    | ok fl σ =>
      cases fl with
      | next ρ => exact zDF A rest ρ σ
      | ret v => rfl
    | _ => rfl
theorem s_asg (h : evE F q e ρ σ = .ok v σ') (k : exL F Fq q rest (ρ.set i v) σ' = r) : exL F Fq q (.asg i e :: rest) ρ σ = r := by
  rw [zAt, x_asg, h]; exact k
theorem s_exp (h : evE F q e ρ σ = .ok v σ') (k : exL F Fq q rest ρ σ' = r) : exL F Fq q (.exp e :: rest) ρ σ = r := by
  rw [zAt, x_exp, h]; exact k
theorem s_expX {c : Cls} (h : evE F q e ρ σ = .exc c σ') : exL F Fq q (.exp e :: rest) ρ σ = .exc c σ' := by
  rw [zAt, x_exp, h]; rfl
theorem s_ret (h : evE F q e ρ σ = .ok v σ') : exL F Fq q (.ret e :: rest) ρ σ = .ok (.ret v) σ' := by
  rw [zAt, x_ret, h]; rfl
theorem s_t (h : evC F q (some c) ρ σ = .ok true σ') (k : exL F Fq q (A ++ rest) ρ σ' = r) : exL F Fq q (.ite c A B :: rest) ρ σ = r := by
  rw [zDF] at k
  rw [zAt, x_ite]
  rw [x_csome] at h
  cases hc : evE F q c ρ σ with
  | ok v σ₁ =>
    rw [hc, R.bind_ok] at h
    rw [R.bind_ok]
    cases ht : truthy σ₁ v with
    | none => rw [ht] at h; cases h
    | some t => rw [ht] at h; cases h; exact k
  | exc _ _ => rw [hc] at h; cases h
  | stuck => rw [hc] at h; cases h
theorem s_f (h : evC F q (some c) ρ σ = .ok false σ') (k : exL F Fq q (B ++ rest) ρ σ' = r) : exL F Fq q (.ite c A B :: rest) ρ σ = r := by
  rw [zDF] at k
  rw [zAt, x_ite]
  rw [x_csome] at h
  cases hc : evE F q c ρ σ with
  | ok v σ₁ =>
    rw [hc, R.bind_ok] at h
    rw [R.bind_ok]
    cases ht : truthy σ₁ v with
    | none => rw [ht] at h; cases h
    | some t => rw [ht] at h; cases h; exact k
  | exc _ _ => rw [hc] at h; cases h
  | stuck => rw [hc] at h; cases h
theorem s_nil : exL F Fq q [] ρ σ = .ok (.next ρ) σ := rfl
theorem zBC {o i v : CE} {a b x : V} (hv : evE F q v ρ σ = .ok x σ₁) (ho : evE F q o ρ σ₁ = .ok a σ₂) (hi : evE F q i ρ σ₂ = .ok b σ₃) (h : doSetItem σ₃ a b x = .ok () σ') (k : exL F Fq q rest ρ σ' = r) : exL F Fq q (.setItem o i v :: rest) ρ σ = r := by
  rw [zAt, x_setItem, hv, R.bind_ok, ho, R.bind_ok, hi, R.bind_ok, h]; exact k
theorem t_of {t : Bool} (h : evE F q c ρ σ = .ok v σ') (ht : truthy σ' v = some t) : evC F q (some c) ρ σ = .ok t σ' := by
  rw [x_csome, h, R.bind_ok, ht]; rfl
theorem zAC {t : Bool} (h : evE F q c ρ σ = .ok (.bool t) σ') : evC F q (some c) ρ σ = .ok t σ' := t_of h rfl
theorem e_p1 {o : P1} (ha : evE F q a ρ σ = .ok x σ₁) (h : ev1 o σ₁ x = some z) (hl : (loud1 o && q) = false := by rfl) : evE F q (.p1 o a) ρ σ = .ok z σ₁ := by
  rw [x_p1, hl, ha, R.bind_ok, h]; rfl
theorem e_p2 {o : P2} (ha : evE F q a ρ σ = .ok x σ₁) (hb : evE F q b ρ σ₁ = .ok y σ₂) (h : ev2 o σ₂ x y = some z) (hl : (loud2 o && q) = false := by rfl) : evE F q (.p2 o a b) ρ σ = .ok z σ₂ := by
  rw [x_p2, hl, ha, R.bind_ok, hb, R.bind_ok, h]; rfl
theorem zAr (ha : evE F q a ρ σ = .ok x σ₁) (ht : truthy σ₁ x = some false) : evE F q (.and a b) ρ σ = .ok x σ₁ := by
  rw [x_and, ha, R.bind_ok, ht]; rfl
theorem zAk {r : R V} (ha : evE F q a ρ σ = .ok x σ₁) (ht : truthy σ₁ x = some true) (hb : evE F q b ρ σ₁ = r) : evE F q (.and a b) ρ σ = r := by
  rw [x_and, ha, R.bind_ok, ht]; exact hb
theorem e_or_t (ha : evE F q a ρ σ = .ok x σ₁) (ht : truthy σ₁ x = some true) : evE F q (.or a b) ρ σ = .ok x σ₁ := by
  rw [x_or, ha, R.bind_ok, ht]; rfl
theorem zAW {r : R V} (ha : evE F q a ρ σ = .ok x σ₁) (ht : truthy σ₁ x = some false) (hb : evE F q b ρ σ₁ = r) : evE F q (.or a b) ρ σ = r := by
  rw [x_or, ha, R.bind_ok, ht]; exact hb
theorem zAG {f : Nat} {args : List CE} {vs : List V} {r : R V} (ha : evL F q args ρ σ = .ok vs σ₁) (h : F f vs σ₁ = r) : evE F q (.call f args) ρ σ = r := by
  rw [x_call, ha]; exact h
theorem zAL {f : Nat} {args : List CE} {vs : List V} {r : R V} (ho : evE F q a ρ σ = .ok x σ₁) (hi : isInst σ₁ x = true) (ha : evL F q args ρ σ₁ = .ok vs σ₂) (h : F f (x :: vs) σ₂ = r) : evE F q (.callm f a args) ρ σ = r := by
  rw [x_callm, ho, R.bind_ok, if_pos hi, ha]; exact h
theorem zAB {es : List CE} {vs : List V} (h : evE F q e ρ σ = .ok v σ₁) (hs : evL F q es ρ σ₁ = .ok vs σ₂) : evL F q (e :: es) ρ σ = .ok (v :: vs) σ₂ := by
  rw [x_cons, h, R.bind_ok, hs]; rfl
theorem e_tup {es : List CE} {vs : List V} (h : evL F q es ρ σ = .ok vs σ₁) : evE F q (.tup es) ρ σ = .ok (.tup vs) σ₁ := by rw [x_tup, h]; rfl
theorem e_list {es : List CE} {vs : List V} (h : evL F q es ρ σ = .ok vs σ₁) : evE F q (.list es) ρ σ = .ok (.lst vs) σ₁ := by rw [x_list, h]; rfl
theorem e_attr {k : Nat} (h : evE F q a ρ σ = .ok x σ₁) (hv : doAttr σ₁ x k = some v) : evE F q (.attr a k) ρ σ = .ok v σ₁ := by
  rw [x_attr, h, R.bind_ok, hv]; rfl
theorem zAj (hl : evE F q a ρ σ = .ok x σ₁) (hi : isListV σ₁ x = true) (hx : evE F q b ρ σ₁ = .ok y σ₂) (h : doAppend σ₂ x y = .ok v σ') : evE F q (.append a b) ρ σ = .ok v σ' := by
  rw [x_append, hl, R.bind_ok, if_pos hi, hx]; exact h
end
section
variable {T : Nat → Option Fn} {d k : Nat} {q : Bool} {fn : Fn} {args : List V} {σ σ' : Sto}
theorem zAV {c : Cls} (h : T k = some fn) (hl : args.length = fn.params) (hx : exL (callFn T d q) (callFn T d true) q fn.body (args ++ List.replicate (fn.slots - fn.params) .undef) σ = .exc c σ') : callFn T (d + 1) q k args σ = .exc c σ' := by
  rw [zCA, h]; simp only [hl, if_true, hx]; rfl
theorem zBN {ρ : List V} (h : T k = some fn) (hl : args.length = fn.params) (hx : exL (callFn T d q) (callFn T d true) q fn.body (args ++ List.replicate (fn.slots - fn.params) .undef) σ = .ok (.next ρ) σ') : callFn T (d + 1) q k args σ = .ok .none σ' := by
  rw [zCA, h]; simp only [hl, if_true, hx]; rfl
end
end Mine
end

/-! # PB -/
section
set_option autoImplicit false
namespace Mine
open PySem
noncomputable def tr (t : Bool) (e : CE) : CE := match t with
  | true => .trk e
  | false => e
noncomputable def fB_20 : Fn := { params := 3, slots := 3, body := [CS.ret (CE.p2 P2.fdiv (CE.p2 P2.mul (CE.var 0) (CE.var 1)) (CE.var 2))] }
noncomputable def fB_21 : Fn := { params := 1, slots := 1, body := [CS.ite (CE.or (CE.p1 P1.not (CE.p1 (P1.isInst Kd.str) (CE.var 0))) (CE.p1 P1.not (CE.chain (CE.lit (V.int 1)) [P2.le, P2.le] [CE.p1 P1.len (CE.var 0),CE.lit (V.int 12)]))) [CS.ret (CE.lit (V.bool false))] [],CS.ret (CE.p1 P1.all (CE.comp (CE.p2 P2.isIn (CE.var 1) (CE.lit (V.str { cps := #[97,98,99,100,101,102,103,104,105,106,107,108,109,110,111,112,113,114,115,116,117,118,119,120,121,122] }))) SK.val [CE.var 0] none))] }
noncomputable def fB_22 : Fn := { params := 1, slots := 2, body := [CS.ite (CE.p1 P1.not (CE.chain (CE.lit (V.int 1)) [P2.le, P2.le] [CE.p1 P1.len (CE.var 0),CE.lit (V.int 20)])) [CS.raise (Cls.NoLines)] [],CS.for 1 SK.val [CE.var 0] [CS.ite (CE.p1 P1.not (CE.call 21 [CE.p2 P2.index (CE.var 1) (CE.lit (V.int 0))])) [CS.raise (Cls.NoItem)] [],CS.ite (CE.or (CE.p1 P1.not (CE.chain (CE.lit (V.int 1)) [P2.le, P2.le] [CE.p2 P2.index (CE.var 1) (CE.lit (V.int 1)),CE.lit (V.int 1000000)])) (CE.or (CE.p1 P1.not (CE.chain (CE.lit (V.int 0)) [P2.le, P2.le] [CE.p2 P2.index (CE.var 1) (CE.lit (V.int 2)),CE.lit (V.int 1000000000)])) (CE.p1 P1.not (CE.chain (CE.lit (V.int 1)) [P2.le, P2.le] [CE.p2 P2.index (CE.var 1) (CE.lit (V.int 3)),CE.lit (V.int 1000)])))) [CS.raise (Cls.NoNumber)] []]] }
noncomputable def fB_23 : Fn := { params := 1, slots := 1, body := [CS.ret (CE.tup [CE.p2 P2.index (CE.var 0) (CE.lit (V.int 0)),CE.p2 P2.index (CE.var 0) (CE.lit (V.int 1)),CE.p2 P2.index (CE.var 0) (CE.lit (V.int 2)),CE.p2 P2.index (CE.var 0) (CE.lit (V.int 3)),CE.lit (V.int 0),CE.lit (V.int 0),CE.lit (V.int 0),CE.lit (V.int 0)])] }
noncomputable def fB_24 : Fn := { params := 1, slots := 1, body := [CS.ret (CE.p2 P2.sub (CE.call 20 [CE.p2 P2.sub (CE.p2 P2.index (CE.var 0) (CE.lit (V.int 4))) (CE.p2 P2.index (CE.var 0) (CE.lit (V.int 5))),CE.p2 P2.index (CE.var 0) (CE.lit (V.int 2)),CE.p2 P2.index (CE.var 0) (CE.lit (V.int 3))]) (CE.p2 P2.index (CE.var 0) (CE.lit (V.int 7))))] }
noncomputable def fB_25 : Fn := { params := 2, slots := 2, body := [CS.ite (CE.p2 P2.eq (CE.var 0) (CE.lit (V.str { cps := #[100,101,108,105,118,101,114] }))) [CS.ret (CE.p2 P2.add (CE.p2 P2.sub (CE.p2 P2.index (CE.var 1) (CE.lit (V.int 1))) (CE.p2 P2.index (CE.var 1) (CE.lit (V.int 4)))) (CE.p2 P2.index (CE.var 1) (CE.lit (V.int 6))))] [],CS.ite (CE.p2 P2.eq (CE.var 0) (CE.lit (V.str { cps := #[99,114,101,100,105,116] }))) [CS.ret (CE.call 24 [CE.var 1])] [],CS.ret (CE.p2 P2.sub (CE.p2 P2.index (CE.var 1) (CE.lit (V.int 4))) (CE.p2 P2.index (CE.var 1) (CE.lit (V.int 5))))] }
noncomputable def fB_26 : Fn := { params := 3, slots := 7, body := [CS.asg 3 (CE.p2 P2.index (CE.var 1) (CE.lit (V.int 4))),CS.asg 4 (CE.p2 P2.index (CE.var 1) (CE.lit (V.int 5))),CS.asg 5 (CE.p2 P2.index (CE.var 1) (CE.lit (V.int 6))),CS.asg 6 (CE.p2 P2.index (CE.var 1) (CE.lit (V.int 7))),CS.ite (CE.p2 P2.eq (CE.var 0) (CE.lit (V.str { cps := #[100,101,108,105,118,101,114] }))) [CS.asg 3 (CE.p2 P2.add (CE.var 3) (CE.var 2))] [CS.ite (CE.p2 P2.eq (CE.var 0) (CE.lit (V.str { cps := #[99,114,101,100,105,116] }))) [CS.asg 6 (CE.p2 P2.add (CE.var 6) (CE.var 2))] [CS.asg 4 (CE.p2 P2.add (CE.var 4) (CE.var 2)),CS.ite (CE.p2 P2.eq (CE.var 0) (CE.lit (V.str { cps := #[115,119,97,112] }))) [CS.asg 5 (CE.p2 P2.add (CE.var 5) (CE.var 2))] [],CS.asg 6 (CE.p2 P2.min (CE.var 6) (CE.call 20 [CE.p2 P2.sub (CE.var 3) (CE.var 4),CE.p2 P2.index (CE.var 1) (CE.lit (V.int 2)),CE.p2 P2.index (CE.var 1) (CE.lit (V.int 3))]))]],CS.ret (CE.p2 P2.add (CE.slice (CE.var 1) none (some (CE.lit (V.int 4)))) (CE.tup [CE.var 3,CE.var 4,CE.var 5,CE.var 6]))] }
noncomputable def fB_0 : Fn := { params := 1, slots := 1, body := [CS.setAttr (CE.var 0) 0 (CE.trk (CE.list [])),CS.setAttr (CE.var 0) 1 (CE.trk (CE.list []))] }
noncomputable def fB_1 : Fn := { params := 2, slots := 2, body := [CS.ite (CE.p1 P1.not (CE.chain (CE.lit (V.int 0)) [P2.le, P2.lt] [CE.var 1,CE.p1 P1.len (CE.attr (CE.var 0) 0)])) [CS.raise (Cls.NoOrder)] []] }
noncomputable def fB_2 : Fn := { params := 2, slots := 2, body := [CS.ite (CE.or (CE.p2 P2.eq (CE.p1 P1.len (CE.var 1)) (CE.lit (V.int 0))) (CE.or (CE.p2 P2.notIn (CE.p2 P2.index (CE.var 1) (CE.lit (V.int 0))) (CE.lit (V.parts))) (CE.p2 P2.ne (CE.p1 P1.len (CE.var 1)) (CE.p2 P2.index (CE.lit (V.parts)) (CE.p2 P2.index (CE.var 1) (CE.lit (V.int 0))))))) [CS.raise (Cls.NoDeed)] [],CS.ite (CE.p2 P2.eq (CE.p2 P2.index (CE.var 1) (CE.lit (V.int 0))) (CE.lit (V.str { cps := #[111,114,100,101,114] }))) [CS.ret (CE.callm 3 (CE.var 0) [CE.p2 P2.index (CE.var 1) (CE.lit (V.int 1))])] [],CS.exp (CE.callm 4 (CE.var 0) [CE.var 1]),CS.ret (CE.callm 6 (CE.var 0) [CE.var 1])] }
noncomputable def fB_3 (t : Bool) : Fn := { params := 2, slots := 2, body := [CS.exp (CE.call 22 [CE.var 1]),CS.ite (CE.p2 P2.ge (CE.p1 P1.len (CE.attr (CE.var 0) 0)) (CE.lit (V.int 40))) [CS.raise (Cls.FullBook)] [],CS.exp (CE.append (CE.attr (CE.var 0) 0) (CE.tup [CE.p1 P1.toTup (CE.comp (CE.call 23 [CE.var 2]) SK.val [CE.var 1] none),CE.lit (V.int 0),CE.tup []])),CS.exp (CE.append (CE.attr (CE.var 0) 1) (CE.tup [CE.tup [CE.lit (V.str { cps := #[111,114,100,101,114] }),CE.p1 P1.toList (CE.var 1)],CE.dict0])),CS.ret (tr t (CE.list []))] }
noncomputable def fB_4 : Fn := { params := 2, slots := 2, body := [CS.exp (CE.callm 1 (CE.var 0) [CE.p2 P2.index (CE.var 1) (CE.lit (V.int 1))]),CS.ite (CE.p2 P2.eq (CE.p2 P2.index (CE.var 1) (CE.lit (V.int 0))) (CE.lit (V.str { cps := #[109,111,118,101] }))) [CS.exp (CE.callm 1 (CE.var 0) [CE.p2 P2.index (CE.var 1) (CE.lit (V.int 2))]),CS.ite (CE.p2 P2.eq (CE.p2 P2.index (CE.var 1) (CE.lit (V.int 1))) (CE.p2 P2.index (CE.var 1) (CE.lit (V.int 2)))) [CS.raise (Cls.SameOrder)] []] [],CS.ite (CE.and (CE.p2 P2.isIn (CE.p2 P2.index (CE.var 1) (CE.lit (V.int 0))) (CE.lit (V.tup [V.str { cps := #[100,101,108,105,118,101,114] }, V.str { cps := #[98,97,99,107] }, V.str { cps := #[115,119,97,112] }, V.str { cps := #[99,114,101,100,105,116] }]))) (CE.p1 P1.not (CE.chain (CE.lit (V.int 0)) [P2.le, P2.lt] [CE.p2 P2.index (CE.var 1) (CE.lit (V.int 2)),CE.p1 P1.len (CE.p2 P2.index (CE.p2 P2.index (CE.attr (CE.var 0) 0) (CE.p2 P2.index (CE.var 1) (CE.lit (V.int 1)))) (CE.lit (V.int 0)))]))) [CS.raise (Cls.NoLine)] [],CS.ite (CE.p2 P2.lt (CE.p2 P2.index (CE.var 1) (CE.p1 P1.neg (CE.lit (V.int 1)))) (CE.lit (V.int 1))) [CS.raise (Cls.NoNumber)] [],CS.ite (CE.and (CE.p2 P2.ne (CE.p2 P2.index (CE.var 1) (CE.lit (V.int 0))) (CE.lit (V.str { cps := #[112,97,121] }))) (CE.p2 P2.gt (CE.p2 P2.index (CE.var 1) (CE.p1 P1.neg (CE.lit (V.int 1)))) (CE.callm 5 (CE.var 0) [CE.var 1]))) [CS.raise (Cls.TooMuch)] []] }
noncomputable def fB_5 : Fn := { params := 2, slots := 2, body := [CS.ite (CE.p2 P2.isIn (CE.p2 P2.index (CE.var 1) (CE.lit (V.int 0))) (CE.lit (V.tup [V.str { cps := #[100,101,108,105,118,101,114] }, V.str { cps := #[98,97,99,107] }, V.str { cps := #[115,119,97,112] }, V.str { cps := #[99,114,101,100,105,116] }]))) [CS.ret (CE.call 25 [CE.p2 P2.index (CE.var 1) (CE.lit (V.int 0)),CE.p2 P2.index (CE.p2 P2.index (CE.p2 P2.index (CE.attr (CE.var 0) 0) (CE.p2 P2.index (CE.var 1) (CE.lit (V.int 1)))) (CE.lit (V.int 0))) (CE.p2 P2.index (CE.var 1) (CE.lit (V.int 2)))])] [],CS.ret (CE.p2 P2.sub (CE.lit (V.int 0)) (CE.callm 13 (CE.var 0) [CE.p2 P2.index (CE.var 1) (CE.lit (V.int 1))]))] }
noncomputable def fB_6 (t : Bool) : Fn := { params := 2, slots := 5, body := [CS.asg 2 (CE.p2 P2.index (CE.var 1) (CE.lit (V.int 0))),CS.asg 3 (CE.p2 P2.index (CE.var 1) (CE.p1 P1.neg (CE.lit (V.int 1)))),CS.asg 4 (CE.dict1 (CE.p2 P2.index (CE.var 1) (CE.lit (V.int 1))) (CE.p2 P2.index (CE.attr (CE.var 0) 0) (CE.p2 P2.index (CE.var 1) (CE.lit (V.int 1))))),CS.ite (CE.p2 P2.eq (CE.var 2) (CE.lit (V.str { cps := #[109,111,118,101] }))) [CS.setItem (CE.var 4) (CE.p2 P2.index (CE.var 1) (CE.lit (V.int 2))) (CE.p2 P2.index (CE.attr (CE.var 0) 0) (CE.p2 P2.index (CE.var 1) (CE.lit (V.int 2))))] [],CS.exp (CE.append (CE.attr (CE.var 0) 1) (CE.tup [CE.var 1,CE.var 4])),CS.ite (CE.p2 P2.eq (CE.var 2) (CE.lit (V.str { cps := #[109,111,118,101] }))) [CS.ret (tr t (CE.list [CE.callm 7 (CE.var 0) [CE.p2 P2.index (CE.var 1) (CE.lit (V.int 1)),CE.var 2,CE.p2 P2.sub (CE.lit (V.int 0)) (CE.var 3)],CE.callm 7 (CE.var 0) [CE.p2 P2.index (CE.var 1) (CE.lit (V.int 2)),CE.var 2,CE.var 3]]))] [],CS.ite (CE.p2 P2.eq (CE.var 2) (CE.lit (V.str { cps := #[112,97,121] }))) [CS.ret (tr t (CE.list [CE.callm 7 (CE.var 0) [CE.p2 P2.index (CE.var 1) (CE.lit (V.int 1)),CE.var 2,CE.var 3]]))] [],CS.ite (CE.p2 P2.eq (CE.var 2) (CE.lit (V.str { cps := #[114,101,102,117,110,100] }))) [CS.ret (tr t (CE.list [CE.callm 7 (CE.var 0) [CE.p2 P2.index (CE.var 1) (CE.lit (V.int 1)),CE.var 2,CE.p2 P2.sub (CE.lit (V.int 0)) (CE.var 3)]]))] [],CS.ret (tr t (CE.list [CE.callm 8 (CE.var 0) [CE.p2 P2.index (CE.var 1) (CE.lit (V.int 1)),CE.p2 P2.index (CE.var 1) (CE.lit (V.int 2)),CE.var 2,CE.var 3]]))] }
noncomputable def fB_7 : Fn := { params := 4, slots := 5, body := [CS.asg 4 (CE.p2 P2.index (CE.attr (CE.var 0) 0) (CE.var 1)),CS.setItem (CE.attr (CE.var 0) 0) (CE.var 1) (CE.tup [CE.p2 P2.index (CE.var 4) (CE.lit (V.int 0)),CE.p2 P2.add (CE.p2 P2.index (CE.var 4) (CE.lit (V.int 1))) (CE.var 3),CE.p2 P2.add (CE.p2 P2.index (CE.var 4) (CE.lit (V.int 2))) (CE.tup [CE.tup [CE.var 2,CE.p2 P2.sub (CE.lit (V.int 0)) (CE.var 3)]])]),CS.ret (CE.tup [CE.var 1,CE.p2 P2.sub (CE.lit (V.int 0)) (CE.var 3)])] }
noncomputable def fB_8 : Fn := { params := 5, slots := 10, body := [CS.asg 5 (CE.p2 P2.index (CE.attr (CE.var 0) 0) (CE.var 1)),CS.asg 6 (CE.p2 P2.index (CE.p2 P2.index (CE.var 5) (CE.lit (V.int 0))) (CE.var 2)),CS.asg 7 (CE.call 26 [CE.var 3,CE.var 6,CE.var 4]),CS.asg 8 (CE.p2 P2.sub (CE.call 24 [CE.var 7]) (CE.call 24 [CE.var 6])),CS.asg 9 (CE.p2 P2.add (CE.p2 P2.add (CE.slice (CE.p2 P2.index (CE.var 5) (CE.lit (V.int 0))) none (some (CE.var 2))) (CE.tup [CE.var 7])) (CE.slice (CE.p2 P2.index (CE.var 5) (CE.lit (V.int 0))) (some (CE.p2 P2.add (CE.var 2) (CE.lit (V.int 1)))) none)),CS.setItem (CE.attr (CE.var 0) 0) (CE.var 1) (CE.tup [CE.var 9,CE.p2 P2.index (CE.var 5) (CE.lit (V.int 1)),CE.p2 P2.add (CE.p2 P2.index (CE.var 5) (CE.lit (V.int 2))) (CE.tup [CE.tup [CE.var 3,CE.var 8]])]),CS.ret (CE.tup [CE.var 1,CE.var 8])] }
noncomputable def fB_10 : Fn := { params := 1, slots := 1, body := [CS.ret (CE.p1 P1.len (CE.attr (CE.var 0) 0))] }
noncomputable def fB_11 : Fn := { params := 2, slots := 2, body := [CS.exp (CE.callm 1 (CE.var 0) [CE.var 1]),CS.ret (CE.comp (CE.tup [CE.p2 P2.index (CE.var 2) (CE.lit (V.int 0)),CE.p2 P2.index (CE.var 2) (CE.lit (V.int 1)),CE.p2 P2.index (CE.var 2) (CE.lit (V.int 4)),CE.p2 P2.index (CE.var 2) (CE.lit (V.int 5)),CE.p2 P2.index (CE.var 2) (CE.lit (V.int 6)),CE.p2 P2.index (CE.var 2) (CE.lit (V.int 7))]) SK.val [CE.p2 P2.index (CE.p2 P2.index (CE.attr (CE.var 0) 0) (CE.var 1)) (CE.lit (V.int 0))] none)] }
noncomputable def fB_12 : Fn := { params := 2, slots := 2, body := [CS.exp (CE.callm 1 (CE.var 0) [CE.var 1]),CS.ret (CE.p2 P2.index (CE.p2 P2.index (CE.attr (CE.var 0) 0) (CE.var 1)) (CE.lit (V.int 1)))] }
noncomputable def fB_13 : Fn := { params := 2, slots := 2, body := [CS.exp (CE.callm 1 (CE.var 0) [CE.var 1]),CS.ret (CE.p2 P2.sub (CE.p1 P1.sum (CE.comp (CE.call 24 [CE.var 2]) SK.val [CE.p2 P2.index (CE.p2 P2.index (CE.attr (CE.var 0) 0) (CE.var 1)) (CE.lit (V.int 0))] none)) (CE.p2 P2.index (CE.p2 P2.index (CE.attr (CE.var 0) 0) (CE.var 1)) (CE.lit (V.int 1))))] }
noncomputable def fB_14 : Fn := { params := 2, slots := 2, body := [CS.exp (CE.callm 1 (CE.var 0) [CE.var 1]),CS.ret (CE.p1 P1.toList (CE.p2 P2.index (CE.p2 P2.index (CE.attr (CE.var 0) 0) (CE.var 1)) (CE.lit (V.int 2))))] }
structure BookTab (T : Nat → Option Fn) (t : Bool := false) : Prop where
  b0 : T 0 = some fB_0
  b1 : T 1 = some fB_1
  b2 : T 2 = some fB_2
  b3 : T 3 = some (fB_3 t)
  b4 : T 4 = some fB_4
  b5 : T 5 = some fB_5
  b6 : T 6 = some (fB_6 t)
  b7 : T 7 = some fB_7
  b8 : T 8 = some fB_8
  b10 : T 10 = some fB_10
  b12 : T 12 = some fB_12
  b13 : T 13 = some fB_13
  b14 : T 14 = some fB_14
  b20 : T 20 = some fB_20
  b21 : T 21 = some fB_21
  b22 : T 22 = some fB_22
  b23 : T 23 = some fB_23
  b24 : T 24 = some fB_24
  b25 : T 25 = some fB_25
  b26 : T 26 = some fB_26
end Mine
end

/-! # BkA -/
section
set_option autoImplicit false
namespace Mine
open PySem
structure Ln where
  item : Str
  p : Int
  c : Int
  k : Int
  s : Int
  b : Int
  a : Int
  r : Int
noncomputable def Ln.v (l : Ln) : V := .tup [.str l.item, .int l.p, .int l.c, .int l.k, .int l.s, .int l.b, .int l.a, .int l.r]
structure Ln.ok (l : Ln) : Prop where
  p1 : 1 ≤ l.p
  p2 : l.p ≤ 1000000
  c1 : 0 ≤ l.c
  c2 : l.c ≤ 1000000000
  k1 : 1 ≤ l.k
  k2 : l.k ≤ 1000
noncomputable def Ln.worth (l : Ln) : Int := ((l.s - l.b) * l.c).fdiv l.k
noncomputable def Ln.charge (l : Ln) : Int := l.worth - l.r
structure Or where
  lines : List Ln
  paid : Int
  rows : List (Str × Int)
noncomputable def rowV (r : Str × Int) : V := .tup [.str r.1, .int r.2]
noncomputable def Or.v (o : Or) : V := .tup [.tup (o.lines.map Ln.v), .int o.paid, .tup (o.rows.map rowV)]
noncomputable def Or.owed (o : Or) : Int := (o.lines.map Ln.charge).sum - o.paid
noncomputable def sDel : Str := { cps := #[100, 101, 108, 105, 118, 101, 114] }
noncomputable def sBack : Str := { cps := #[98, 97, 99, 107] }
noncomputable def sSwap : Str := { cps := #[115, 119, 97, 112] }
noncomputable def sCred : Str := { cps := #[99, 114, 101, 100, 105, 116] }
noncomputable def sPay : Str := { cps := #[112, 97, 121] }
noncomputable def sRef : Str := { cps := #[114, 101, 102, 117, 110, 100] }
noncomputable def sMove : Str := { cps := #[109, 111, 118, 101] }
noncomputable def sOrd : Str := { cps := #[111, 114, 100, 101, 114] }
inductive Wd where
  | del | back | swap | cred
noncomputable def Wd.s : Wd → Str
  | .del => sDel
  | .back => sBack
  | .swap => sSwap
  | .cred => sCred
noncomputable def mostOf (w : Wd) (l : Ln) : Int :=
  match w with
  | .del => l.p - l.s + l.a
  | .cred => l.charge
  | _ => l.s - l.b
noncomputable def pmin (x y : Int) : Int := if y < x then y else x
noncomputable def behindL (w : Wd) (l : Ln) (n : Int) : Ln :=
  match w with
  | .del => { l with s := l.s + n }
  | .cred => { l with r := l.r + n }
  | .back => { l with b := l.b + n, r := pmin l.r (((l.s - (l.b + n)) * l.c).fdiv l.k) }
  | .swap => { l with b := l.b + n, a := l.a + n, r := pmin l.r (((l.s - (l.b + n)) * l.c).fdiv l.k) }
theorem small_c {l : Ln} (h : l.ok) : smallFactor l.c = true := by
  have h1 := h.c1; have h2 := h.c2
  simp only [smallFactor, decide_eq_true_eq]
  omega
theorem div_ok {k : Int} (h1 : 1 ≤ k) (h2 : k ≤ 1000) : (k == 0 || decide (1073741824 ≤ k.natAbs)) = false := by
  rw [Bool.or_eq_false_iff, beq_eq_false_iff_ne, decide_eq_false_iff_not]
  omega
noncomputable def rv (t : Bool) (σ : Sto) (vs : List V) : V := match t with
  | true => .ref σ.length
  | false => .lst vs
noncomputable def rs (t : Bool) (σ : Sto) (vs : List V) : Sto := match t with
  | true => σ ++ [.list vs]
  | false => σ
theorem e_res {F : Calls} {q : Bool} {ρ : List V} {σ σ₁ : Sto} {t : Bool} {es : List CE} {vs : List V} (h : evL F q es ρ σ = .ok vs σ₁) : evE F q (tr t (.list es)) ρ σ = .ok (rv t σ₁ vs) (rs t σ₁ vs) := by
  cases t with
  | false => exact e_list h
  | true =>
    show evE F q (.trk (.list es)) ρ σ = _
    rw [x_trk, e_list h]; rfl
section
variable {T : Nat → Option Fn} {t : Bool} {d : Nat} {q : Bool} {σ : Sto}
theorem b_worth (HT : BookTab T t) {a c k : Int} (hc : smallFactor c = true) (hk : (k == 0 || decide (1073741824 ≤ k.natAbs)) = false) : callFn T (d + 1) q 20 [.int a, .int c, .int k] σ = .ok (.int ((a * c).fdiv k)) σ :=
  zAD HT.b20 rfl (s_ret (e_p2 (e_p2 rfl rfl (zAh σ a c (.inr hc))) rfl (zBH σ (a * c) k hk)))
theorem zDr (HT : BookTab T t) {l : Ln} (h : l.ok) : callFn T (d + 2) q 24 [l.v] σ = .ok (.int l.charge) σ :=
  zAD HT.b24 rfl (s_ret (e_p2 (zAG (vs := [.int (l.s - l.b), .int l.c, .int l.k]) rfl (b_worth HT (small_c h) (div_ok h.k1 h.k2))) rfl rfl))
theorem b_most_of (HT : BookTab T t) {l : Ln} (h : l.ok) (w : Wd) : callFn T (d + 3) q 25 [.str w.s, l.v] σ = .ok (.int (mostOf w l)) σ := by
  refine zAD HT.b25 rfl ?_
  cases w with
  | del => exact s_t rfl (s_ret rfl)
  | cred => exact s_f rfl (s_t rfl (s_ret (zAG rfl (zDr HT h))))
  | back => exact s_f rfl (s_f rfl (s_ret rfl))
  | swap => exact s_f rfl (s_f rfl (s_ret rfl))
theorem b_behind (HT : BookTab T t) {l : Ln} (h : l.ok) (w : Wd) (n : Int) : callFn T (d + 2) false 26 [.str w.s, l.v, .int n] σ = .ok (behindL w l n).v σ := by
  refine zAD HT.b26 rfl ?_
  refine s_asg (v := .int l.s) rfl (s_asg (v := .int l.b) rfl (s_asg (v := .int l.a) rfl (s_asg (v := .int l.r) rfl ?_)))
  have w20 : ∀ a : Int, callFn T (d + 1) false 20 [.int a, .int l.c, .int l.k] σ = .ok (.int ((a * l.c).fdiv l.k)) σ := fun a => b_worth HT (small_c h) (div_ok h.k1 h.k2)
  cases w with
  | del => exact s_t rfl (s_asg rfl (s_ret rfl))
  | cred => exact s_f rfl (s_t rfl (s_asg rfl (s_ret rfl)))
  | back => exact s_f rfl (s_f rfl (s_asg (v := .int (l.b + n)) rfl (s_f rfl (s_asg (e_p2 rfl (zAG rfl (w20 _)) rfl) (s_ret rfl)))))
  | swap => exact s_f rfl (s_f rfl (s_asg (v := .int (l.b + n)) rfl (s_t rfl (s_asg (v := .int (l.a + n)) rfl (s_asg (e_p2 rfl (zAG rfl (w20 _)) rfl) (s_ret rfl))))))
end
end Mine
end

/-! # BkB -/
section
set_option autoImplicit false
namespace Mine
open PySem
structure BookIn (σ : Sto) (b e h : Nat) (es hs : List V) : Prop where
  inst : σ[b]? = some (.inst [(1, .ref h), (0, .ref e)])
  ent : σ[e]? = some (.list es)
  his : σ[h]? = some (.list hs)
  ne : e ≠ h
theorem len_of {σ : Sto} {n : Nat} {xs : List V} (h : σ[n]? = some (.list xs)) : ev1 .len σ (.ref n) = some (.int xs.length) := zAs σ h
section
variable {T : Nat → Option Fn} {t : Bool} {F : Calls} {d : Nat} {q : Bool} {σ : Sto} {b e h : Nat} {es hs : List V} {ρ : List V}
theorem BookIn.isInst (B : BookIn σ b e h es hs) : isInst σ (.ref b) = true := by
  show (match σ[b]? with | some (.inst _) => true | _ => false) = true
  rw [B.inst]
theorem BookIn.a0 (B : BookIn σ b e h es hs) : doAttr σ (.ref b) 0 = some (.ref e) := by
  show attrO 0 σ[b]? = _
  rw [B.inst]; rfl
theorem BookIn.a1 (B : BookIn σ b e h es hs) : doAttr σ (.ref b) 1 = some (.ref h) := by
  show attrO 1 σ[b]? = _
  rw [B.inst]; rfl
theorem e_self (h0 : readVar ρ 0 = some (.ref b)) : evE F q (.var 0) ρ σ = .ok (.ref b) σ := by rw [x_var, h0]; rfl
theorem e_ent (B : BookIn σ b e h es hs) (h0 : readVar ρ 0 = some (.ref b)) : evE F q (.attr (.var 0) 0) ρ σ = .ok (.ref e) σ := e_attr (e_self h0) B.a0
theorem e_his (B : BookIn σ b e h es hs) (h0 : readVar ρ 0 = some (.ref b)) : evE F q (.attr (.var 0) 1) ρ σ = .ok (.ref h) σ := e_attr (e_self h0) B.a1
theorem e_lenE (B : BookIn σ b e h es hs) (h0 : readVar ρ 0 = some (.ref b)) : evE F q (.p1 .len (.attr (.var 0) 0)) ρ σ = .ok (.int es.length) σ := e_p1 (e_ent B h0) (len_of B.ent)
theorem zBI (B : BookIn σ b e h es hs) (h0 : readVar ρ 0 = some (.ref b)) {c : CE} {o : Nat} {v : V} (hc : evE F q c ρ σ = .ok (.int o) σ) (hv : es[o]? = some v) : evE F q (.p2 .index (.attr (.var 0) 0) c) ρ σ = .ok v σ :=
  e_p2 (e_ent B h0) hc (zAK σ B.ent hv)
theorem zAd {a b c : CE} {x y : Int} (ha : evE F q a ρ σ = .ok (.int 0) σ) (hb : evE F q b ρ σ = .ok (.int x) σ) (hc : evE F q c ρ σ = .ok (.int y) σ) : evE F q (.chain a [.le, .lt] [b, c]) ρ σ = .ok (.bool (decide (0 ≤ x) && decide (x < y))) σ := by
  rw [x_chain, ha, R.bind_ok, x_ch2, hb]
  show (if decide (0 ≤ x) = true then evChain F q [P2.lt] [c] (.int x) ρ σ else .ok (.bool (decide (0 ≤ x))) σ) = _
  cases decide (0 ≤ x) with
  | false => rfl
  | true =>
    show evChain F q [P2.lt] [c] (.int x) ρ σ = _
    rw [x_ch1, hc]; rfl
theorem zBX {n : Nat} {o : Int} : (decide (0 ≤ o) && decide (o < (n : Int))) = true ↔ ∃ k : Nat, o = k ∧ k < n := by
  rw [Bool.and_eq_true, decide_eq_true_eq, decide_eq_true_eq]
  constructor
  · rintro ⟨h1, h2⟩; exact ⟨o.toNat, by omega, by omega⟩
  · rintro ⟨k, rfl, h⟩; omega
theorem b_need (HT : BookTab T t) (B : BookIn σ b e h es hs) {o : Nat} (ho : o < es.length) : callFn T (d + 1) q 1 [.ref b, .int o] σ = .ok .none σ :=
  zBN HT.b1 rfl (s_f (zAC (e_p1 (zAd rfl rfl (e_lenE B rfl)) (by rw [zBX.mpr ⟨o, rfl, ho⟩]; rfl))) rfl)
theorem b_needX (HT : BookTab T t) (B : BookIn σ b e h es hs) {o : Int} (ho : (decide (0 ≤ o) && decide (o < (es.length : Int))) = false) : callFn T (d + 1) false 1 [.ref b, .int o] σ = .exc .NoOrder σ :=
  zAV HT.b1 rfl (s_t (zAC (e_p1 (zAd rfl rfl (e_lenE B rfl)) (by rw [ho]; rfl))) rfl)
theorem zBd (HT : BookTab T t) (B : BookIn σ b e h es hs) (h0 : readVar ρ 0 = some (.ref b)) {c : CE} {o : Nat} (hc : evE (callFn T (d + 1) q) q c ρ σ = .ok (.int o) σ) (ho : o < es.length) {rest : List CS} {Fq : Calls} {r : R Fl} (k : exL (callFn T (d + 1) q) Fq q rest ρ σ = r) :
    exL (callFn T (d + 1) q) Fq q (.exp (.callm 1 (.var 0) [c]) :: rest) ρ σ = r :=
  s_exp (zAL (e_self h0) B.isInst (zAB hc rfl) (b_need HT B ho)) k
theorem zDv (HT : BookTab T t) (B : BookIn σ b e h es hs) (h0 : readVar ρ 0 = some (.ref b)) {c : CE} {o : Int} (hc : evE (callFn T (d + 1) false) false c ρ σ = .ok (.int o) σ) (ho : (decide (0 ≤ o) && decide (o < (es.length : Int))) = false) {rest : List CS} {Fq : Calls} :
    exL (callFn T (d + 1) false) Fq false (.exp (.callm 1 (.var 0) [c]) :: rest) ρ σ = .exc .NoOrder σ :=
  s_expX (zAL (e_self h0) B.isInst (zAB hc rfl) (b_needX HT B ho))
theorem b_orders (HT : BookTab T t) (B : BookIn σ b e h es hs) : callFn T (d + 1) q 10 [.ref b] σ = .ok (.int es.length) σ :=
  zAD HT.b10 rfl (s_ret (e_lenE B rfl))
theorem b_paid (HT : BookTab T t) (B : BookIn σ b e h es hs) {o : Nat} {u : Or} (hu : es[o]? = some u.v) : callFn T (d + 2) q 12 [.ref b, .int o] σ = .ok (.int u.paid) σ :=
  zAD HT.b12 rfl (zBd HT B rfl rfl (List.getElem?_eq_some_iff.mp hu).1 (s_ret (e_p2 (zBI B rfl rfl hu) rfl rfl)))
theorem e_lines (B : BookIn σ b e h es hs) (h0 : readVar ρ 0 = some (.ref b)) {o : Nat} {u : Or} {ce : CE} {g : Ln → V} (h1 : readVar ρ 1 = some (.int o)) (hu : es[o]? = some u.v) (hl : u.lines.length < LIM)
    (hg : ∀ l ∈ u.lines, evE F false ce (ρ ++ [l.v]) σ = .ok (g l) σ) :
    evE F false (.comp ce .val [.p2 .index (.p2 .index (.attr (.var 0) 0) (.var 1)) (.lit (.int 0))] none) ρ σ = .ok (.lst (u.lines.map g)) σ := by
  have := zBn (F := F) (elt := ce) (k := .val) (src := [.p2 .index (.p2 .index (.attr (.var 0) 0) (.var 1)) (.lit (.int 0))]) (cond := none) (ρ := ρ) (σ := σ) (l := u.lines) (φ := Ln.v) (fun _ => true) g
    (zAB (e_p2 (o := .index) (b := .lit (.int 0)) (y := .int 0) (z := .tup (u.lines.map Ln.v)) (zBI B h0 (by rw [x_var, h1]; rfl) hu) rfl rfl) rfl) (itemsBy_tup σ) (.inl rfl) hl (fun _ _ => rfl) (fun l hl _ => hg l hl)
  rwa [zBg] at this
theorem b_owed (HT : BookTab T t) (B : BookIn σ b e h es hs) {o : Nat} {u : Or} (hu : es[o]? = some u.v) (hl : u.lines.length < LIM) (hok : ∀ l ∈ u.lines, l.ok) : callFn T (d + 3) false 13 [.ref b, .int o] σ = .ok (.int u.owed) σ :=
  zAD HT.b13 rfl (zBd HT B rfl rfl (List.getElem?_eq_some_iff.mp hu).1 (s_ret (e_p2
    (e_p1 (e_lines B rfl rfl hu hl (g := fun l => .int l.charge) fun l hm => zAG rfl (zDr HT (hok l hm)))
      (by rw [show u.lines.map (fun l => V.int l.charge) = iv (u.lines.map Ln.charge) by rw [iv, List.map_map]; rfl]; exact zEd σ _))
    (e_p2 (zBI B rfl rfl hu) rfl rfl) rfl)))
noncomputable def toldV (l : Ln) : V := .tup [.str l.item, .int l.p, .int l.s, .int l.b, .int l.a, .int l.r]
theorem b_told (HT : BookTab T t) (h11 : T 11 = some fB_11) (B : BookIn σ b e h es hs) {o : Nat} {u : Or} (hu : es[o]? = some u.v) (hl : u.lines.length < LIM) : callFn T (d + 2) false 11 [.ref b, .int o] σ = .ok (.lst (u.lines.map toldV)) σ :=
  zAD h11 rfl (zBd HT B rfl rfl (List.getElem?_eq_some_iff.mp hu).1 (s_ret (e_lines B rfl rfl hu hl (g := toldV) fun l _ => rfl)))
end
end Mine
end

/-! # BkC -/
section
set_option autoImplicit false
namespace Mine
open PySem
structure Or.ok (u : Or) : Prop where
  few : u.lines.length ≤ 20
  ls : ∀ l ∈ u.lines, l.ok
theorem Or.ok.lim {u : Or} (h : u.ok) : u.lines.length < LIM := Nat.lt_of_le_of_lt h.few (by decide)
noncomputable def dL (w : Wd) (o k n : Int) : V := .tup [.str w.s, .int o, .int k, .int n]
noncomputable def checked (σ : Sto) : Option Cls → R V
  | none => .ok .none σ
  | some c => .exc c σ
noncomputable def atI {α : Type} (l : List α) (i : Int) : Option α := if (decide (0 ≤ i) && decide (i < (l.length : Int))) = true then l[i.toNat]? else none
noncomputable def errN (n m : Int) : Option Cls := if n < 1 then some .NoNumber else if n > m then some .TooMuch else none
noncomputable def errK (w : Wd) (n : Int) : Option Ln → Option Cls
  | none => some .NoLine
  | some l => errN n (mostOf w l)
noncomputable def errU (w : Wd) (k n : Int) : Option Or → Option Cls
  | none => some .NoOrder
  | some u => errK w n (atI u.lines k)
noncomputable def errL (us : List Or) (w : Wd) (o k n : Int) : Option Cls := errU w k n (atI us o)
theorem zAO {α : Type} {l : List α} {i : Int} {x : α} (h : atI l i = some x) : ∃ k : Nat, i = k ∧ l[k]? = some x := by
  unfold atI at h
  split at h
  · rename_i hc
    obtain ⟨k, rfl, _⟩ := zBX.mp hc
    exact ⟨k, rfl, h⟩
  · cases h
theorem zBW {α : Type} {l : List α} {i : Int} (h : atI l i = none) : (decide (0 ≤ i) && decide (i < (l.length : Int))) = false := by
  unfold atI at h
  split at h
  · rename_i hc
    obtain ⟨k, rfl, hk⟩ := zBX.mp hc
    rw [show (k : Int).toNat = k from rfl, List.getElem?_eq_none_iff] at h
    omega
  · rename_i hc; exact Bool.eq_false_iff.mpr hc
section
variable {T : Nat → Option Fn} {t : Bool} {F Fq : Calls} {d : Nat} {q : Bool} {σ : Sto} {b e h : Nat} {us : List Or} {hs : List V} {ρ : List V}
theorem zBa (w : Wd) : ev2 .eq σ (.str w.s) (.str sMove) = some (.bool false) := by cases w <;> rfl
theorem w_pay (w : Wd) : ev2 .eq σ (.str w.s) (.str sPay) = some (.bool false) := by cases w <;> rfl
theorem w_ref (w : Wd) : ev2 .eq σ (.str w.s) (.str sRef) = some (.bool false) := by cases w <;> rfl
theorem w_ord (w : Wd) : ev2 .eq σ (.str w.s) (.str sOrd) = some (.bool false) := by cases w <;> rfl
theorem w_npay (w : Wd) : ev2 .ne σ (.str w.s) (.str sPay) = some (.bool true) := by cases w <;> rfl
theorem w_in (w : Wd) : ev2 .isIn σ (.str w.s) (.tup [.str sDel, .str sBack, .str sSwap, .str sCred]) = some (.bool true) := by cases w <;> rfl
theorem w_parts (w : Wd) : ev2 .notIn σ (.str w.s) .parts = some (.bool false) := by cases w <;> rfl
theorem w_four (w : Wd) : ev2 .index σ .parts (.str w.s) = some (.int 4) := by cases w <;> rfl
theorem zBu {o : Nat} {u : Or} (hu : us[o]? = some u) : (us.map Or.v)[o]? = some u.v := by rw [List.getElem?_map, hu]; rfl
theorem b_most (HT : BookTab T t) (B : BookIn σ b e h (us.map Or.v) hs) {w : Wd} {o k : Nat} {n : Int} {u : Or} {l : Ln} (hu : us[o]? = some u) (hl : u.lines[k]? = some l) (h1 : l.ok) :
    callFn T (d + 4) q 5 [.ref b, dL w o k n] σ = .ok (.int (mostOf w l)) σ :=
  zAD HT.b5 rfl (s_t (zAC (e_p2 rfl rfl (w_in w))) (s_ret (zAG (zAB rfl (zAB (e_p2 (e_p2 (z := .tup (u.lines.map Ln.v)) (zBI B rfl rfl (zBu hu)) rfl rfl) rfl (zBf σ (by rw [List.getElem?_map, hl]; rfl))) rfl)) (b_most_of HT h1 w))))
theorem b_checkL (HT : BookTab T t) (B : BookIn σ b e h (us.map Or.v) hs) (hok : ∀ u ∈ us, u.ok) (w : Wd) (o k n : Int) :
    callFn T (d + 5) false 4 [.ref b, dL w o k n] σ = checked σ (errL us w o k n) := by
  show _ = checked σ (errU w k n (atI us o))
  cases ho : atI us o with
  | none => exact zAV HT.b4 rfl (zDv HT B rfl rfl (by rw [List.length_map]; exact zBW ho))
  | some u =>
    obtain ⟨o, rfl, hu⟩ := zAO ho
    have hi : o < (us.map Or.v).length := by rw [List.length_map]; exact (List.getElem?_eq_some_iff.mp hu).1
    have hlen : ∀ {F : Calls}, evE F false (.p1 .len (.p2 .index (.p2 .index (.attr (.var 0) 0) (.p2 .index (.var 1) (.lit (.int 1)))) (.lit (.int 0)))) [.ref b, dL w o k n] σ = .ok (.int u.lines.length) σ :=
      e_p1 (e_p2 (z := .tup (u.lines.map Ln.v)) (zBI B rfl rfl (zBu hu)) rfl rfl) (by rw [ev1_len_tup, List.length_map])
    show _ = checked σ (errK w n (atI u.lines k))
    cases hk : atI u.lines k with
    | none =>
      exact zAV HT.b4 rfl (zBd HT B rfl rfl hi (s_f (zAC (e_p2 rfl rfl (zBa w)))
        (s_t (zAC (zAk (e_p2 rfl rfl (w_in w)) rfl (e_p1 (zAd rfl rfl hlen) (by rw [zBW hk]; rfl)))) rfl)))
    | some l =>
      obtain ⟨k, rfl, hl⟩ := zAO hk
      have hm := b_most (d := d) (q := false) (n := n) (w := w) HT B hu hl ((hok u (List.mem_of_getElem? hu)).ls l (List.mem_of_getElem? hl))
      have pre : ∀ {r : R Fl} , exL (callFn T (d + 4) false) (callFn T (d + 4) true) false (fB_4.body.drop 3) [.ref b, dL w o k n] σ = r → exL (callFn T (d + 4) false) (callFn T (d + 4) true) false fB_4.body [.ref b, dL w o k n] σ = r := fun kk =>
        zBd HT B rfl rfl hi (s_f (zAC (e_p2 rfl rfl (zBa w)))
          (s_f (zAC (zAk (e_p2 rfl rfl (w_in w)) rfl (e_p1 (zAd rfl rfl hlen) (by rw [zBX.mpr ⟨k, rfl, (List.getElem?_eq_some_iff.mp hl).1⟩]; rfl)))) kk))
      have g : evE (callFn T (d + 4) false) false (.and (.p2 .ne (.p2 .index (.var 1) (.lit (.int 0))) (.lit (.str sPay))) (.p2 .gt (.p2 .index (.var 1) (.p1 .neg (.lit (.int 1)))) (.callm 5 (.var 0) [.var 1]))) [.ref b, dL w o k n] σ = .ok (.bool (decide (n > mostOf w l))) σ :=
        zAk (e_p2 rfl rfl (w_npay w)) rfl (e_p2 rfl (zAL rfl B.isInst rfl hm) rfl)
      show _ = checked σ (errN n (mostOf w l))
      unfold errN
      by_cases h1 : n < 1
      · rw [if_pos h1]
        exact zAV HT.b4 rfl (pre (s_t (zAC (t := true) (e_p2 rfl rfl (show _ = some (V.bool true) by rw [zBY, decide_eq_true h1]))) rfl))
      · rw [if_neg h1]
        have h1' : evC (callFn T (d + 4) false) false (some (.p2 .lt (.p2 .index (.var 1) (.p1 .neg (.lit (.int 1)))) (.lit (.int 1)))) [.ref b, dL w o k n] σ = .ok false σ :=
          zAC (e_p2 rfl rfl (show ev2 .lt σ (.int n) (.int 1) = some (V.bool false) by rw [zBY, decide_eq_false h1]))
        by_cases h2 : n > mostOf w l
        · rw [if_pos h2]
          exact zAV HT.b4 rfl (pre (s_f h1' (s_t (zAC (by rw [decide_eq_true h2] at g; exact g)) rfl)))
        · rw [if_neg h2]
          exact zBN HT.b4 rfl (pre (s_f h1' (s_f (zAC (by rw [decide_eq_false h2] at g; exact g)) rfl)))
end
end Mine
end

/-! # BkD -/
section
set_option autoImplicit false
namespace Mine
open PySem
section
variable {T : Nat → Option Fn} {t : Bool} {F Fq : Calls} {d : Nat} {q : Bool} {σ : Sto} {b e h : Nat} {es hs : List V} {ρ : List V}
theorem e_slice {a : CE} {lo hi : Option CE} {x z : V} {i j : Option Int} (ha : evE F q a ρ σ = .ok x σ) (hl : evO F q lo ρ σ = .ok i σ) (hh : evO F q hi ρ σ = .ok j σ) (h : evSlice σ x i j = some z) : evE F q (.slice a lo hi) ρ σ = .ok z σ := by
  rw [x_slice, ha, R.bind_ok, hl, R.bind_ok, hh, R.bind_ok, h]; rfl
theorem zAU {x : O} {i : Nat} {y : O} (hi : σ[i]? = some y) : (σ ++ [x])[i]? = some y := by
  rw [List.getElem?_append_left (List.getElem?_eq_some_iff.mp hi).1]; exact hi
theorem zAF {i j : Nat} {x y : O} (hi : σ[i]? = some y) (hne : j ≠ i) : (σ.set j x)[i]? = some y := by
  rw [List.getElem?_set_ne hne]; exact hi
theorem zAQ {i : Nat} {x y : O} (hi : σ[i]? = some y) : (σ.set i x)[i]? = some x :=
  List.getElem?_set_self (List.getElem?_eq_some_iff.mp hi).1
theorem BookIn.bh (B : BookIn σ b e h es hs) : h ≠ b := fun q => by have := B.inst; rw [← q, B.his] at this; cases this
theorem BookIn.be (B : BookIn σ b e h es hs) : e ≠ b := fun q => by have := B.inst; rw [← q, B.ent] at this; cases this
theorem BookIn.push (B : BookIn σ b e h es hs) (x : O) : BookIn (σ ++ [x]) b e h es hs := ⟨zAU B.inst, zAU B.ent, zAU B.his, B.ne⟩
theorem BookIn.setH (B : BookIn σ b e h es hs) (hs' : List V) : BookIn (σ.set h (.list hs')) b e h es hs' :=
  ⟨zAF B.inst B.bh, zAF B.ent B.ne.symm, zAQ B.his, B.ne⟩
theorem BookIn.setE (B : BookIn σ b e h es hs) (es' : List V) : BookIn (σ.set e (.list es')) b e h es' hs :=
  ⟨zAF B.inst B.be, zAQ B.ent, zAF B.his B.ne, B.ne⟩
theorem s_entry (B : BookIn σ b e h es hs) (h0 : readVar ρ 0 = some (.ref b)) {c v : CE} {o : Nat} {x : V} (hv : evE F q v ρ σ = .ok x σ) (hc : evE F q c ρ σ = .ok (.int o) σ) (ho : o < es.length) {rest : List CS} {r : R Fl} (k : exL F Fq q rest ρ (σ.set e (.list (es.set o x))) = r) :
    exL F Fq q (.setItem (.attr (.var 0) 0) c v :: rest) ρ σ = r :=
  zBC hv (e_ent B h0) hc (zCw σ B.ent ho) k
theorem slice_to {xs : List V} {k : Nat} (hk : k < xs.length) : evSlice σ (.tup xs) none (some (k : Int)) = some (.tup (xs.take k)) := by
  show some (V.tup ((xs.take (if (k : Int) < 0 then ((k : Int) + xs.length).toNat else min (k : Int).toNat xs.length)).drop 0)) = _
  rw [if_neg (by omega), Int.toNat_natCast, Nat.min_eq_left (Nat.le_of_lt hk), List.drop_zero]
theorem slice_from {xs : List V} {k : Nat} (hk : k < xs.length) : evSlice σ (.tup xs) (some ((k : Int) + 1)) none = some (.tup (xs.drop (k + 1))) := by
  show some (V.tup ((xs.take xs.length).drop (if (k : Int) + 1 < 0 then ((k : Int) + 1 + xs.length).toNat else min ((k : Int) + 1).toNat xs.length))) = _
  rw [if_neg (by omega), List.take_length, show ((k : Int) + 1).toNat = k + 1 by omega, Nat.min_eq_left hk]
theorem add_tup {xs ys : List V} (hl : xs.length + ys.length ≤ LIM) : ev2 .add σ (.tup xs) (.tup ys) = some (.tup (xs ++ ys)) := by
  show (if xs.length + ys.length ≤ LIM then some (V.tup (xs ++ ys)) else none) = _
  rw [if_pos hl]
theorem e_swap {a i x : CE} {xs : List V} {k : Nat} {v : V} (hx : evE F q a ρ σ = .ok (.tup xs) σ) (hi : evE F q i ρ σ = .ok (.int k) σ) (hv : evE F q x ρ σ = .ok v σ) (hk : k < xs.length) (hl : xs.length ≤ LIM) :
    evE F q (.p2 .add (.p2 .add (.slice a none (some i)) (.tup [x])) (.slice a (some (.p2 .add i (.lit (.int 1)))) none)) ρ σ = .ok (.tup (xs.set k v)) σ := by
  have h1 : evO F q (some i) ρ σ = .ok (some (k : Int)) σ := by rw [x_osome, hi]; rfl
  have h2 : evO F q (some (.p2 .add i (.lit (.int 1)))) ρ σ = .ok (some ((k : Int) + 1)) σ := by rw [x_osome, e_p2 hi rfl (ev2_add σ k 1)]; rfl
  have e := e_p2 (e_p2 (e_slice (lo := none) hx rfl h1 (slice_to hk)) (e_tup (es := [x]) (vs := [v]) (zAB hv rfl)) (add_tup (σ := σ) (by rw [List.length_take]; show min k xs.length + 1 ≤ LIM; omega))) (e_slice (hi := none) hx h2 rfl (slice_from hk)) (add_tup (σ := σ) (by rw [List.length_append, List.length_take, List.length_drop]; show min k xs.length + 1 + (xs.length - (k + 1)) ≤ LIM; omega))
  rw [e, List.set_eq_take_append_cons_drop, if_pos hk, List.append_assoc]; rfl
end
noncomputable def upL (w : Wd) (u : Or) (k : Nat) (l : Ln) (n : Int) : Or := { lines := u.lines.set k (behindL w l n), paid := u.paid, rows := u.rows ++ [(w.s, (behindL w l n).charge - l.charge)] }
noncomputable def noted (σ : Sto) (h : Nat) (hs : List V) (deed : V) (old : List (Int × V)) : Sto := List.set (σ ++ [O.dict old]) h (O.list (hs ++ [V.tup [deed, V.ref σ.length]]))
theorem zBA {w : Wd} {l : Ln} {n : Int} (h : l.ok) : (behindL w l n).ok := by cases w <;> exact ⟨h.1, h.2, h.3, h.4, h.5, h.6⟩
theorem set_map {α β : Type} (f : α → β) (l : List α) (i : Nat) (x : α) : (l.map f).set i (f x) = (l.set i x).map f := by rw [List.map_set]
theorem zCF {σ : Sto} {x y : O} : (σ ++ [x]).set σ.length y = σ ++ [y] := by
  rw [List.set_append_right _ _ (Nat.le_refl _), Nat.sub_self]; rfl
theorem zAZ {σ : Sto} {x : O} : (σ ++ [x])[σ.length]? = some x := by
  rw [List.getElem?_append_right (Nat.le_refl _), Nat.sub_self]; rfl
section
variable {T : Nat → Option Fn} {t : Bool} {d : Nat} {q : Bool} {σ : Sto} {b e h : Nat} {us : List Or} {hs : List V} {w : Wd} {o k : Nat} {n : Int} {u : Or} {l : Ln}
theorem b_turn (HT : BookTab T t) (B : BookIn σ b e h (us.map Or.v) hs) (hu : us[o]? = some u) (hl : u.lines[k]? = some l) (hok : u.ok) (hr : u.rows.length < LIM) :
    callFn T (d + 3) false 8 [.ref b, .int o, .int k, .str w.s, .int n] σ = .ok (.tup [.int o, .int ((behindL w l n).charge - l.charge)]) (σ.set e (.list ((us.set o (upL w u k l n)).map Or.v))) := by
  have hl1 := hok.ls l (List.mem_of_getElem? hl)
  have hkl : k < (u.lines.map Ln.v).length := by rw [List.length_map]; exact (List.getElem?_eq_some_iff.mp hl).1
  have hlm : (u.lines.map Ln.v).length ≤ LIM := by rw [List.length_map]; exact Nat.le_of_lt hok.lim
  have ho : o < (us.map Or.v).length := by rw [List.length_map]; exact (List.getElem?_eq_some_iff.mp hu).1
  refine zAD HT.b8 rfl ?_
  refine s_asg (v := u.v) (zBI B rfl rfl (zBu hu)) ?_
  refine s_asg (v := l.v) (e_p2 (x := .tup (u.lines.map Ln.v)) rfl rfl (zBf σ (by rw [List.getElem?_map, hl]; rfl))) ?_
  refine s_asg (v := (behindL w l n).v) (zAG rfl (b_behind HT hl1 w n)) ?_
  refine s_asg (v := .int ((behindL w l n).charge - l.charge)) (e_p2 (zAG rfl (zDr HT (zBA hl1))) (zAG rfl (zDr HT hl1)) rfl) ?_
  refine s_asg (v := .tup ((u.lines.set k (behindL w l n)).map Ln.v)) (by rw [← set_map]; exact e_swap (xs := u.lines.map Ln.v) rfl rfl rfl hkl hlm) ?_
  refine s_entry B rfl (x := (upL w u k l n).v) ?_ rfl ho (s_ret ?_)
  · refine e_tup (zAB rfl (zAB rfl (zAB ?_ rfl)))
    refine e_p2 (x := .tup (u.rows.map rowV)) (y := .tup [rowV (w.s, (behindL w l n).charge - l.charge)]) rfl rfl ?_
    rw [add_tup (by rw [List.length_map]; exact hr)]
    show _ = some (V.tup ((u.rows ++ [_]).map rowV))
    rw [List.map_append]; rfl
  · rw [set_map]; rfl
theorem b_changeL (HT : BookTab T t) (B : BookIn σ b e h (us.map Or.v) hs) (hu : us[o]? = some u) (hl : u.lines[k]? = some l) (hok : u.ok) (hr : u.rows.length < LIM) (hh : hs.length < LIM) :
    callFn T (d + 4) false 6 [.ref b, dL w o k n] σ = .ok (rv t ((noted σ h hs (dL w o k n) [((o : Int), u.v)]).set e (.list ((us.set o (upL w u k l n)).map Or.v))) [.tup [.int o, .int ((behindL w l n).charge - l.charge)]]) (rs t ((noted σ h hs (dL w o k n) [((o : Int), u.v)]).set e (.list ((us.set o (upL w u k l n)).map Or.v))) [.tup [.int o, .int ((behindL w l n).charge - l.charge)]]) := by
  have B1 := B.push (.dict [])
  have B2 := B.push (.dict [((o : Int), u.v)])
  have B3 : BookIn (noted σ h hs (dL w o k n) [((o : Int), u.v)]) b e h (us.map Or.v) (hs ++ [.tup [dL w o k n, .ref σ.length]]) := B2.setH _
  refine zAD HT.b6 rfl ?_
  refine s_asg (v := .str w.s) rfl (s_asg (v := .int n) rfl ?_)
  refine s_asg (v := .ref σ.length) (σ' := σ ++ [.dict [((o : Int), u.v)]]) ?_ ?_
  · rw [x_dict1, show evE (callFn T (d + 3) false) false (.p2 .index (.var 1) (.lit (.int 1))) _ (σ ++ [.dict []]) = .ok (.int o) (σ ++ [.dict []]) from rfl, R.bind_ok, zBI B1 rfl rfl (zBu hu), R.bind_ok]
    show dict1O σ.length (σ ++ [.dict []]) o u.v (σ ++ [.dict []])[σ.length]? = _
    rw [zAZ]
    show R.ok (V.ref σ.length) ((σ ++ [O.dict []]).set σ.length (O.dict [((o : Int), u.v)])) = _
    rw [zCF]
  refine s_f (zAC (e_p2 rfl rfl (zBa w))) ?_
  refine s_exp (σ' := noted σ h hs (dL w o k n) [((o : Int), u.v)]) (zAj (e_his B2 rfl) (by show (listR _).isSome = true; rw [B2.his]; rfl) (e_tup (zAB rfl (zAB rfl rfl))) (zAX _ B2.his hh)) ?_
  refine s_f (zAC (e_p2 rfl rfl (zBa w))) (s_f (zAC (e_p2 rfl rfl (w_pay w))) (s_f (zAC (e_p2 rfl rfl (w_ref w))) ?_))
  exact s_ret (e_res (zAB (zAL rfl B3.isInst rfl (b_turn HT B3 hu hl hok hr)) rfl))
theorem do_preL (HT : BookTab T t) {o k n : Int} {F Fq : Calls} {r : R Fl} (kk : exL F Fq false (fB_2.body.drop 2) [.ref b, dL w o k n] σ = r) : exL F Fq false fB_2.body [.ref b, dL w o k n] σ = r :=
  s_f (zAC (zAW rfl rfl (zAW (e_p2 rfl rfl (w_parts w)) rfl (e_p2 rfl (e_p2 rfl rfl (w_four w)) rfl)))) (s_f (zAC (e_p2 rfl rfl (w_ord w))) kk)
theorem b_doX (HT : BookTab T t) (B : BookIn σ b e h (us.map Or.v) hs) (hok : ∀ u ∈ us, u.ok) {o k n : Int} {c : Cls} (he : errL us w o k n = some c) : callFn T (d + 6) false 2 [.ref b, dL w o k n] σ = .exc c σ :=
  zAV HT.b2 rfl (do_preL HT (s_expX (zAL rfl B.isInst rfl (by rw [b_checkL HT B hok, he]; rfl))))
theorem b_doLT (HT : BookTab T t) (B : BookIn σ b e h (us.map Or.v) hs) (hok : ∀ u ∈ us, u.ok) (he : errL us w o k n = none) (hu : us[o]? = some u) (hl : u.lines[k]? = some l) (hr : u.rows.length < LIM) (hh : hs.length < LIM) :
    callFn T (d + 6) false 2 [.ref b, dL w o k n] σ = .ok (rv t ((noted σ h hs (dL w o k n) [((o : Int), u.v)]).set e (.list ((us.set o (upL w u k l n)).map Or.v))) [.tup [.int o, .int ((behindL w l n).charge - l.charge)]]) (rs t ((noted σ h hs (dL w o k n) [((o : Int), u.v)]).set e (.list ((us.set o (upL w u k l n)).map Or.v))) [.tup [.int o, .int ((behindL w l n).charge - l.charge)]]) :=
  zAD HT.b2 rfl (do_preL HT (s_exp (zAL rfl B.isInst rfl ((b_checkL HT B hok w o k n).trans (by rw [he]; rfl))) (s_ret (zAL rfl B.isInst rfl (b_changeL HT B hu hl (hok u (List.mem_of_getElem? hu)) hr hh)))))
end
end Mine
end

/-! # BkE -/
section
set_option autoImplicit false
namespace Mine
open PySem
noncomputable def letters : Str := { cps := #[97, 98, 99, 100, 101, 102, 103, 104, 105, 106, 107, 108, 109, 110, 111, 112, 113, 114, 115, 116, 117, 118, 119, 120, 121, 122] }
noncomputable def letterOk (c : Nat) : Bool := (codes letters).contains c
noncomputable def itemOk (s : Str) : Bool := decide (1 ≤ s.length) && decide (s.length ≤ 12) && (codes s).all letterOk
noncomputable def Ln.raw (l : Ln) : V := .tup [.str l.item, .int l.p, .int l.c, .int l.k]
noncomputable def Ln.fresh (l : Ln) : Ln := { l with s := 0, b := 0, a := 0, r := 0 }
theorem Ln.ok.fresh {l : Ln} (h : l.ok) : l.fresh.ok := ⟨h.1, h.2, h.3, h.4, h.5, h.6⟩
structure Ln.good (l : Ln) : Prop where
  ok : l.ok
  item : itemOk l.item = true
  asc : l.item.cps.all (· < 128) = true
noncomputable def newOr (ls : List Ln) : Or := { lines := ls.map Ln.fresh, paid := 0, rows := [] }
section
variable {T : Nat → Option Fn} {t : Bool} {F Fq : Calls} {d : Nat} {q : Bool} {σ : Sto} {b e h : Nat} {es hs : List V} {ρ : List V}
theorem e_between {a b c : CE} {lo x hi : Int} (ha : evE F q a ρ σ = .ok (.int lo) σ) (hb : evE F q b ρ σ = .ok (.int x) σ) (hc : evE F q c ρ σ = .ok (.int hi) σ) : evE F q (.chain a [.le, .le] [b, c]) ρ σ = .ok (.bool (decide (lo ≤ x) && decide (x ≤ hi))) σ := by
  rw [x_chain, ha, R.bind_ok, x_ch2, hb]
  show (if decide (lo ≤ x) = true then evChain F q [P2.le] [c] (.int x) ρ σ else .ok (.bool (decide (lo ≤ x))) σ) = _
  cases decide (lo ≤ x) with
  | false => rfl
  | true =>
    show evChain F q [P2.le] [c] (.int x) ρ σ = _
    rw [x_ch1, hc]; rfl
theorem bt_true {lo x hi : Int} (h1 : lo ≤ x) (h2 : x ≤ hi) : (decide (lo ≤ x) && decide (x ≤ hi)) = true := by
  rw [decide_eq_true h1, decide_eq_true h2]; rfl
theorem zBb {a b c : CE} {lo x hi : Int} (h1 : lo ≤ x) (h2 : x ≤ hi) (ha : evE F q a ρ σ = .ok (.int lo) σ) (hb : evE F q b ρ σ = .ok (.int x) σ) (hc : evE F q c ρ σ = .ok (.int hi) σ) : evE F q (.p1 .not (.chain a [.le, .le] [b, c])) ρ σ = .ok (.bool false) σ :=
  e_p1 (e_between ha hb hc) (by rw [bt_true h1 h2]; rfl)
theorem bools_map {α : Type} (g : α → Bool) : ∀ l : List α, bools? (l.map fun x => V.bool (g x)) = some (l.map g)
  | [] => rfl
  | x :: l => by
    have := bools_map g l
    unfold bools? at this ⊢
    rw [List.map_cons, List.mapM_cons, this]; rfl
theorem b_item (HT : BookTab T t) {s : Str} (h1 : itemOk s = true) (h2 : s.cps.all (· < 128) = true) : callFn T (d + 1) false 21 [.str s] σ = .ok (.bool true) σ := by
  unfold itemOk at h1
  rw [Bool.and_eq_true, Bool.and_eq_true, decide_eq_true_eq, decide_eq_true_eq] at h1
  obtain ⟨⟨ha, hb⟩, hc⟩ := h1
  refine zAD HT.b21 rfl (s_f (zAC (zAW rfl rfl (zBb (x := (s.length : Int)) (by omega) (by omega) rfl rfl rfl))) (s_ret ?_))
  have e := zBn (F := callFn T d false) (elt := .p2 .isIn (.var 1) (.lit (.str letters))) (k := .val) (src := [.var 0]) (cond := none) (ρ := [.str s]) (σ := σ) (l := codes s) (φ := fun c => .str (mkS [c])) (fun _ => true) (fun c => .bool (letterOk c))
    rfl (show itemsBy σ .val [.str s] = some (.now (charsOf s)) by show (if s.cps.all (· < 128) = true then some (Items.now (charsOf s)) else none) = _; rw [if_pos h2]) (.inl rfl)
    (by show (codes s).length < LIM; rw [show (codes s).length = s.length from rfl]; exact Nat.lt_of_le_of_lt hb (by decide)) (fun _ _ => rfl) (fun c _ _ => rfl)
  rw [zBg] at e
  refine e_p1 e ?_
  show ((bools? ((codes s).map fun c => V.bool (letterOk c))).map fun l => V.bool (l.all id)) = _
  rw [bools_map, show (some ((codes s).map letterOk)).map (fun l => V.bool (l.all id)) = some (V.bool (((codes s).map letterOk).all id)) from rfl, List.all_map]
  exact congrArg (fun b => some (V.bool b)) hc
theorem b_check_lines (HT : BookTab T t) {ls : List Ln} (h1 : 1 ≤ ls.length) (h2 : ls.length ≤ 20) (hg : ∀ l ∈ ls, l.good) : callFn T (d + 2) false 22 [.lst (ls.map Ln.raw)] σ = .ok .none σ := by
  have ex : ∃ ρ, exL (callFn T (d + 1) false) (callFn T (d + 1) true) false fB_22.body ([V.lst (ls.map Ln.raw)] ++ List.replicate (fB_22.slots - fB_22.params) .undef) σ = .ok (.next ρ) σ := by
    obtain ⟨ρ', σ', e, x, rfl, rfl⟩ := zCt (F := callFn T (d + 1) false) (Fq := callFn T (d + 1) true) (i := 1) (k := .val) (src := [.var 0]) (ρ := [V.lst (ls.map Ln.raw), .undef]) (vs := [.lst (ls.map Ln.raw)]) (σ := σ) (σ₁ := σ) (it := .now (ls.map Ln.raw)) (xs := ls.map Ln.raw)
      (body := [CS.ite (CE.p1 (P1.not) (CE.call 21 [CE.p2 (P2.index) (CE.var 1) (CE.lit (V.int 0))])) [CS.raise (Cls.NoItem)] [],
        CS.ite (CE.or (CE.p1 (P1.not) (CE.chain (CE.lit (V.int 1)) [P2.le, P2.le] [CE.p2 (P2.index) (CE.var 1) (CE.lit (V.int 1)), CE.lit (V.int 1000000)]))
          (CE.or (CE.p1 (P1.not) (CE.chain (CE.lit (V.int 0)) [P2.le, P2.le] [CE.p2 (P2.index) (CE.var 1) (CE.lit (V.int 2)), CE.lit (V.int 1000000000)]))
            (CE.p1 (P1.not) (CE.chain (CE.lit (V.int 1)) [P2.le, P2.le] [CE.p2 (P2.index) (CE.var 1) (CE.lit (V.int 3)), CE.lit (V.int 1000)])))) [CS.raise (Cls.NoNumber)] []])
      (fun _ ρ σ' => ∃ x, ρ = [V.lst (ls.map Ln.raw), x] ∧ σ' = σ) rfl rfl (fun _ _ _ _ => .inl rfl) ⟨_, rfl, rfl⟩ fun j x ρ σ' hx hI => by
        obtain ⟨y, rfl, rfl⟩ := hI
        rw [List.getElem?_map] at hx
        obtain ⟨l, hl, rfl⟩ := Option.map_eq_some_iff.mp hx
        have g := hg l (List.mem_of_getElem? hl)
        refine ⟨[V.lst (ls.map Ln.raw), l.raw], σ', ?_, _, rfl, rfl⟩
        exact s_f (zAC (e_p1 (zAG rfl (b_item HT g.item g.asc)) rfl)) (s_f (zAC (zAW (zBb g.ok.p1 g.ok.p2 rfl rfl rfl) rfl (zAW (zBb g.ok.c1 g.ok.c2 rfl rfl rfl) rfl (zBb g.ok.k1 g.ok.k2 rfl rfl rfl)))) rfl)
    refine ⟨[V.lst (ls.map Ln.raw), x], s_f (zAC (zBb (x := (ls.length : Int)) (by omega) (by omega) rfl (e_p1 rfl (by rw [zAa, List.length_map])) rfl)) ?_⟩
    rw [List.nil_append, zAt]
    exact congrArg (fun r => R.bind r (thenL (callFn T (d + 1) false) (callFn T (d + 1) true) false [])) e
  obtain ⟨ρ, ex⟩ := ex
  exact zBN HT.b22 rfl ex
theorem b_begun (HT : BookTab T t) {l : Ln} : callFn T (d + 1) q 23 [l.raw] σ = .ok l.fresh.v σ := zAD HT.b23 rfl (s_ret rfl)
noncomputable def dO (ls : List Ln) : V := .tup [.str sOrd, .lst (ls.map Ln.raw)]
theorem b_begin (HT : BookTab T t) (B : BookIn σ b e h es hs) {ls : List Ln} (h1 : 1 ≤ ls.length) (h2 : ls.length ≤ 20) (hg : ∀ l ∈ ls, l.good) (he : es.length < 40) (hh : hs.length < LIM) :
    callFn T (d + 3) false 3 [.ref b, .lst (ls.map Ln.raw)] σ = .ok (rv t (noted (σ.set e (.list (es ++ [(newOr ls).v]))) h hs (dO ls) []) []) (rs t (noted (σ.set e (.list (es ++ [(newOr ls).v]))) h hs (dO ls) []) []) := by
  have B1 := B.setE (es ++ [(newOr ls).v])
  refine zAD HT.b3 rfl ?_
  refine s_exp (zAG rfl (b_check_lines HT h1 h2 hg)) ?_
  refine s_f (zAC (t := false) (e_p2 (e_lenE B rfl) rfl (by rw [ev2_ge, decide_eq_false (by omega)]))) ?_
  have ec := zBn (F := callFn T (d + 2) false) (elt := .call 23 [.var 2]) (k := .val) (src := [.var 1]) (cond := none) (ρ := [.ref b, .lst (ls.map Ln.raw)]) (σ := σ) (l := ls) (φ := Ln.raw) (fun _ => true) (fun l => l.fresh.v) rfl rfl (.inl rfl) (Nat.lt_of_le_of_lt h2 (by decide)) (fun _ _ => rfl) (fun l _ _ => zAG rfl (b_begun HT))
  rw [zBg, show ls.map (fun l => l.fresh.v) = (ls.map Ln.fresh).map Ln.v by rw [List.map_map]; rfl] at ec
  refine s_exp (σ' := σ.set e (.list (es ++ [(newOr ls).v]))) (zAj (e_ent B rfl) (by show (listR _).isSome = true; rw [B.ent]; rfl) (e_tup (zAB (e_p1 (z := .tup ((ls.map Ln.fresh).map Ln.v)) ec rfl) rfl)) (zAX _ B.ent (Nat.lt_trans he (by decide)))) ?_
  refine s_exp (zAj (e_his B1 rfl) (by show (listR _).isSome = true; rw [B1.his]; rfl) (e_tup (zAB (v := dO ls) rfl (zAB rfl rfl))) (zAX _ (B1.push _).his hh)) (s_ret (e_res rfl))
theorem b_doOT (HT : BookTab T t) (B : BookIn σ b e h es hs) {ls : List Ln} (h1 : 1 ≤ ls.length) (h2 : ls.length ≤ 20) (hg : ∀ l ∈ ls, l.good) (he : es.length < 40) (hh : hs.length < LIM) :
    callFn T (d + 4) false 2 [.ref b, dO ls] σ = .ok (rv t (noted (σ.set e (.list (es ++ [(newOr ls).v]))) h hs (dO ls) []) []) (rs t (noted (σ.set e (.list (es ++ [(newOr ls).v]))) h hs (dO ls) []) []) :=
  zAD HT.b2 rfl (s_f rfl (s_t rfl (s_ret (zAL rfl B.isInst rfl (b_begin HT B h1 h2 hg he hh)))))
theorem s_setAttr {c v : CE} {k n : Nat} {x : V} {as : List (Nat × V)} {σ₁ : Sto} (hv : evE F q v ρ σ = .ok x σ₁) (ho : evE F q c ρ σ₁ = .ok (.ref n) σ₁) (hn : σ₁[n]? = some (.inst as)) (hk : k < 2) {rest : List CS} {r : R Fl} (kk : exL F Fq q rest ρ (σ₁.set n (.inst ((k, x) :: as))) = r) :
    exL F Fq q (.setAttr c k v :: rest) ρ σ = r := by
  rw [zAt, x_setAttr, hv, R.bind_ok, ho, R.bind_ok, show doSetAttr σ₁ (.ref n) k x = setAttrO σ₁ n k x σ₁[n]? from rfl, hn, show setAttrO σ₁ n k x (some (.inst as)) = if k < 2 then .ok () (σ₁.set n (.inst ((k, x) :: as))) else .stuck from rfl, if_pos hk]
  exact kk
noncomputable def newBook (σ : Sto) : Sto := σ ++ [.inst [(1, .ref (σ.length + 2)), (0, .ref (σ.length + 1))], .list [], .list []]
theorem at_mid {l r : Sto} {x : O} : (l ++ x :: r)[l.length]? = some x := by
  rw [List.getElem?_append_right (Nat.le_refl _), Nat.sub_self]; rfl
theorem put_mid {l r : Sto} {x y : O} : (l ++ x :: r).set l.length y = l ++ y :: r := by
  rw [List.set_append_right _ _ (Nat.le_refl _), Nat.sub_self]; rfl
theorem b_new (HT : BookTab T t) : evE (callFn T (d + 1) q) q .new ρ σ = .ok (.ref σ.length) (newBook σ) := by
  have hc : callFn T (d + 1) q 0 [.ref σ.length] (σ ++ [.inst []]) = .ok .none (newBook σ) := by
    refine zBN (ρ := [.ref σ.length]) HT.b0 rfl (s_setAttr (σ₁ := σ ++ [.inst [], .list []]) (x := .ref (σ.length + 1)) ?_ rfl at_mid (by decide) ?_)
    · show R.ok (V.ref (σ ++ [O.inst []]).length) ((σ ++ [O.inst []]) ++ [O.list []]) = _
      rw [List.length_append, List.append_assoc]; rfl
    · rw [put_mid]
      refine s_setAttr (σ₁ := σ ++ [.inst [(0, .ref (σ.length + 1))], .list [], .list []]) (x := .ref (σ.length + 2)) ?_ rfl at_mid (by decide) ?_
      · show R.ok (V.ref (σ ++ [O.inst [(0, .ref (σ.length + 1))], O.list []]).length) ((σ ++ [O.inst [(0, .ref (σ.length + 1))], O.list []]) ++ [O.list []]) = _
        rw [List.length_append, List.append_assoc]; rfl
      · rw [put_mid]; rfl
  rw [x_new, hc]; rfl
theorem newBook_in : BookIn (newBook σ) σ.length (σ.length + 1) (σ.length + 2) [] [] :=
  ⟨at_mid, by unfold newBook; rw [List.getElem?_append_right (by omega), Nat.add_sub_cancel_left]; rfl, by unfold newBook; rw [List.getElem?_append_right (by omega), Nat.add_sub_cancel_left]; rfl, by omega⟩
end
end Mine
end

/-! # BkF -/
section
set_option autoImplicit false
namespace Mine
open PySem
noncomputable def dP (o n : Int) : V := .tup [.str sPay, .int o, .int n]
noncomputable def dR (o n : Int) : V := .tup [.str sRef, .int o, .int n]
noncomputable def dM (o p n : Int) : V := .tup [.str sMove, .int o, .int p, .int n]
noncomputable def errP1 (n : Int) : Option Or → Option Cls
  | none => some .NoOrder
  | some _ => if n < 1 then some .NoNumber else none
noncomputable def errPay (us : List Or) (o n : Int) : Option Cls := errP1 n (atI us o)
noncomputable def errR1 (n : Int) : Option Or → Option Cls
  | none => some .NoOrder
  | some u => errN n (0 - u.owed)
noncomputable def errRef (us : List Or) (o n : Int) : Option Cls := errR1 n (atI us o)
noncomputable def errM2 (u : Or) (o p n : Int) : Option Or → Option Cls
  | none => some .NoOrder
  | some _ => if o == p then some .SameOrder else errN n (0 - u.owed)
noncomputable def errM1 (us : List Or) (o p n : Int) : Option Or → Option Cls
  | none => some .NoOrder
  | some u => errM2 u o p n (atI us p)
noncomputable def errMov (us : List Or) (o p n : Int) : Option Cls := errM1 us o p n (atI us o)
noncomputable def payOr (u : Or) (w : Str) (c : Int) : Or := { lines := u.lines, paid := u.paid + c, rows := u.rows ++ [(w, 0 - c)] }
section
variable {T : Nat → Option Fn} {t : Bool} {F Fq : Calls} {d : Nat} {q : Bool} {σ : Sto} {b e h : Nat} {us : List Or} {hs : List V} {ρ : List V} {o p : Nat} {n : Int} {u u' : Or}
theorem atI_map {o : Int} (ho : atI us o = none) : (decide (0 ≤ o) && decide (o < ((us.map Or.v).length : Int))) = false := by rw [List.length_map]; exact zBW ho
theorem zEX (hu : us[o]? = some u) : o < (us.map Or.v).length := by rw [List.length_map]; exact (List.getElem?_eq_some_iff.mp hu).1
theorem b_payin (HT : BookTab T t) (B : BookIn σ b e h (us.map Or.v) hs) (hu : us[o]? = some u) (w : Str) (c : Int) (hr : u.rows.length < LIM) :
    callFn T (d + 1) q 7 [.ref b, .int o, .str w, .int c] σ = .ok (.tup [.int o, .int (0 - c)]) (σ.set e (.list ((us.set o (payOr u w c)).map Or.v))) := by
  refine zAD HT.b7 rfl (s_asg (v := u.v) (zBI B rfl rfl (zBu hu)) (s_entry B rfl (x := (payOr u w c).v) ?_ rfl (zEX hu) (s_ret ?_)))
  · refine e_tup (zAB rfl (zAB rfl (zAB (e_p2 (x := .tup (u.rows.map rowV)) (y := .tup [rowV (w, 0 - c)]) rfl rfl ?_) rfl)))
    rw [add_tup (by rw [List.length_map]; exact hr)]
    show _ = some (V.tup ((u.rows ++ [_]).map rowV))
    rw [List.map_append]; rfl
  · rw [set_map]; rfl
theorem zEm {deed : V} {m n : Int} {w : Str} (hv : readVar [.ref b, deed] 1 = some deed) (hw : ev2 .index σ deed (.int 0) = some (.str w)) (hl : ev2 .index σ deed (.int (-1)) = some (.int n)) (hp : ev2 .ne σ (.str w) (.str sPay) = some (.bool true))
    (hi : isInst σ (.ref b) = true) (hm : F 5 [.ref b, deed] σ = .ok (.int m) σ) : exL F Fq false (fB_4.body.drop 3) [.ref b, deed] σ = (match errN n m with | none => .ok (.next [.ref b, deed]) σ | some c => .exc c σ) := by
  have v1 : evE F false (.var 1) [.ref b, deed] σ = .ok deed σ := by rw [x_var, hv]; rfl
  have l1 : evE F false (.p2 .index (.var 1) (.p1 .neg (.lit (.int 1)))) [.ref b, deed] σ = .ok (.int n) σ := e_p2 v1 (e_p1 rfl rfl) hl
  have g : evE F false (.and (.p2 .ne (.p2 .index (.var 1) (.lit (.int 0))) (.lit (.str sPay))) (.p2 .gt (.p2 .index (.var 1) (.p1 .neg (.lit (.int 1)))) (.callm 5 (.var 0) [.var 1]))) [.ref b, deed] σ = .ok (.bool (decide (n > m))) σ :=
    zAk (e_p2 (e_p2 v1 rfl hw) rfl hp) rfl (e_p2 l1 (zAL rfl hi (zAB v1 rfl) hm) rfl)
  unfold errN
  by_cases h1 : n < 1
  · rw [if_pos h1]
    exact s_t (zAC (e_p2 l1 rfl (by rw [zBY, decide_eq_true h1]))) rfl
  · rw [if_neg h1]
    have h1' : evC F false (some (.p2 .lt (.p2 .index (.var 1) (.p1 .neg (.lit (.int 1)))) (.lit (.int 1)))) [.ref b, deed] σ = .ok false σ := zAC (e_p2 l1 rfl (by rw [zBY, decide_eq_false h1]))
    by_cases h2 : n > m
    · rw [if_pos h2]; exact s_f h1' (s_t (zAC (by rw [decide_eq_true h2] at g; exact g)) rfl)
    · rw [if_neg h2]; exact s_f h1' (s_f (zAC (by rw [decide_eq_false h2] at g; exact g)) rfl)
theorem end_check (HT : BookTab T t) {deed : V} {x : Option Cls} (h : exL (callFn T d false) (callFn T d true) false fB_4.body [.ref b, deed] σ = (match x with | none => .ok (.next [.ref b, deed]) σ | some c => .exc c σ)) : callFn T (d + 1) false 4 [.ref b, deed] σ = checked σ x := by
  cases x with
  | none => exact zBN HT.b4 rfl h
  | some c => exact zAV HT.b4 rfl h
theorem b_checkP (HT : BookTab T t) (B : BookIn σ b e h (us.map Or.v) hs) (o n : Int) : callFn T (d + 2) false 4 [.ref b, dP o n] σ = checked σ (errPay us o n) := by
  show _ = checked σ (errP1 n (atI us o))
  cases ho : atI us o with
  | none => exact zAV HT.b4 rfl (zDv HT B rfl rfl (atI_map ho))
  | some u =>
    obtain ⟨o, rfl, hu⟩ := zAO ho
    show _ = checked σ (if n < 1 then some .NoNumber else none)
    by_cases h1 : n < 1
    · rw [if_pos h1]
      exact zAV HT.b4 rfl (zBd HT B rfl rfl (zEX hu) (s_f rfl (s_f rfl (s_t (zAC (t := true) (e_p2 rfl rfl (show ev2 .lt σ (.int n) (.int 1) = _ by rw [zBY, decide_eq_true h1]))) rfl))))
    · rw [if_neg h1]
      exact zBN HT.b4 rfl (zBd HT B rfl rfl (zEX hu) (s_f rfl (s_f rfl (s_f (zAC (t := false) (e_p2 rfl rfl (show ev2 .lt σ (.int n) (.int 1) = _ by rw [zBY, decide_eq_false h1]))) (s_f rfl rfl)))))
theorem b_mostR (HT : BookTab T t) (B : BookIn σ b e h (us.map Or.v) hs) (hok : ∀ u ∈ us, u.ok) (hu : us[o]? = some u) : callFn T (d + 4) false 5 [.ref b, dR o n] σ = .ok (.int (0 - u.owed)) σ :=
  have k := hok u (List.mem_of_getElem? hu)
  zAD HT.b5 rfl (s_f rfl (s_ret (e_p2 rfl (zAL rfl B.isInst rfl (b_owed HT B (zBu hu) k.lim k.ls)) rfl)))
theorem b_mostM (HT : BookTab T t) (B : BookIn σ b e h (us.map Or.v) hs) (hok : ∀ u ∈ us, u.ok) (hu : us[o]? = some u) {p : Int} : callFn T (d + 4) false 5 [.ref b, dM o p n] σ = .ok (.int (0 - u.owed)) σ :=
  have k := hok u (List.mem_of_getElem? hu)
  zAD HT.b5 rfl (s_f rfl (s_ret (e_p2 rfl (zAL rfl B.isInst rfl (b_owed HT B (zBu hu) k.lim k.ls)) rfl)))
theorem b_checkR (HT : BookTab T t) (B : BookIn σ b e h (us.map Or.v) hs) (hok : ∀ u ∈ us, u.ok) (o n : Int) : callFn T (d + 5) false 4 [.ref b, dR o n] σ = checked σ (errRef us o n) := by
  show _ = checked σ (errR1 n (atI us o))
  cases ho : atI us o with
  | none => exact zAV HT.b4 rfl (zDv HT B rfl rfl (atI_map ho))
  | some u =>
    obtain ⟨o, rfl, hu⟩ := zAO ho
    exact end_check HT (zBd HT B rfl rfl (zEX hu) (s_f rfl (s_f rfl (zEm rfl rfl rfl rfl B.isInst (b_mostR HT B hok hu)))))
theorem b_checkM (HT : BookTab T t) (B : BookIn σ b e h (us.map Or.v) hs) (hok : ∀ u ∈ us, u.ok) (o p n : Int) : callFn T (d + 5) false 4 [.ref b, dM o p n] σ = checked σ (errMov us o p n) := by
  show _ = checked σ (errM1 us o p n (atI us o))
  cases ho : atI us o with
  | none => exact zAV HT.b4 rfl (zDv HT B rfl rfl (atI_map ho))
  | some u =>
    obtain ⟨o, rfl, hu⟩ := zAO ho
    show _ = checked σ (errM2 u o p n (atI us p))
    cases hp : atI us p with
    | none => exact zAV HT.b4 rfl (zBd HT B rfl rfl (zEX hu) (s_t rfl (zDv HT B rfl rfl (atI_map hp))))
    | some u' =>
      obtain ⟨p, rfl, hu'⟩ := zAO hp
      show _ = checked σ (if (o : Int) == p then some .SameOrder else errN n (0 - u.owed))
      have pre : ∀ {r : R Fl}, exL (callFn T (d + 4) false) (callFn T (d + 4) true) false (.ite (.p2 .eq (.p2 .index (.var 1) (.lit (.int 1))) (.p2 .index (.var 1) (.lit (.int 2)))) [.raise .SameOrder] [] :: fB_4.body.drop 2) [.ref b, dM o p n] σ = r → exL (callFn T (d + 4) false) (callFn T (d + 4) true) false fB_4.body [.ref b, dM o p n] σ = r := fun k =>
        zBd HT B rfl rfl (zEX hu) (s_t rfl (zBd HT B rfl rfl (zEX hu') k))
      cases hop : ((o : Int) == p) with
      | true => exact zAV HT.b4 rfl (pre (s_t (zAC (e_p2 rfl rfl (show ev2 .eq σ (.int o) (.int p) = _ by rw [zBM, hop]))) rfl))
      | false => exact end_check HT (pre (s_f (zAC (e_p2 rfl rfl (show ev2 .eq σ (.int o) (.int p) = _ by rw [zBM, hop]))) (s_f rfl (zEm rfl rfl rfl rfl B.isInst (b_mostM HT B hok hu)))))
end
end Mine
end

/-! # BkG -/
section
set_option autoImplicit false
namespace Mine
open PySem
section
variable {T : Nat → Option Fn} {t : Bool} {F Fq : Calls} {d : Nat} {q : Bool} {σ : Sto} {b e h : Nat} {us : List Or} {hs : List V} {ρ : List V} {o p : Nat} {n : Int} {u u' : Or}
theorem e_old (B : BookIn σ b e h (us.map Or.v) hs) (h0 : readVar ρ 0 = some (.ref b)) {c : CE} (hc : ∀ σ, evE F q c ρ σ = .ok (.int o) σ) (hu : us[o]? = some u) :
    evE F q (.dict1 c (.p2 .index (.attr (.var 0) 0) c)) ρ σ = .ok (.ref σ.length) (σ ++ [.dict [((o : Int), u.v)]]) := by
  rw [x_dict1, hc, R.bind_ok, zBI (B.push (.dict [])) h0 (hc _) (zBu hu), R.bind_ok]
  show dict1O σ.length (σ ++ [.dict []]) o u.v (σ ++ [.dict []])[σ.length]? = _
  rw [zAZ]
  show R.ok (V.ref σ.length) ((σ ++ [O.dict []]).set σ.length (O.dict [((o : Int), u.v)])) = _
  rw [zCF]
theorem s_note {σ₀ : Sto} {old : List (Int × V)} {deed : V} {rest : List CS} {r : R Fl} (B : BookIn (σ₀ ++ [.dict old]) b e h (us.map Or.v) hs) (h0 : readVar ρ 0 = some (.ref b)) (h1 : readVar ρ 1 = some deed) (h4 : readVar ρ 4 = some (.ref σ₀.length)) (hh : hs.length < LIM)
    (k : exL F Fq q rest ρ (noted σ₀ h hs deed old) = r) : exL F Fq q (.exp (.append (.attr (.var 0) 1) (.tup [.var 1, .var 4])) :: rest) ρ (σ₀ ++ [.dict old]) = r :=
  s_exp (zAj (e_his B h0) (by show (listR _).isSome = true; rw [B.his]; rfl) (e_tup (zAB (by rw [x_var, h1]; rfl) (zAB (by rw [x_var, h4]; rfl) rfl))) (zAX _ B.his hh)) k
theorem b_changeP (HT : BookTab T t) (B : BookIn σ b e h (us.map Or.v) hs) (hu : us[o]? = some u) (hr : u.rows.length < LIM) (hh : hs.length < LIM) :
    callFn T (d + 2) false 6 [.ref b, dP o n] σ = .ok (rv t ((noted σ h hs (dP o n) [((o : Int), u.v)]).set e (.list ((us.set o (payOr u sPay n)).map Or.v))) [.tup [.int o, .int (0 - n)]]) (rs t ((noted σ h hs (dP o n) [((o : Int), u.v)]).set e (.list ((us.set o (payOr u sPay n)).map Or.v))) [.tup [.int o, .int (0 - n)]]) := by
  have B2 := B.push (.dict [((o : Int), u.v)])
  have B3 : BookIn (noted σ h hs (dP o n) [((o : Int), u.v)]) b e h (us.map Or.v) (hs ++ [.tup [dP o n, .ref σ.length]]) := B2.setH _
  exact zAD HT.b6 rfl (s_asg (v := .str sPay) rfl (s_asg (v := .int n) rfl (s_asg (e_old B rfl (fun _ => rfl) hu) (s_f rfl (s_note B2 rfl rfl rfl hh (s_f rfl (s_t rfl (s_ret (e_res (zAB (zAL rfl B3.isInst rfl (b_payin HT B3 hu sPay n hr)) rfl)))))))))) 
theorem b_changeR (HT : BookTab T t) (B : BookIn σ b e h (us.map Or.v) hs) (hu : us[o]? = some u) (hr : u.rows.length < LIM) (hh : hs.length < LIM) :
    callFn T (d + 2) false 6 [.ref b, dR o n] σ = .ok (rv t ((noted σ h hs (dR o n) [((o : Int), u.v)]).set e (.list ((us.set o (payOr u sRef (0 - n))).map Or.v))) [.tup [.int o, .int (0 - (0 - n))]]) (rs t ((noted σ h hs (dR o n) [((o : Int), u.v)]).set e (.list ((us.set o (payOr u sRef (0 - n))).map Or.v))) [.tup [.int o, .int (0 - (0 - n))]]) := by
  have B2 := B.push (.dict [((o : Int), u.v)])
  have B3 : BookIn (noted σ h hs (dR o n) [((o : Int), u.v)]) b e h (us.map Or.v) (hs ++ [.tup [dR o n, .ref σ.length]]) := B2.setH _
  exact zAD HT.b6 rfl (s_asg (v := .str sRef) rfl (s_asg (v := .int n) rfl (s_asg (e_old B rfl (fun _ => rfl) hu) (s_f rfl (s_note B2 rfl rfl rfl hh (s_f rfl (s_f rfl (s_t rfl (s_ret (e_res (zAB (zAL rfl B3.isInst rfl (b_payin HT B3 hu sRef (0 - n) hr)) rfl))))))))))) 
noncomputable def movOr (us : List Or) (o p : Nat) (u u' : Or) (n : Int) : List Or := (us.set o (payOr u sMove (0 - n))).set p (payOr u' sMove n)
theorem set_twice {σ : Sto} {i : Nat} {x y : O} : (σ.set i x).set i y = σ.set i y := List.set_set ..
theorem b_changeM (HT : BookTab T t) (B : BookIn σ b e h (us.map Or.v) hs) (hu : us[o]? = some u) (hu' : us[p]? = some u') (hop : o ≠ p) (hr : u.rows.length < LIM) (hr' : u'.rows.length < LIM) (hh : hs.length < LIM) :
    callFn T (d + 2) false 6 [.ref b, dM o p n] σ = .ok (rv t ((noted σ h hs (dM o p n) [((o : Int), u.v), ((p : Int), u'.v)]).set e (.list ((movOr us o p u u' n).map Or.v))) [.tup [.int o, .int (0 - (0 - n))], .tup [.int p, .int (0 - n)]]) (rs t ((noted σ h hs (dM o p n) [((o : Int), u.v), ((p : Int), u'.v)]).set e (.list ((movOr us o p u u' n).map Or.v))) [.tup [.int o, .int (0 - (0 - n))], .tup [.int p, .int (0 - n)]]) := by
  have B1 := B.push (.dict [((o : Int), u.v)])
  have B2 := B.push (.dict [((o : Int), u.v), ((p : Int), u'.v)])
  have B3 : BookIn (noted σ h hs (dM o p n) [((o : Int), u.v), ((p : Int), u'.v)]) b e h (us.map Or.v) (hs ++ [.tup [dM o p n, .ref σ.length]]) := B2.setH _
  have B4 := B3.setE ((us.set o (payOr u sMove (0 - n))).map Or.v)
  have hp2 : (us.set o (payOr u sMove (0 - n)))[p]? = some u' := by rw [List.getElem?_set_ne hop]; exact hu'
  refine zAD HT.b6 rfl (s_asg (v := .str sMove) rfl (s_asg (v := .int n) rfl (s_asg (e_old B rfl (fun _ => rfl) hu) (s_t rfl ?_))))
  refine zBC (σ' := σ ++ [.dict [((o : Int), u.v), ((p : Int), u'.v)]]) (zBI B1 rfl rfl (zBu hu')) rfl rfl ?_ ?_
  · show setObj (σ ++ [.dict [((o : Int), u.v)]]) σ.length p u'.v (σ ++ [.dict [((o : Int), u.v)]])[σ.length]? = _
    rw [zAZ]
    show (if 1 < LIM then R.ok () ((σ ++ [O.dict [((o : Int), u.v)]]).set σ.length (.dict (setDict [((o : Int), u.v)] p u'.v))) else .stuck) = _
    rw [if_pos (by decide), zCF]
    have hne : ((o : Int) == (p : Int)) = false := by rw [beq_eq_false_iff_ne]; omega
    unfold setDict
    rw [show ([((o : Int), u.v)].any fun q => q.1 == (p : Int)) = false by show (((o : Int) == (p : Int)) || false) = false; rw [hne]; rfl]
    rfl
  · refine s_note B2 rfl rfl rfl hh (s_t rfl (s_ret (e_res (zAB (zAL rfl B3.isInst rfl (b_payin HT B3 hu sMove (0 - n) hr)) (zAB (zAL rfl B4.isInst rfl ?_) rfl)))))
    rw [b_payin HT B4 hp2 sMove n hr', set_twice]; rfl
theorem do_preP {F Fq : Calls} {o n : Int} {r : R Fl} (kk : exL F Fq false (fB_2.body.drop 2) [.ref b, dP o n] σ = r) : exL F Fq false fB_2.body [.ref b, dP o n] σ = r := s_f rfl (s_f rfl kk)
theorem do_preR {F Fq : Calls} {o n : Int} {r : R Fl} (kk : exL F Fq false (fB_2.body.drop 2) [.ref b, dR o n] σ = r) : exL F Fq false fB_2.body [.ref b, dR o n] σ = r := s_f rfl (s_f rfl kk)
theorem do_preM {F Fq : Calls} {o p n : Int} {r : R Fl} (kk : exL F Fq false (fB_2.body.drop 2) [.ref b, dM o p n] σ = r) : exL F Fq false fB_2.body [.ref b, dM o p n] σ = r := s_f rfl (s_f rfl kk)
theorem b_doPX (HT : BookTab T t) (B : BookIn σ b e h (us.map Or.v) hs) {o n : Int} {c : Cls} (he : errPay us o n = some c) : callFn T (d + 3) false 2 [.ref b, dP o n] σ = .exc c σ :=
  zAV HT.b2 rfl (do_preP (s_expX (zAL rfl B.isInst rfl (by rw [b_checkP HT B, he]; rfl))))
theorem b_doRX (HT : BookTab T t) (B : BookIn σ b e h (us.map Or.v) hs) (hok : ∀ u ∈ us, u.ok) {o n : Int} {c : Cls} (he : errRef us o n = some c) : callFn T (d + 6) false 2 [.ref b, dR o n] σ = .exc c σ :=
  zAV HT.b2 rfl (do_preR (s_expX (zAL rfl B.isInst rfl (by rw [b_checkR HT B hok, he]; rfl))))
theorem b_doMX (HT : BookTab T t) (B : BookIn σ b e h (us.map Or.v) hs) (hok : ∀ u ∈ us, u.ok) {o p n : Int} {c : Cls} (he : errMov us o p n = some c) : callFn T (d + 6) false 2 [.ref b, dM o p n] σ = .exc c σ :=
  zAV HT.b2 rfl (do_preM (s_expX (zAL rfl B.isInst rfl (by rw [b_checkM HT B hok, he]; rfl))))
theorem b_doPT (HT : BookTab T t) (B : BookIn σ b e h (us.map Or.v) hs) (he : errPay us o n = none) (hu : us[o]? = some u) (hr : u.rows.length < LIM) (hh : hs.length < LIM) :
    callFn T (d + 3) false 2 [.ref b, dP o n] σ = .ok (rv t ((noted σ h hs (dP o n) [((o : Int), u.v)]).set e (.list ((us.set o (payOr u sPay n)).map Or.v))) [.tup [.int o, .int (0 - n)]]) (rs t ((noted σ h hs (dP o n) [((o : Int), u.v)]).set e (.list ((us.set o (payOr u sPay n)).map Or.v))) [.tup [.int o, .int (0 - n)]]) :=
  zAD HT.b2 rfl (do_preP (s_exp (zAL rfl B.isInst rfl ((b_checkP HT B o n).trans (by rw [he]; rfl))) (s_ret (zAL rfl B.isInst rfl (b_changeP HT B hu hr hh)))))
theorem b_doRT (HT : BookTab T t) (B : BookIn σ b e h (us.map Or.v) hs) (hok : ∀ u ∈ us, u.ok) (he : errRef us o n = none) (hu : us[o]? = some u) (hr : u.rows.length < LIM) (hh : hs.length < LIM) :
    callFn T (d + 6) false 2 [.ref b, dR o n] σ = .ok (rv t ((noted σ h hs (dR o n) [((o : Int), u.v)]).set e (.list ((us.set o (payOr u sRef (0 - n))).map Or.v))) [.tup [.int o, .int (0 - (0 - n))]]) (rs t ((noted σ h hs (dR o n) [((o : Int), u.v)]).set e (.list ((us.set o (payOr u sRef (0 - n))).map Or.v))) [.tup [.int o, .int (0 - (0 - n))]]) :=
  zAD HT.b2 rfl (do_preR (s_exp (zAL rfl B.isInst rfl ((b_checkR HT B hok o n).trans (by rw [he]; rfl))) (s_ret (zAL rfl B.isInst rfl (b_changeR HT B hu hr hh)))))
theorem b_doMT (HT : BookTab T t) (B : BookIn σ b e h (us.map Or.v) hs) (hok : ∀ u ∈ us, u.ok) (he : errMov us o p n = none) (hu : us[o]? = some u) (hu' : us[p]? = some u') (hop : o ≠ p) (hr : u.rows.length < LIM) (hr' : u'.rows.length < LIM) (hh : hs.length < LIM) :
    callFn T (d + 6) false 2 [.ref b, dM o p n] σ = .ok (rv t ((noted σ h hs (dM o p n) [((o : Int), u.v), ((p : Int), u'.v)]).set e (.list ((movOr us o p u u' n).map Or.v))) [.tup [.int o, .int (0 - (0 - n))], .tup [.int p, .int (0 - n)]]) (rs t ((noted σ h hs (dM o p n) [((o : Int), u.v), ((p : Int), u'.v)]).set e (.list ((movOr us o p u u' n).map Or.v))) [.tup [.int o, .int (0 - (0 - n))], .tup [.int p, .int (0 - n)]]) :=
  zAD HT.b2 rfl (do_preM (s_exp (zAL rfl B.isInst rfl ((b_checkM HT B hok o p n).trans (by rw [he]; rfl))) (s_ret (zAL rfl B.isInst rfl (b_changeM HT B hu hu' hop hr hr' hh)))))
end
end Mine
end

/-! # PG -/
section
set_option autoImplicit false
namespace Mine
open PySem
noncomputable def gWhole : Fn := { params := 1, slots := 1, body := [CS.ret (CE.and (CE.p1 (P1.isInst Kd.int) (CE.var 0)) (CE.p1 P1.not (CE.p1 (P1.isInst Kd.bool) (CE.var 0))))] }
noncomputable def gPlace : Fn := { params := 3, slots := 4, body := [CS.asg 3 (CE.p2 P2.mod (CE.p2 P2.mod (CE.p2 P2.mul (CE.var 0) (CE.lit (V.int 48271))) (CE.var 1)) (CE.lit (V.int 11))),CS.ite (CE.p2 P2.eq (CE.var 3) (CE.lit (V.int 0))) [CS.ret (CE.p2 P2.sub (CE.p1 P1.neg (CE.lit (V.int 1))) (CE.p2 P2.mod (CE.var 0) (CE.lit (V.int 3))))] [],CS.ite (CE.p2 P2.eq (CE.var 3) (CE.lit (V.int 1))) [CS.ret (CE.p2 P2.add (CE.var 2) (CE.p2 P2.mod (CE.var 0) (CE.lit (V.int 2))))] [],CS.ret (CE.p2 P2.mod (CE.p2 P2.mod (CE.p2 P2.mul (CE.var 0) (CE.lit (V.int 48271))) (CE.p2 P2.add (CE.var 1) (CE.lit (V.int 2)))) (CE.p2 P2.max (CE.lit (V.int 1)) (CE.var 2)))] }
noncomputable def gNumber : Fn := { params := 2, slots := 3, body := [CS.asg 2 (CE.p2 P2.mod (CE.p2 P2.mod (CE.p2 P2.mul (CE.var 0) (CE.lit (V.int 48271))) (CE.lit (V.int 10061))) (CE.lit (V.int 8))),CS.ite (CE.p2 P2.eq (CE.var 2) (CE.lit (V.int 0))) [CS.ret (CE.p1 P1.neg (CE.p2 P2.mod (CE.var 0) (CE.lit (V.int 3))))] [],CS.ite (CE.p2 P2.eq (CE.var 2) (CE.lit (V.int 1))) [CS.ret (CE.p2 P2.add (CE.var 1) (CE.lit (V.int 1)))] [],CS.ite (CE.or (CE.p2 P2.eq (CE.var 2) (CE.lit (V.int 2))) (CE.p2 P2.eq (CE.var 2) (CE.lit (V.int 3)))) [CS.ret (CE.var 1)] [],CS.ite (CE.p2 P2.eq (CE.var 2) (CE.lit (V.int 4))) [CS.ret (CE.p2 P2.add (CE.lit (V.int 1)) (CE.p2 P2.mod (CE.var 0) (CE.p2 P2.pow (CE.lit (V.int 10)) (CE.lit (V.int 13)))))] [],CS.ret (CE.p2 P2.add (CE.lit (V.int 1)) (CE.p2 P2.mod (CE.var 0) (CE.p2 P2.max (CE.lit (V.int 1)) (CE.var 1))))] }
noncomputable def gItem : Fn := { params := 1, slots := 2, body := [CS.asg 1 (CE.lit (V.str { cps := #[97,98,99,100,101,102,103,104,105,106,107,108,109,110,111,112,113,114,115,116,117,118,119,120,121,122] })),CS.ret (CE.sm P2.join (CE.lit (V.str { cps := #[] })) (CE.comp (CE.p2 P2.index (CE.var 1) (CE.p2 P2.mod (CE.p2 P2.add (CE.p2 P2.add (CE.p2 P2.fdiv (CE.var 0) (CE.lit (V.int 26))) (CE.p2 P2.mul (CE.lit (V.int 7)) (CE.var 2))) (CE.var 0)) (CE.lit (V.int 26)))) SK.range1 [CE.p2 P2.add (CE.lit (V.int 1)) (CE.p2 P2.mod (CE.p2 P2.mod (CE.p2 P2.mul (CE.var 0) (CE.lit (V.int 48271))) (CE.lit (V.int 10079))) (CE.lit (V.int 12)))] none))] }
noncomputable def gHanded : Fn := { params := 1, slots := 1, body := [CS.ite (CE.p2 P2.eq (CE.p2 P2.index (CE.var 0) (CE.lit (V.int 0))) (CE.lit (V.str { cps := #[111,114,100,101,114] }))) [CS.ret (CE.tup [CE.lit (V.str { cps := #[111,114,100,101,114] }),CE.p1 P1.toList (CE.p2 P2.index (CE.var 0) (CE.lit (V.int 1)))])] [],CS.ret (CE.var 0)] }
noncomputable def gTried : Fn := { params := 2, slots := 2, body := [CS.try TK.ret (CE.callm 2 (CE.var 0) [CE.var 1]) [{ cls := Cls.NoDeed, as := none, tk := TK.ret, e := CE.lit (V.str { cps := #[78,111,68,101,101,100] }) }, { cls := Cls.NoLines, as := none, tk := TK.ret, e := CE.lit (V.str { cps := #[78,111,76,105,110,101,115] }) }, { cls := Cls.NoItem, as := none, tk := TK.ret, e := CE.lit (V.str { cps := #[78,111,73,116,101,109] }) }, { cls := Cls.NoNumber, as := none, tk := TK.ret, e := CE.lit (V.str { cps := #[78,111,78,117,109,98,101,114] }) }, { cls := Cls.FullBook, as := none, tk := TK.ret, e := CE.lit (V.str { cps := #[70,117,108,108,66,111,111,107] }) }, { cls := Cls.NoOrder, as := none, tk := TK.ret, e := CE.lit (V.str { cps := #[78,111,79,114,100,101,114] }) }, { cls := Cls.SameOrder, as := none, tk := TK.ret, e := CE.lit (V.str { cps := #[83,97,109,101,79,114,100,101,114] }) }, { cls := Cls.NoLine, as := none, tk := TK.ret, e := CE.lit (V.str { cps := #[78,111,76,105,110,101] }) }, { cls := Cls.TooMuch, as := none, tk := TK.ret, e := CE.lit (V.str { cps := #[84,111,111,77,117,99,104] }) }]] }
noncomputable def gLines (it : Nat) : Fn := { params := 1, slots := 6, body := [CS.asg 1 (CE.trk (CE.list [])),CS.asg 2 (CE.p2 P2.add (CE.lit (V.int 1)) (CE.p2 P2.mod (CE.p2 P2.mod (CE.p2 P2.mul (CE.var 0) (CE.lit (V.int 48271))) (CE.lit (V.int 10067))) (CE.lit (V.int 3)))),CS.ite (CE.p2 P2.eq (CE.p2 P2.mod (CE.p2 P2.mod (CE.p2 P2.mul (CE.var 0) (CE.lit (V.int 48271))) (CE.lit (V.int 10111))) (CE.lit (V.int 9))) (CE.lit (V.int 1))) [CS.asg 2 (CE.p2 P2.add (CE.lit (V.int 1)) (CE.p2 P2.mod (CE.var 0) (CE.lit (V.int 20))))] [],CS.for 3 SK.range1 [CE.var 2] [CS.asg 4 (CE.p2 P2.add (CE.p2 P2.fdiv (CE.var 0) (CE.p2 P2.add (CE.var 3) (CE.lit (V.int 1)))) (CE.p2 P2.mul (CE.lit (V.int 5)) (CE.var 3))),CS.asg 5 (CE.call it [CE.var 4]),CS.ite (CE.p2 P2.eq (CE.p2 P2.mod (CE.p2 P2.mod (CE.p2 P2.mul (CE.var 0) (CE.lit (V.int 48271))) (CE.lit (V.int 10141))) (CE.lit (V.int 3))) (CE.lit (V.int 0))) [CS.asg 5 (CE.call it [CE.p2 P2.fdiv (CE.var 0) (CE.lit (V.int 7))])] [],CS.ite (CE.p2 P2.eq (CE.p2 P2.mod (CE.p2 P2.mod (CE.p2 P2.mul (CE.var 0) (CE.lit (V.int 48271))) (CE.lit (V.int 10069))) (CE.lit (V.int 5))) (CE.lit (V.int 1))) [CS.exp (CE.append (CE.var 1) (CE.tup [CE.var 5,CE.p2 P2.add (CE.lit (V.int 1)) (CE.p2 P2.mod (CE.var 4) (CE.lit (V.int 1000000))),CE.p2 P2.mod (CE.p2 P2.mul (CE.var 4) (CE.lit (V.int 48271))) (CE.lit (V.int 1000000001)),CE.p2 P2.add (CE.lit (V.int 1)) (CE.p2 P2.mod (CE.var 4) (CE.lit (V.int 1000)))]))] [CS.exp (CE.append (CE.var 1) (CE.tup [CE.var 5,CE.p2 P2.add (CE.lit (V.int 1)) (CE.p2 P2.mod (CE.var 4) (CE.lit (V.int 9))),CE.p2 P2.mod (CE.p2 P2.mod (CE.p2 P2.mul (CE.var 4) (CE.lit (V.int 48271))) (CE.lit (V.int 10091))) (CE.lit (V.int 200)),CE.p2 P2.add (CE.lit (V.int 1)) (CE.p2 P2.mod (CE.p2 P2.fdiv (CE.var 4) (CE.lit (V.int 9))) (CE.lit (V.int 4)))]))]],CS.ret (CE.var 1)] }
end Mine
end

/-! # GA -/
section
set_option autoImplicit false
namespace Mine
open PySem
theorem zBT (a : Int) {m : Int} (h : 0 < m) : 0 ≤ a.fmod m ∧ a.fmod m < m := ⟨Int.fmod_nonneg_of_pos a h, Int.fmod_lt_of_pos a h⟩
theorem zDp (a : Int) {m : Nat} (h : 0 < m) : ∃ k : Nat, a.fmod (m : Int) = k ∧ k < m := by
  obtain ⟨h1, h2⟩ := zBT a (m := (m : Int)) (Int.natCast_pos.mpr h)
  exact ⟨(a.fmod (m : Int)).toNat, (Int.toNat_of_nonneg h1).symm, (Int.toNat_lt h1).mpr h2⟩
theorem one_fmod (a : Int) {m : Nat} (hm : 0 < m) : ∃ n : Nat, 1 + a.fmod (m : Int) = (n : Int) ∧ 1 ≤ n ∧ n ≤ m := by
  obtain ⟨z, hz, hlt⟩ := zDp a hm
  exact ⟨1 + z, by rw [hz]; rfl, Nat.le_add_right 1 z, Nat.add_comm 1 z ▸ hlt⟩
section
variable {F Fq : Calls} {q : Bool} {ρ : List V} {σ : Sto}
noncomputable def GR (F Fq : Calls) (q : Bool) (ss : List CS) (ρ : List V) (σ : Sto) : Prop := ∃ n : Int, exL F Fq q ss ρ σ = .ok (.ret (.int n)) σ
noncomputable def GI (F : Calls) (q : Bool) (e : CE) (ρ : List V) (σ : Sto) : Prop := ∃ n : Int, evE F q e ρ σ = .ok (.int n) σ
theorem gr_ret {e : CE} {rest : List CS} (h : GI F q e ρ σ) : GR F Fq q (.ret e :: rest) ρ σ := by
  obtain ⟨n, h⟩ := h; exact ⟨n, s_ret h⟩
theorem gr_if {c e : CE} {rest : List CS} {t : Bool} (hc : evC F q (some c) ρ σ = .ok t σ) (h1 : t = true → GI F q e ρ σ) (h2 : t = false → GR F Fq q rest ρ σ) : GR F Fq q (.ite c [.ret e] [] :: rest) ρ σ := by
  cases t with
  | true => obtain ⟨n, h⟩ := h1 rfl; exact ⟨n, s_t hc (s_ret h)⟩
  | false => obtain ⟨n, h⟩ := h2 rfl; exact ⟨n, s_f hc h⟩
theorem gr_asg {e : CE} {i : Nat} {v : V} {rest : List CS} (h : evE F q e ρ σ = .ok v σ) (k : GR F Fq q rest (ρ.set i v) σ) : GR F Fq q (.asg i e :: rest) ρ σ := by
  obtain ⟨n, k⟩ := k; exact ⟨n, s_asg h k⟩
theorem gr_call {T : Nat → Option Fn} {d k : Nat} {fn : Fn} {args : List V} (h : T k = some fn) (hl : args.length = fn.params) (hx : GR (callFn T d q) (callFn T d true) q fn.body (args ++ List.replicate (fn.slots - fn.params) .undef) σ) : ∃ n : Int, callFn T (d + 1) q k args σ = .ok (.int n) σ := by
  obtain ⟨n, hx⟩ := hx; exact ⟨n, zAD h hl hx⟩
theorem e_or {a b : CE} {s t : Bool} (ha : evE F q a ρ σ = .ok (.bool s) σ) (hb : evE F q b ρ σ = .ok (.bool t) σ) : evE F q (.or a b) ρ σ = .ok (.bool (s || t)) σ := by
  cases s with
  | true => exact e_or_t ha rfl
  | false => exact zAW ha rfl hb
theorem zAy {a b m : CE} {c p z : Int} (ha : evE F q a ρ σ = .ok (.int c) σ) (hb : evE F q b ρ σ = .ok (.int p) σ) (hm : evE F q m ρ σ = .ok (.int z) σ) (hp : (p == 0) = false) (hz : (z == 0) = false) : evE F q (.p2 .mod (.p2 .mod (.p2 .mul a (.lit (.int 48271))) b) m) ρ σ = .ok (.int (((c * 48271).fmod p).fmod z)) σ :=
  e_p2 (e_p2 (e_p2 ha rfl (zAh σ c 48271 (.inr rfl))) hb (zBU σ _ p hp)) hm (zBU σ _ z hz)
theorem max_ne (m : Int) : ((if m > 1 then m else 1) == 0) = false := by rw [beq_eq_false_iff_ne]; split <;> omega
end
section
variable {T : Nat → Option Fn} {d k : Nat} {q : Bool} {σ : Sto}
theorem g_whole (h : T k = some gWhole) (i : Int) : callFn T (d + 1) q k [.int i] σ = .ok (.bool true) σ := zAD h rfl (s_ret rfl)
theorem g_place (h : T k = some gPlace) (c p sz : Int) (hp : (p == 0) = false) (hp2 : (p + 2 == 0) = false) : ∃ n : Int, callFn T (d + 1) false k [.int c, .int p, .int sz] σ = .ok (.int n) σ :=
  gr_call h rfl (gr_asg (zAy rfl rfl rfl hp rfl) (gr_if (zAC rfl) (fun _ => ⟨_, e_p2 rfl (e_p2 rfl rfl rfl) rfl⟩) fun _ => gr_if (zAC rfl) (fun _ => ⟨_, e_p2 rfl (e_p2 rfl rfl rfl) rfl⟩) fun _ =>
    gr_ret ⟨_, e_p2 (e_p2 (e_p2 rfl rfl (zAh σ c 48271 (.inr rfl))) rfl (zBU σ _ (p + 2) hp2)) (e_p2 rfl rfl (ev2_max σ 1 sz)) (zBU σ _ _ (max_ne sz))⟩))
theorem g_number (h : T k = some gNumber) (c m : Int) : ∃ n : Int, callFn T (d + 1) false k [.int c, .int m] σ = .ok (.int n) σ :=
  gr_call h rfl (gr_asg (zAy rfl rfl rfl rfl rfl) (gr_if (zAC rfl) (fun _ => ⟨_, e_p1 (e_p2 rfl rfl rfl) rfl⟩) fun _ => gr_if (zAC rfl) (fun _ => ⟨_, e_p2 rfl rfl rfl⟩) fun _ =>
    gr_if (zAC (e_or rfl rfl)) (fun _ => ⟨_, rfl⟩) fun _ => gr_if (zAC rfl) (fun _ => ⟨_, e_p2 rfl (e_p2 rfl (e_p2 rfl rfl (ev2_pow σ 13 (by decide))) (zBU σ _ _ (by decide))) rfl⟩) fun _ =>
    gr_ret ⟨_, e_p2 rfl (e_p2 rfl (e_p2 rfl rfl (ev2_max σ 1 m)) (zBU σ _ _ (max_ne m))) rfl⟩))
theorem join_one : ∀ cs : List Nat, Str.join (mkS []) (cs.map fun c => mkS [c]) = mkS cs
  | [] => rfl
  | [c] => rfl
  | c :: c' :: r => by
    show mkS [c] ++ mkS [] ++ Str.join (mkS []) ((c' :: r).map fun c => mkS [c]) = _
    rw [join_one (c' :: r)]
    show (⟨(mkS [c]).cps ++ (mkS []).cps ++ (mkS (c' :: r)).cps⟩ : Str) = _
    simp [mkS]
theorem strs_one : ∀ cs : List Nat, strs? (cs.map fun c => V.str (mkS [c])) = some (cs.map fun c => mkS [c])
  | [] => rfl
  | c :: r => by
    have := strs_one r
    unfold strs? at this ⊢
    rw [List.map_cons, List.mapM_cons, this]; rfl
theorem len_one : ∀ cs : List Nat, ((cs.map fun c => mkS [c]).map fun x : Str => x.length).sum = cs.length
  | [] => rfl
  | c :: r => by
    rw [List.map_cons, List.map_cons, List.sum_cons, len_one r, List.length_cons]
    exact Nat.add_comm 1 _
theorem join_at {cs : List Nat} (h : cs.length ≤ 100000) : ev2 .join σ (.str (mkS [])) (.lst (cs.map fun c => .str (mkS [c]))) = some (.str (mkS cs)) := by
  show ((strs? (cs.map fun c => V.str (mkS [c]))).bind fun l => if (l.map (·.length)).sum + l.length * (mkS []).length ≤ 100000 then some (V.str (Txt.join (mkS []) l)) else none) = _
  rw [strs_one]
  show (if ((cs.map fun c => mkS [c]).map fun x : Str => x.length).sum + (cs.map fun c => mkS [c]).length * 0 ≤ 100000 then some (V.str (Txt.join (mkS []) (cs.map fun c => mkS [c]))) else none) = _
  rw [len_one, Nat.mul_zero, Nat.add_zero, if_pos h]
  show some (V.str (Builtin.Str.glued (mkS []) (cs.map fun c => mkS [c]))) = _
  rw [StrLaws.glued_eq_join, join_one]
noncomputable def letterAt (j : Nat) : Nat := (codes letters).getD j 97
theorem letterAt_ok {j : Nat} (h : j < 26) : letterOk (letterAt j) = true ∧ letterAt j < 128 := by
  have : ∀ j : Fin 26, letterOk (letterAt j) = true ∧ letterAt j < 128 := by decide
  exact this ⟨j, h⟩
theorem letter_at {j : Nat} (h : j < 26) : ev2 .index σ (.str letters) (.int (j : Int)) = some (.str (mkS [letterAt j])) := by
  show ((normIndex 26 (j : Int)).bind fun k => (codes letters)[k]?.map fun c => V.str (mkS [c])) = _
  rw [zBG h]
  show ((codes letters)[j]?.map fun c => V.str (mkS [c])) = _
  have : j < (codes letters).length := h
  rw [List.getElem?_eq_getElem this]
  unfold letterAt
  rw [List.getD_eq_getElem?_getD, List.getElem?_eq_getElem this]; rfl
theorem item_good {cs : List Nat} (h1 : 1 ≤ cs.length) (h2 : cs.length ≤ 12) (h : ∀ c ∈ cs, letterOk c = true ∧ c < 128) : itemOk (mkS cs) = true ∧ (mkS cs).cps.all (· < 128) = true := by
  have hl : (mkS cs).length = cs.length := by simp [mkS, Str.length]
  have hc : codes (mkS cs) = cs := by simp [codes, mkS]
  refine ⟨?_, ?_⟩
  · unfold itemOk
    rw [hl, hc, decide_eq_true h1, decide_eq_true h2, List.all_eq_true.mpr fun c hm => (h c hm).1]; rfl
  · show cs.toArray.all _ = true
    rw [List.all_toArray, List.all_eq_true]
    intro c hm
    exact decide_eq_true (h c hm).2
noncomputable def itemIx (c : Int) (k : Nat) : Nat := ((c.fdiv 26 + 7 * (k : Int) + c).fmod 26).toNat
theorem itemIx_lt (c : Int) (k : Nat) : itemIx c k < 26 := by
  obtain ⟨h1, h2⟩ := zBT (c.fdiv 26 + 7 * (k : Int) + c) (m := 26) (by decide)
  exact (Int.toNat_lt h1).mpr h2
theorem g_item (h : T k = some gItem) (c : Int) : ∃ s : Str, itemOk s = true ∧ s.cps.all (· < 128) = true ∧ callFn T (d + 1) false k [.int c] σ = .ok (.str s) σ := by
  obtain ⟨n, hn, h1, h2⟩ := one_fmod ((c * 48271).fmod 10079) (m := 12) (by decide)
  have hn : 1 + ((c * 48271).fmod 10079).fmod 12 = (n : Int) := hn
  have hcs : ∀ x ∈ (List.range n).map fun j => letterAt (itemIx c j), letterOk x = true ∧ x < 128 := fun x hx => by
    obtain ⟨j, _, rfl⟩ := List.mem_map.mp hx
    exact letterAt_ok (itemIx_lt c j)
  have hlen : ((List.range n).map fun j => letterAt (itemIx c j)).length = n := by rw [List.length_map, List.length_range]
  obtain ⟨g1, g2⟩ := item_good (hlen.symm ▸ h1) (hlen.symm ▸ h2) hcs
  refine ⟨_, g1, g2, zAD h rfl (s_asg (v := .str letters) rfl (s_ret ?_))⟩
  have e := zBn (F := callFn T d false) (elt := .p2 .index (.var 1) (.p2 .mod (.p2 .add (.p2 .add (.p2 .fdiv (.var 0) (.lit (.int 26))) (.p2 .mul (.lit (.int 7)) (.var 2))) (.var 0)) (.lit (.int 26)))) (k := .range1)
    (src := [.p2 .add (.lit (.int 1)) (.p2 .mod (.p2 .mod (.p2 .mul (.var 0) (.lit (.int 48271))) (.lit (.int 10079))) (.lit (.int 12)))]) (cond := none) (ρ := [.int c, .str letters]) (vs := [.int n]) (σ := σ) (σ₁ := σ) (it := .now (rangeL 0 n)) (l := List.range n) (φ := fun j : Nat => .int (0 + (j : Int))) (fun _ => true) (fun j => .str (mkS [letterAt (itemIx c j)]))
    (zAB (by rw [e_p2 rfl (zAy (c := c) (p := 10079) (z := 12) rfl rfl rfl rfl rfl) rfl, hn]) rfl) (zAS σ (by show n ≤ LIM; exact Nat.le_trans h2 (by decide)))
    (.inl (by unfold rangeL; rw [Int.sub_zero, Int.toNat_natCast])) (by rw [List.length_range]; exact Nat.lt_of_le_of_lt h2 (by decide)) (fun _ _ => rfl) fun j hj _ => by
      rw [Int.zero_add]
      refine e_p2 rfl (e_p2 (e_p2 (e_p2 (e_p2 rfl rfl (zBH σ c 26 rfl)) (e_p2 rfl rfl (zAh σ 7 j (.inl rfl))) rfl) rfl rfl) rfl (zBU σ _ 26 rfl)) ?_
      have hx : (c.fdiv 26 + 7 * (j : Int) + c).fmod 26 = (itemIx c j : Int) := by
        exact (Int.toNat_of_nonneg (zBT _ (by decide)).1).symm
      rw [hx]
      exact letter_at (itemIx_lt c j)
  rw [zBg, show (List.range n).map (fun j => V.str (mkS [letterAt (itemIx c j)])) = ((List.range n).map fun j => letterAt (itemIx c j)).map fun x => V.str (mkS [x]) by rw [List.map_map]; rfl] at e
  rw [x_sm]
  show R.bind (evE (callFn T d false) false (.comp _ _ _ _) [.int c, .str letters] σ) (fun b σ => R.lift σ (ev2 .join σ (.str (mkS [])) b)) = _
  rw [e]
  show R.lift σ _ = _
  rw [join_at (hlen.symm ▸ Nat.le_trans h2 (by decide))]; rfl
end
end Mine
end

/-! # GB -/
section
set_option autoImplicit false
namespace Mine
open PySem
theorem range_at {lo hi : Int} {j : Nat} {x : V} (h : (rangeL lo hi)[j]? = some x) : x = .int (lo + (j : Int)) ∧ j < (hi - lo).toNat := by
  unfold rangeL at h
  rw [List.getElem?_map] at h
  obtain ⟨k, hk, rfl⟩ := Option.map_eq_some_iff.mp h
  obtain ⟨h1, h2⟩ := List.getElem?_eq_some_iff.mp hk
  rw [List.getElem_range] at h2
  rw [List.length_range] at h1
  exact ⟨by rw [h2], h1⟩
theorem zDw {n : Nat} : (rangeL 0 (n : Int)).length = n := by
  unfold rangeL; rw [List.length_map, List.length_range, Int.sub_zero, Int.toNat_natCast]
theorem zBe {n j : Nat} {x : V} (h : (rangeL 0 (n : Int))[j]? = some x) : x = .int (j : Int) ∧ j < n := by
  obtain ⟨h1, h2⟩ := range_at h
  rw [Int.zero_add] at h1
  rw [Int.sub_zero, Int.toNat_natCast] at h2
  exact ⟨h1, h2⟩
inductive Drawn (σ : Sto) (c many : Int) (j : Nat) : List V → Sto → Prop
  | mk (ls : List Ln) (x3 x4 x5 : V) (hl : ls.length = j) (hg : ∀ l ∈ ls, l.good) : Drawn σ c many j [.int c, .ref σ.length, .int many, x3, x4, x5] (σ ++ [.list (ls.map Ln.raw)])
noncomputable def linesBody (it : Nat) : List CS := match (gLines it).body with
  | [_, _, _, .for _ _ _ b, _] => b
  | _ => []
section
variable {T : Nat → Option Fn} {d k it : Nat} {q : Bool} {σ : Sto}
theorem s_app {F Fq : Calls} {ρ : List V} {ls : List Ln} {l : Ln} {x : CE} {rest : List CS} {r : R Fl} (h1 : readVar ρ 1 = some (.ref σ.length)) (hl : ls.length < LIM) (hx : evE F q x ρ (σ ++ [.list (ls.map Ln.raw)]) = .ok l.raw (σ ++ [.list (ls.map Ln.raw)])) (kk : exL F Fq q rest ρ (σ ++ [.list ((ls ++ [l]).map Ln.raw)]) = r) :
    exL F Fq q (.exp (.append (.var 1) x) :: rest) ρ (σ ++ [.list (ls.map Ln.raw)]) = r :=
  s_exp (zAj (by rw [x_var, h1]; rfl) (by show (listR _).isSome = true; rw [zAZ]; rfl) hx (zAX _ zAZ (by rw [List.length_map]; exact hl))) (by rw [zCF, show ls.map Ln.raw ++ [l.raw] = (ls ++ [l]).map Ln.raw by rw [List.map_append]; rfl]; exact kk)
theorem drawn_good {s : Str} {x y z : Int} (ha : itemOk s = true) (hb : s.cps.all (· < 128) = true) (x1 : 0 ≤ x) (x2 : x < 1000000) (y1 : 0 ≤ y) (y2 : y < 1000000001) (z1 : 0 ≤ z) (z2 : z < 1000) : ({ item := s, p := 1 + x, c := y, k := 1 + z, s := 0, b := 0, a := 0, r := 0 } : Ln).good :=
  ⟨⟨Int.add_le_add_left x1 1, Int.add_comm x 1 ▸ x2, y1, Int.le_of_lt_add_one y2, Int.add_le_add_left z1 1, Int.add_comm z 1 ▸ z2⟩, ha, hb⟩
theorem divj_ok (j : Nat) (hj : j < 20) : ((j : Int) + 1 == 0 || decide (1073741824 ≤ ((j : Int) + 1).natAbs)) = false := by
  rw [Bool.or_eq_false_iff, beq_eq_false_iff_ne, decide_eq_false_iff_not]
  exact ⟨fun h => (nomatch (h : ((j + 1 : Nat) : Int) = ((0 : Nat) : Int))), fun h => absurd (Nat.le_trans h hj) (by decide)⟩
theorem lines_turn (hi : T it = some gItem) {c many : Int} {j : Nat} {ρ : List V} {σ' : Sto} (hj : j < 20) (I : Drawn σ c many j ρ σ') :
    ∃ ρ' σ'', exL (callFn T (d + 1) false) (callFn T (d + 1) true) false (linesBody it) (ρ.set 3 (.int j)) σ' = .ok (.next ρ') σ'' ∧ Drawn σ c many (j + 1) ρ' σ'' := by
  cases I with
  | mk ls x3 x4 x5 hl hg =>
  have hdiv := divj_ok j hj
  generalize hσ : σ ++ [O.list (ls.map Ln.raw)] = σ₁
  generalize hm : c.fdiv ((j : Int) + 1) + 5 * (j : Int) = m
  obtain ⟨s1, a1, b1, e1⟩ := g_item (d := d) (σ := σ₁) hi m
  obtain ⟨s2, a2, b2, e2⟩ := g_item (d := d) (σ := σ₁) hi (c.fdiv 7)
  have pre : ∃ s : Str, itemOk s = true ∧ s.cps.all (· < 128) = true ∧ ∀ {r : R Fl}, exL (callFn T (d + 1) false) (callFn T (d + 1) true) false ((linesBody it).drop 3) [.int c, .ref σ.length, .int many, .int j, .int m, .str s] σ₁ = r →
      exL (callFn T (d + 1) false) (callFn T (d + 1) true) false (linesBody it) [.int c, .ref σ.length, .int many, .int j, x4, x5] σ₁ = r := by
    have p2 : ∀ {r : R Fl}, exL (callFn T (d + 1) false) (callFn T (d + 1) true) false ((linesBody it).drop 2) [.int c, .ref σ.length, .int many, .int j, .int m, .str s1] σ₁ = r →
        exL (callFn T (d + 1) false) (callFn T (d + 1) true) false (linesBody it) [.int c, .ref σ.length, .int many, .int j, x4, x5] σ₁ = r := fun kk =>
      s_asg (v := .int m) (by rw [← hm]; exact e_p2 (e_p2 rfl rfl (zBH σ₁ c _ hdiv)) (e_p2 rfl rfl (zAh σ₁ 5 j (.inl rfl))) rfl) (s_asg (zAG rfl e1) kk)
    cases ht : (((c * 48271).fmod 10141).fmod 3 == 0) with
    | true => exact ⟨s2, a2, b2, fun kk => p2 (s_t (zAC (t := true) (e_p2 (zAy (c := c) rfl rfl rfl rfl rfl) rfl (by rw [zBM, ht]))) (s_asg (zAG (zAB (e_p2 rfl rfl (zBH σ₁ c 7 rfl)) rfl) e2) kk))⟩
    | false => exact ⟨s1, a1, b1, fun kk => p2 (s_f (zAC (t := false) (e_p2 (zAy (c := c) rfl rfl rfl rfl rfl) rfl (by rw [zBM, ht]))) kk)⟩
  obtain ⟨s, ha, hb, pre⟩ := pre
  have hlim : ls.length < LIM := Nat.lt_trans (hl.symm ▸ hj) (by decide)
  have add : ∀ l : Ln, l.good → (∀ x ∈ ls ++ [l], x.good) := fun l hl x hx => by
    rcases List.mem_append.mp hx with hx | hx
    · exact hg x hx
    · rw [List.mem_singleton.mp hx]; exact hl
  have hlen : ∀ l : Ln, (ls ++ [l]).length = j + 1 := fun l => by rw [List.length_append, hl]; rfl
  have m48 : ev2 .mul σ₁ (.int m) (.int 48271) = some (.int (m * 48271)) := zAh σ₁ m 48271 (.inr rfl)
  cases ht : (((c * 48271).fmod 10069).fmod 5 == 1) with
  | true =>
    have hg' : ({ item := s, p := 1 + m.fmod 1000000, c := (m * 48271).fmod 1000000001, k := 1 + m.fmod 1000, s := 0, b := 0, a := 0, r := 0 } : Ln).good :=
      have p := zBT m (m := 1000000) (by decide)
      have q := zBT (m * 48271) (m := 1000000001) (by decide)
      have r := zBT m (m := 1000) (by decide)
      drawn_good ha hb p.1 p.2 q.1 q.2 r.1 r.2
    refine ⟨_, _, pre (s_t (zAC (t := true) (e_p2 (zAy (c := c) rfl rfl rfl rfl rfl) rfl (by rw [zBM, ht]))) (by rw [← hσ]; rw [← hσ] at m48; exact s_app (l := { item := s, p := 1 + m.fmod 1000000, c := (m * 48271).fmod 1000000001, k := 1 + m.fmod 1000, s := 0, b := 0, a := 0, r := 0 }) rfl hlim (e_tup (zAB rfl (zAB (e_p2 rfl (e_p2 rfl rfl rfl) rfl) (zAB (e_p2 (e_p2 rfl rfl m48) rfl rfl) (zAB (e_p2 rfl (e_p2 rfl rfl rfl) rfl) rfl))))) rfl)), ?_⟩
    exact .mk _ _ _ _ (hlen _) (add _ hg')
  | false =>
    have hg' : ({ item := s, p := 1 + m.fmod 9, c := ((m * 48271).fmod 10091).fmod 200, k := 1 + (m.fdiv 9).fmod 4, s := 0, b := 0, a := 0, r := 0 } : Ln).good :=
      have p := zBT m (m := 9) (by decide)
      have q := zBT ((m * 48271).fmod 10091) (m := 200) (by decide)
      have r := zBT (m.fdiv 9) (m := 4) (by decide)
      drawn_good ha hb p.1 (Int.lt_trans p.2 (by decide)) q.1 (Int.lt_trans q.2 (by decide)) r.1 (Int.lt_trans r.2 (by decide))
    refine ⟨_, _, pre (s_f (zAC (t := false) (e_p2 (zAy (c := c) rfl rfl rfl rfl rfl) rfl (by rw [zBM, ht]))) (by rw [← hσ]; rw [← hσ] at m48; exact s_app (l := { item := s, p := 1 + m.fmod 9, c := ((m * 48271).fmod 10091).fmod 200, k := 1 + (m.fdiv 9).fmod 4, s := 0, b := 0, a := 0, r := 0 }) rfl hlim (e_tup (zAB rfl (zAB (e_p2 rfl (e_p2 rfl rfl rfl) rfl) (zAB (e_p2 (e_p2 (e_p2 rfl rfl m48) rfl rfl) rfl rfl) (zAB (e_p2 rfl (e_p2 (e_p2 rfl rfl rfl) rfl rfl) rfl) rfl))))) rfl)), ?_⟩
    exact .mk _ _ _ _ (hlen _) (add _ hg')
theorem g_lines (h : T k = some (gLines it)) (hi : T it = some gItem) (c : Int) : ∃ ls : List Ln, 1 ≤ ls.length ∧ ls.length ≤ 20 ∧ (∀ l ∈ ls, l.good) ∧ callFn T (d + 2) false k [.int c] σ = .ok (.ref σ.length) (σ ++ [.list (ls.map Ln.raw)]) := by
  have pre : ∃ n : Nat, 1 ≤ n ∧ n ≤ 20 ∧ ∀ {r : R Fl}, exL (callFn T (d + 1) false) (callFn T (d + 1) true) false ((gLines it).body.drop 3) [.int c, .ref σ.length, .int n, .undef, .undef, .undef] (σ ++ [.list (([] : List Ln).map Ln.raw)]) = r →
      exL (callFn T (d + 1) false) (callFn T (d + 1) true) false (gLines it).body [.int c, .undef, .undef, .undef, .undef, .undef] σ = r := by
    cases ht : (((c * 48271).fmod 10111).fmod 9 == 1) with
    | true =>
      obtain ⟨n, hn, h1, h2⟩ := one_fmod c (m := 20) (by decide)
      have hn : 1 + c.fmod 20 = (n : Int) := hn
      refine ⟨n, h1, h2, fun kk => s_asg rfl (s_asg (e_p2 rfl (zAy (c := c) rfl rfl rfl rfl rfl) rfl) (s_t (zAC (t := true) (e_p2 (zAy (c := c) rfl rfl rfl rfl rfl) rfl (by rw [zBM, ht]))) (s_asg (v := .int n) (by rw [← hn]; exact e_p2 rfl (e_p2 rfl rfl rfl) rfl) kk)))⟩
    | false =>
      obtain ⟨n, hn, h1, h2⟩ := one_fmod ((c * 48271).fmod 10067) (m := 3) (by decide)
      have hn : 1 + ((c * 48271).fmod 10067).fmod 3 = (n : Int) := hn
      refine ⟨n, h1, Nat.le_trans h2 (by decide), fun kk => s_asg rfl (s_asg (v := .int n) (by rw [← hn]; exact e_p2 rfl (zAy (c := c) rfl rfl rfl rfl rfl) rfl) (s_f (zAC (t := false) (e_p2 (zAy (c := c) rfl rfl rfl rfl rfl) rfl (by rw [zBM, ht]))) kk))⟩
  obtain ⟨n, h1, h2, pre⟩ := pre
  obtain ⟨ρ', σ', e, I⟩ := zCt (F := callFn T (d + 1) false) (Fq := callFn T (d + 1) true) (i := 3) (k := .range1) (src := [.var 2]) (body := linesBody it) (ρ := [.int c, .ref σ.length, .int n, .undef, .undef, .undef]) (vs := [.int n]) (σ := σ ++ [.list (([] : List Ln).map Ln.raw)]) (σ₁ := σ ++ [.list (([] : List Ln).map Ln.raw)]) (it := .now (rangeL 0 n)) (xs := rangeL 0 n)
    (Drawn σ c n) rfl (zAS _ (by show n ≤ LIM; exact Nat.le_trans h2 (by decide))) (fun _ _ _ _ => .inl rfl) (.mk [] _ _ _ rfl (fun l hl => nomatch hl)) fun j x ρ σ' hx I => by
      obtain ⟨rfl, hj⟩ := zBe hx
      exact lines_turn hi (Nat.lt_of_lt_of_le hj h2) I
  rw [zDw] at I
  cases I with
  | mk ls x3 x4 x5 hl hg =>
  refine ⟨ls, hl ▸ h1, hl ▸ h2, hg, zAD h rfl (pre ?_)⟩
  show exL _ _ false (_ :: _) _ _ = _
  rw [zAt]
  exact (congrArg (fun r => R.bind r (thenL _ _ false _)) e).trans rfl
end
end Mine
end

/-! # GC -/
section
set_option autoImplicit false
namespace Mine
open PySem
inductive Deed where
  | ord (ls : List Ln)
  | pay (o n : Int)
  | ref (o n : Int)
  | mov (o p n : Int)
  | lin (w : Wd) (o k n : Int)
noncomputable def Deed.v : Deed → V
  | .ord ls => dO ls
  | .pay o n => dP o n
  | .ref o n => dR o n
  | .mov o p n => dM o p n
  | .lin w o k n => dL w o k n
noncomputable def Deed.err (us : List Or) : Deed → Option Cls
  | .ord _ => none
  | .pay o n => errPay us o n
  | .ref o n => errRef us o n
  | .mov o p n => errMov us o p n
  | .lin w o k n => errL us w o k n
noncomputable def Deed.fit (us : List Or) : Deed → Prop
  | .ord ls => 1 ≤ ls.length ∧ ls.length ≤ 20 ∧ (∀ l ∈ ls, l.good) ∧ us.length < 40
  | _ => True
inductive Step (us : List Or) : Deed → List Or → List (Int × Int) → Prop
  | ord (ls : List Ln) : Step us (.ord ls) (us ++ [newOr ls]) []
  | pay (o : Nat) (n : Int) (u : Or) (hu : us[o]? = some u) (h1 : 1 ≤ n) : Step us (.pay o n) (us.set o (payOr u sPay n)) [((o : Int), -n)]
  | ref (o : Nat) (n : Int) (u : Or) (hu : us[o]? = some u) (h1 : 1 ≤ n) (h2 : n ≤ 0 - u.owed) : Step us (.ref o n) (us.set o (payOr u sRef (0 - n))) [((o : Int), n)]
  | mov (o p : Nat) (n : Int) (u u' : Or) (hu : us[o]? = some u) (hu' : us[p]? = some u') (hop : o ≠ p) (h1 : 1 ≤ n) (h2 : n ≤ 0 - u.owed) : Step us (.mov o p n) (movOr us o p u u' n) [((o : Int), n), ((p : Int), -n)]
  | lin (w : Wd) (o k : Nat) (n : Int) (u : Or) (l : Ln) (hu : us[o]? = some u) (hl : u.lines[k]? = some l) (h1 : 1 ≤ n) (h2 : n ≤ mostOf w l) : Step us (.lin w o k n) (us.set o (upL w u k l n)) [((o : Int), (behindL w l n).charge - l.charge)]
noncomputable def chL (l : List (Int × Int)) : List V := l.map fun p => .tup [.int p.1, .int p.2]
noncomputable def chV (l : List (Int × Int)) : V := .lst (l.map fun p => .tup [.int p.1, .int p.2])
inductive DidT (t : Bool) (σ : Sto) (b e h : Nat) (us : List Or) (hl : Nat) (D : Deed) (r : R V) : Prop
  | no (c : Cls) (er : r = .exc c σ) (he : D.err us = some c)
  | yes (σ' : Sto) (us' : List Or) (out : List (Int × Int)) (hs : List V) (er : r = .ok (rv t σ' (chL out)) (rs t σ' (chL out))) (he : D.err us = none) (S : Step us D us' out) (B : BookIn σ' b e h (us'.map Or.v) hs) (hl : hs.length = hl + 1) (hk : ∀ (m : Nat) (o : O), m ≠ e → m ≠ h → σ[m]? = some o → σ'[m]? = some o)
theorem zEf {n m : Int} (h : errN n m = none) : 1 ≤ n ∧ n ≤ m := by
  unfold errN at h
  split at h
  · cases h
  · split at h
    · cases h
    · omega
section
variable {T : Nat → Option Fn} {t : Bool} {d : Nat} {σ : Sto} {b e h : Nat} {us : List Or} {hs : List V}
theorem kept_of {deed : V} {old : List (Int × V)} {x : O} (m : Nat) (o : O) (me : m ≠ e) (mh : m ≠ h) (hm : σ[m]? = some o) : ((noted σ h hs deed old).set e x)[m]? = some o :=
  zAF (zAF (zAU hm) mh.symm) me.symm
theorem g_doT (HT : BookTab T t) (B : BookIn σ b e h (us.map Or.v) hs) (hok : ∀ u ∈ us, u.ok) (hr : ∀ u ∈ us, u.rows.length < LIM) (hh : hs.length < LIM) (D : Deed) (hf : D.fit us) : DidT t σ b e h us hs.length D (callFn T (d + 6) false 2 [.ref b, D.v] σ) := by
  cases D with
  | ord ls =>
    obtain ⟨h1, h2, h3, h4⟩ := hf
    refine .yes _ (us ++ [newOr ls]) [] (hs ++ [.tup [dO ls, .ref (σ.set e (.list (us.map Or.v ++ [(newOr ls).v]))).length]]) (b_doOT (d := d + 2) HT B h1 h2 h3 (by rw [List.length_map]; exact h4) hh) rfl (.ord ls) (by rw [List.map_append]; exact ((B.setE _).push _).setH _) (by rw [List.length_append]; rfl) fun m o me mh hm => ?_
    exact zAF (zAU (zAF hm me.symm)) mh.symm
  | pay o n =>
    cases he : errPay us o n with
    | some c => exact .no c (b_doPX (d := d + 3) HT B he) he
    | none =>
      have he' : errP1 n (atI us o) = none := he
      cases ho : atI us o with
      | none => rw [ho] at he'; cases he'
      | some u =>
        obtain ⟨o, rfl, hu⟩ := zAO ho
        rw [ho] at he'
        have hn : 1 ≤ n := by
          have : (if n < 1 then some Cls.NoNumber else none) = none := he'
          split at this
          · cases this
          · omega
        have hd := b_doPT (d := d + 3) (o := o) (n := n) HT B he hu (hr u (List.mem_of_getElem? hu)) hh
        rw [Int.zero_sub] at hd
        exact .yes _ _ [((o : Int), -n)] _ hd he (.pay o n u hu hn) (((B.push _).setH _).setE _) (by rw [List.length_append]; rfl) kept_of
  | ref o n =>
    cases he : errRef us o n with
    | some c => exact .no c (b_doRX HT B hok he) he
    | none =>
      have he' : errR1 n (atI us o) = none := he
      cases ho : atI us o with
      | none => rw [ho] at he'; cases he'
      | some u =>
        obtain ⟨o, rfl, hu⟩ := zAO ho
        rw [ho] at he'
        obtain ⟨h1, h2⟩ := zEf he'
        have hd := b_doRT (d := d) (o := o) (n := n) HT B hok he hu (hr u (List.mem_of_getElem? hu)) hh
        rw [show (0 - (0 - n)) = n by omega] at hd
        exact .yes _ _ [((o : Int), n)] _ hd he (.ref o n u hu h1 h2) (((B.push _).setH _).setE _) (by rw [List.length_append]; rfl) kept_of
  | mov o p n =>
    cases he : errMov us o p n with
    | some c => exact .no c (b_doMX HT B hok he) he
    | none =>
      have he' : errM1 us o p n (atI us o) = none := he
      cases ho : atI us o with
      | none => rw [ho] at he'; cases he'
      | some u =>
        obtain ⟨o, rfl, hu⟩ := zAO ho
        rw [ho] at he'
        have he2 : errM2 u o p n (atI us p) = none := he'
        cases hp : atI us p with
        | none => rw [hp] at he2; cases he2
        | some u' =>
          obtain ⟨p, rfl, hu'⟩ := zAO hp
          rw [hp] at he2
          have he3 : (if ((o : Int) == (p : Int)) = true then some Cls.SameOrder else errN n (0 - u.owed)) = none := he2
          split at he3
          · cases he3
          · rename_i hne
            obtain ⟨h1, h2⟩ := zEf he3
            have hop : o ≠ p := fun q => hne (by rw [q, beq_self_eq_true])
            have hd := b_doMT (d := d) (o := o) (p := p) (n := n) HT B hok he hu hu' hop (hr u (List.mem_of_getElem? hu)) (hr u' (List.mem_of_getElem? hu')) hh
            rw [show (0 - (0 - n)) = n by omega, Int.zero_sub] at hd
            exact .yes _ _ [((o : Int), n), ((p : Int), -n)] _ hd he (.mov o p n u u' hu hu' hop h1 h2) (((B.push _).setH _).setE _) (by rw [List.length_append]; rfl) kept_of
  | lin w o k n =>
    cases he : errL us w o k n with
    | some c => exact .no c (b_doX HT B hok he) he
    | none =>
      have he' : errU w k n (atI us o) = none := he
      cases ho : atI us o with
      | none => rw [ho] at he'; cases he'
      | some u =>
        obtain ⟨o, rfl, hu⟩ := zAO ho
        rw [ho] at he'
        have he2 : errK w n (atI u.lines k) = none := he'
        cases hk : atI u.lines k with
        | none => rw [hk] at he2; cases he2
        | some l =>
          obtain ⟨k, rfl, hl⟩ := zAO hk
          rw [hk] at he2
          obtain ⟨h1, h2⟩ := zEf he2
          exact .yes _ _ [((o : Int), (behindL w l n).charge - l.charge)] _ (b_doLT (d := d) (o := o) (k := k) (n := n) HT B hok he hu hl (hr u (List.mem_of_getElem? hu)) hh) he (.lin w o k n u l hu hl h1 h2) (((B.push _).setH _).setE _) (by rw [List.length_append]; rfl) kept_of
end
noncomputable def clsName : Cls → Str
  | .NoDeed => { cps := #[78, 111, 68, 101, 101, 100] }
  | .NoLines => { cps := #[78, 111, 76, 105, 110, 101, 115] }
  | .NoItem => { cps := #[78, 111, 73, 116, 101, 109] }
  | .NoNumber => { cps := #[78, 111, 78, 117, 109, 98, 101, 114] }
  | .FullBook => { cps := #[70, 117, 108, 108, 66, 111, 111, 107] }
  | .NoOrder => { cps := #[78, 111, 79, 114, 100, 101, 114] }
  | .SameOrder => { cps := #[83, 97, 109, 101, 79, 114, 100, 101, 114] }
  | .NoLine => { cps := #[78, 111, 76, 105, 110, 101] }
  | .TooMuch => { cps := #[84, 111, 111, 77, 117, 99, 104] }
  | _ => { cps := #[] }
noncomputable def toldCls (c : Cls) : Bool := c != .FlowError && c != .NothingDone && c != .ValueError
theorem zEe {n m : Int} {c : Cls} (h : errN n m = some c) : toldCls c = true := by
  unfold errN at h
  split at h
  · cases h; rfl
  · split at h
    · cases h; rfl
    · cases h
theorem Deed.told {us : List Or} {D : Deed} {c : Cls} (h : D.err us = some c) : toldCls c = true := by
  cases D with
  | ord ls => cases h
  | pay o n =>
    have h : errP1 n (atI us o) = some c := h
    cases ho : atI us o with
    | none => rw [ho] at h; cases h; rfl
    | some u =>
      rw [ho] at h
      have h : (if n < 1 then some Cls.NoNumber else none) = some c := h
      split at h
      · cases h; rfl
      · cases h
  | ref o n =>
    have h : errR1 n (atI us o) = some c := h
    cases ho : atI us o with
    | none => rw [ho] at h; cases h; rfl
    | some u => rw [ho] at h; exact zEe h
  | mov o p n =>
    have h : errM1 us o p n (atI us o) = some c := h
    cases ho : atI us o with
    | none => rw [ho] at h; cases h; rfl
    | some u =>
      rw [ho] at h
      have h : errM2 u o p n (atI us p) = some c := h
      cases hp : atI us p with
      | none => rw [hp] at h; cases h; rfl
      | some u' =>
        rw [hp] at h
        have h : (if (o == p) = true then some Cls.SameOrder else errN n (0 - u.owed)) = some c := h
        split at h
        · cases h; rfl
        · exact zEe h
  | lin w o k n =>
    have h : errU w k n (atI us o) = some c := h
    cases ho : atI us o with
    | none => rw [ho] at h; cases h; rfl
    | some u =>
      rw [ho] at h
      have h : errK w n (atI u.lines k) = some c := h
      cases hk : atI u.lines k with
      | none => rw [hk] at h; cases h; rfl
      | some l => rw [hk] at h; exact zEe h
section
variable {T : Nat → Option Fn} {t : Bool} {d k : Nat} {σ σ' : Sto} {b : Nat}
theorem g_tried {deed v : V} (h : T k = some gTried) (hi : isInst σ (.ref b) = true) (hd : callFn T d false 2 [.ref b, deed] σ = .ok v σ') (hv : readVar [.ref b, deed] 1 = some deed) : callFn T (d + 1) false k [.ref b, deed] σ = .ok v σ' := by
  refine zAD h rfl ?_
  show exL _ _ false [.try .ret (.callm 2 (.var 0) [.var 1]) _] [.ref b, deed] σ = _
  rw [zAt, x_try, if_neg (by decide), zAL (r := .ok v σ') rfl hi (zAB (by rw [x_var, hv]; rfl) rfl) hd]; rfl
theorem g_triedX {deed : V} {c : Cls} (h : T k = some gTried) (hi : isInst σ (.ref b) = true) (hc : toldCls c = true) (hd : callFn T d false 2 [.ref b, deed] σ = .exc c σ') (hv : readVar [.ref b, deed] 1 = some deed) : callFn T (d + 1) false k [.ref b, deed] σ = .ok (.str (clsName c)) σ' := by
  refine zAD h rfl ?_
  show exL _ _ false [.try .ret (.callm 2 (.var 0) [.var 1]) _] [.ref b, deed] σ = _
  rw [zAt, x_try, if_neg (by decide), zAL (r := .exc c σ') rfl hi (zAB (by rw [x_var, hv]; rfl) rfl) hd]
  cases c <;> first | rfl | cases hc
noncomputable def Deed.raw (m : Nat) : Deed → V
  | .ord ls => .tup [.str sOrd, .ref m]
  | D => D.v
theorem Deed.raw_of {D : Deed} {m : Nat} (hn : ∀ ls, D ≠ .ord ls) : D.raw m = D.v := by
  cases D with
  | ord ls => exact (hn ls rfl).elim
  | _ => rfl
theorem Deed.fit_of {D : Deed} {us : List Or} (hn : ∀ ls, D ≠ .ord ls) : D.fit us := by
  cases D with
  | ord ls => exact (hn ls rfl).elim
  | _ => exact trivial
theorem Deed.ord_or (D : Deed) : (∀ ls, D ≠ .ord ls) ∨ ∃ ls, D = .ord ls := by
  cases D with
  | ord ls => exact .inr ⟨ls, rfl⟩
  | _ => exact .inl fun _ h => nomatch h
theorem Deed.read {D : Deed} {x : V} : readVar [x, D.v] 1 = some D.v := by cases D <;> rfl
theorem g_handed (h : T k = some gHanded) {m : Nat} (D : Deed) (hm : ∀ ls, D = .ord ls → σ[m]? = some (.list (ls.map Ln.raw))) : callFn T (d + 1) false k [D.raw m] σ = .ok D.v σ := by
  refine zAD h rfl ?_
  cases D with
  | ord ls =>
    refine s_t rfl (s_ret (e_tup (zAB rfl (zAB (e_p1 (x := .ref m) rfl ?_) rfl))))
    show (match σ[m]? with | some (.list xs) => some xs | _ => none).map V.lst = _
    rw [hm ls rfl]; rfl
  | pay o n => exact s_f rfl (s_ret rfl)
  | ref o n => exact s_f rfl (s_ret rfl)
  | mov o p n => exact s_f rfl (s_ret rfl)
  | lin w o k n => cases w <;> exact s_f rfl (s_ret rfl)
end
end Mine
end

/-! # GD -/
section
set_option autoImplicit false
namespace Mine
open PySem
structure Ln.inv (l : Ln) : Prop where
  ok : l.ok
  a0 : 0 ≤ l.a
  ab : l.a ≤ l.b
  bs : l.b ≤ l.s
  sp : l.s ≤ l.p + l.a
  r0 : 0 ≤ l.r
  rw : l.r ≤ l.worth
theorem worth_mono {x y c k : Int} (h : x ≤ y) (hc : 0 ≤ c) (hk : 1 ≤ k) : (x * c).fdiv k ≤ (y * c).fdiv k := by
  have k0 : 0 ≤ k := Int.le_trans (by decide) hk
  rw [Int.fdiv_eq_ediv_of_nonneg _ k0, Int.fdiv_eq_ediv_of_nonneg _ k0]
  exact Int.ediv_le_ediv (Int.lt_of_lt_of_le (by decide) hk) (Int.mul_le_mul_of_nonneg_right h hc)
theorem zBZ {x c k : Int} (h : 0 ≤ x) (hc : 0 ≤ c) (hk : 1 ≤ k) : 0 ≤ (x * c).fdiv k := by
  have k0 : 0 ≤ k := Int.le_trans (by decide) hk
  rw [Int.fdiv_eq_ediv_of_nonneg _ k0]
  exact Int.ediv_nonneg (Int.mul_nonneg h hc) k0
theorem Ln.inv.charge {l : Ln} (h : l.inv) : 0 ≤ l.charge := Int.sub_nonneg_of_le h.rw
theorem pmin_le (x y : Int) : pmin x y ≤ y ∧ pmin x y ≤ x ∧ (0 ≤ x → 0 ≤ y → 0 ≤ pmin x y) := by
  unfold pmin; split
  · rename_i h; exact ⟨Int.le_refl _, Int.le_of_lt h, fun _ hy => hy⟩
  · rename_i h; exact ⟨Int.not_lt.mp h, Int.le_refl _, fun hx _ => hx⟩
theorem some_more {p s a n : Int} (h : n ≤ p - s + a) : s + n ≤ p + a := by omega
theorem Ln.inv.behind {l : Ln} (h : l.inv) {w : Wd} {n : Int} (h1 : 1 ≤ n) (h2 : n ≤ mostOf w l) : (behindL w l n).inv := by
  have hn : 0 ≤ n := Int.le_trans (by decide) h1
  cases w with
  | del => exact ⟨zBA h.ok, h.a0, h.ab, Int.le_trans h.bs (Int.le_add_of_nonneg_right hn), some_more h2, h.r0, Int.le_trans h.rw (worth_mono (Int.sub_le_sub_right (Int.le_add_of_nonneg_right hn) l.b) h.ok.c1 h.ok.k1)⟩
  | cred => exact ⟨zBA h.ok, h.a0, h.ab, h.bs, h.sp, Int.add_nonneg h.r0 hn, Int.add_le_of_le_sub_left h2⟩
  | back =>
    have hp := pmin_le l.r (((l.s - (l.b + n)) * l.c).fdiv l.k)
    have hb : l.b + n ≤ l.s := Int.add_le_of_le_sub_left h2
    exact ⟨zBA h.ok, h.a0, Int.le_trans h.ab (Int.le_add_of_nonneg_right hn), hb, h.sp, hp.2.2 h.r0 (zBZ (Int.sub_nonneg_of_le hb) h.ok.c1 h.ok.k1), hp.1⟩
  | swap =>
    have hp := pmin_le l.r (((l.s - (l.b + n)) * l.c).fdiv l.k)
    have hb : l.b + n ≤ l.s := Int.add_le_of_le_sub_left h2
    exact ⟨zBA h.ok, Int.add_nonneg h.a0 hn, Int.add_le_add_right h.ab n, hb, Int.le_trans h.sp (Int.add_le_add_left (Int.le_add_of_nonneg_right hn) _), hp.2.2 h.r0 (zBZ (Int.sub_nonneg_of_le hb) h.ok.c1 h.ok.k1), hp.1⟩
theorem Ln.good.inv {l : Ln} (h : l.good) : l.fresh.inv :=
  ⟨h.ok.fresh, Int.le_refl _, Int.le_refl _, Int.le_refl _, Int.add_nonneg (Int.le_trans (by decide) h.ok.p1) (Int.le_refl 0), Int.le_refl _, zBZ (Int.le_refl _) h.ok.c1 h.ok.k1⟩
structure Or.inv (u : Or) : Prop where
  few : u.lines.length ≤ 20
  ls : ∀ l ∈ u.lines, l.inv
  paid0 : 0 ≤ u.paid
  sum : (u.rows.map (·.2)).sum = u.owed
theorem Or.inv.ok {u : Or} (h : u.inv) : u.ok := ⟨h.few, fun l hl => (h.ls l hl).ok⟩
theorem zEn : ∀ {l : List Int}, (∀ x ∈ l, 0 ≤ x) → 0 ≤ l.sum
  | [], _ => Int.le_refl _
  | x :: l, h => by
    rw [List.sum_cons]
    have h1 := h x List.mem_cons_self
    exact Int.add_nonneg h1 (zEn fun y hy => h y (List.mem_cons_of_mem x hy))
theorem sum_set : ∀ {l : List Int} {k : Nat} {x y : Int}, l[k]? = some y → (l.set k x).sum = l.sum + (x - y)
  | [], _, _, _, h => by cases h
  | z :: l, 0, x, y, h => by
    obtain rfl : z = y := by simpa using h
    rw [List.set_cons_zero, List.sum_cons, List.sum_cons, Int.add_comm z l.sum, Int.add_assoc, Int.add_comm x]; exact congrArg _ (by rw [Int.add_comm, Int.sub_add_cancel])
  | z :: l, k + 1, x, y, h => by
    rw [List.set_cons_succ, List.sum_cons, List.sum_cons, sum_set (l := l) (k := k) (by simpa using h), Int.add_assoc]
theorem zEo (a b : List Int) : (a ++ b).sum = a.sum + b.sum := by
  induction a with
  | nil => rw [List.nil_append, List.sum_nil, Int.zero_add]
  | cons x a ih => rw [List.cons_append, List.sum_cons, List.sum_cons, ih, Int.add_assoc]
theorem owed_pay (u : Or) (w : Str) (c : Int) : (payOr u w c).owed = u.owed - c := (Int.sub_sub _ u.paid c).symm
theorem owed_up {u : Or} {k : Nat} {l : Ln} (hl : u.lines[k]? = some l) (w : Wd) (n : Int) : (upL w u k l n).owed = u.owed + ((behindL w l n).charge - l.charge) := by
  show ((u.lines.set k (behindL w l n)).map Ln.charge).sum - u.paid = (u.lines.map Ln.charge).sum - u.paid + _
  rw [List.map_set, sum_set (y := l.charge) (by rw [List.getElem?_map, hl]; rfl)]; exact Int.add_right_comm _ _ _
theorem owed_new (ls : List Ln) (h : ∀ l ∈ ls, l.good) : (newOr ls).owed = 0 := by
  show ((ls.map Ln.fresh).map Ln.charge).sum - 0 = 0
  rw [Int.sub_zero, List.map_map]
  have : ∀ ls : List Ln, (∀ l ∈ ls, l.good) → (ls.map (Ln.charge ∘ Ln.fresh)).sum = 0 := fun ls => by
    induction ls with
    | nil => intro _; rfl
    | cons l ls ih =>
      intro h
      rw [List.map_cons, List.sum_cons, ih fun l hl => h l (List.mem_cons_of_mem _ hl)]
      show ((0 - 0) * l.c).fdiv l.k - 0 + 0 = 0
      rw [Int.sub_self, Int.zero_mul, Int.zero_fdiv]; rfl
  exact this ls h
theorem zAM {α : Type} {l : List α} {k : Nat} {x y : α} (h : y ∈ l.set k x) : y ∈ l ∨ y = x := List.mem_or_eq_of_mem_set h
theorem Or.inv.pay {u : Or} (h : u.inv) (w : Str) {c : Int} (hp : 0 ≤ u.paid + c) : (payOr u w c).inv := by
  refine ⟨h.few, h.ls, hp, ?_⟩
  rw [owed_pay]
  show ((u.rows ++ [(w, 0 - c)]).map (·.2)).sum = _
  rw [List.map_append, zEo, h.sum]
  show u.owed + (0 - c + 0) = u.owed - c; rw [Int.add_zero, Int.zero_sub]; rfl
theorem Or.inv.up {u : Or} (h : u.inv) {k : Nat} {l : Ln} (hl : u.lines[k]? = some l) {w : Wd} {n : Int} (h1 : 1 ≤ n) (h2 : n ≤ mostOf w l) : (upL w u k l n).inv := by
  refine ⟨?_, fun m hm => ?_, h.paid0, ?_⟩
  · show (u.lines.set k _).length ≤ 20; rw [List.length_set]; exact h.few
  · rcases zAM hm with hm | rfl
    · exact h.ls m hm
    · exact (h.ls l (List.mem_of_getElem? hl)).behind h1 h2
  · rw [owed_up hl]
    show ((u.rows ++ [(w.s, (behindL w l n).charge - l.charge)]).map (·.2)).sum = _
    rw [List.map_append, zEo, h.sum]
    show u.owed + ((behindL w l n).charge - l.charge + 0) = _; rw [Int.add_zero]
theorem back_of {s p n : Int} (h : 0 ≤ s) (h2 : n ≤ 0 - (s - p)) : 0 ≤ p + (0 - n) := by omega
theorem Or.inv.back {u : Or} (h : u.inv) {n : Int} (h2 : n ≤ 0 - u.owed) : 0 ≤ u.paid + (0 - n) := by
  have h3 : 0 ≤ (u.lines.map Ln.charge).sum := zEn fun x hx => by
    obtain ⟨l, hl, rfl⟩ := List.mem_map.mp hx
    exact (h.ls l hl).charge
  exact back_of h3 h2
theorem newOr_inv {ls : List Ln} (h2 : ls.length ≤ 20) (h : ∀ l ∈ ls, l.good) : (newOr ls).inv := by
  refine ⟨by show (ls.map Ln.fresh).length ≤ 20; rw [List.length_map]; exact h2, fun m hm => ?_, Int.le_refl _, (owed_new ls h).symm⟩
  obtain ⟨l, hl, rfl⟩ := List.mem_map.mp hm
  exact (h l hl).inv
section
variable {us us' : List Or} {D : Deed} {out : List (Int × Int)}
theorem Step.inv (S : Step us D us' out) (hf : D.fit us) (h : ∀ u ∈ us, u.inv) : ∀ u ∈ us', u.inv := fun v hv => by
  cases S with
  | ord ls =>
    rcases List.mem_append.mp hv with hv | hv
    · exact h v hv
    · rw [List.mem_singleton.mp hv]; exact newOr_inv hf.2.1 hf.2.2.1
  | pay o n u hu h1 =>
    rcases zAM hv with hv | rfl
    · exact h v hv
    · have := h u (List.mem_of_getElem? hu)
      exact this.pay _ (Int.add_nonneg this.paid0 (Int.le_trans (by decide) h1))
  | ref o n u hu h1 h2 =>
    rcases zAM hv with hv | rfl
    · exact h v hv
    · have := h u (List.mem_of_getElem? hu)
      exact this.pay _ (this.back h2)
  | mov o p n u u' hu hu' hop h1 h2 =>
    have i1 := h u (List.mem_of_getElem? hu)
    have i2 := h u' (List.mem_of_getElem? hu')
    rcases zAM hv with hv | rfl
    · rcases zAM hv with hv | rfl
      · exact h v hv
      · exact i1.pay _ (i1.back h2)
    · exact i2.pay _ (Int.add_nonneg i2.paid0 (Int.le_trans (by decide) h1))
  | lin w o k n u l hu hl h1 h2 =>
    rcases zAM hv with hv | rfl
    · exact h v hv
    · exact (h u (List.mem_of_getElem? hu)).up hl h1 h2
theorem Step.rows (S : Step us D us' out) {R : Nat} (h : ∀ u ∈ us, u.rows.length ≤ R) : ∀ u ∈ us', u.rows.length ≤ R + 1 := fun v hv => by
  have pay : ∀ {u : Or} {w : Str} {c : Int}, u ∈ us → (payOr u w c).rows.length ≤ R + 1 := fun {u w c} hu => by
    show (u.rows ++ [_]).length ≤ R + 1
    rw [List.length_append]; exact Nat.succ_le_succ (h u hu)
  cases S with
  | ord ls =>
    rcases List.mem_append.mp hv with hv | hv
    · exact Nat.le_succ_of_le (h v hv)
    · rw [List.mem_singleton.mp hv]; exact Nat.zero_le _
  | pay o n u hu h1 =>
    rcases zAM hv with hv | rfl
    · exact Nat.le_succ_of_le (h v hv)
    · exact pay (List.mem_of_getElem? hu)
  | ref o n u hu h1 h2 =>
    rcases zAM hv with hv | rfl
    · exact Nat.le_succ_of_le (h v hv)
    · exact pay (List.mem_of_getElem? hu)
  | mov o p n u u' hu hu' hop h1 h2 =>
    rcases zAM hv with hv | rfl
    · rcases zAM hv with hv | rfl
      · exact Nat.le_succ_of_le (h v hv)
      · exact pay (List.mem_of_getElem? hu)
    · exact pay (List.mem_of_getElem? hu')
  | lin w o k n u l hu hl h1 h2 =>
    rcases zAM hv with hv | rfl
    · exact Nat.le_succ_of_le (h v hv)
    · show (u.rows ++ [_]).length ≤ R + 1
      rw [List.length_append]; exact Nat.succ_le_succ (h u (List.mem_of_getElem? hu))
theorem Step.few (S : Step us D us' out) : out.length ≤ 2 := by
  cases S <;> first | exact (by decide : 0 ≤ 2) | exact (by decide : 1 ≤ 2) | exact (by decide : 2 ≤ 2)
theorem Step.len (S : Step us D us' out) : us'.length = us.length + (match D with | .ord _ => 1 | _ => 0) := by
  cases S with
  | ord ls => rw [List.length_append]; rfl
  | pay o n u hu h1 => rw [List.length_set]; rfl
  | ref o n u hu h1 h2 => rw [List.length_set]; rfl
  | mov o p n u u' hu hu' hop h1 h2 => unfold movOr; rw [List.length_set, List.length_set]; rfl
  | lin w o k n u l hu hl h1 h2 => rw [List.length_set]; rfl
theorem Step.same_len (S : Step us D us' out) (hn : ∀ ls, D ≠ .ord ls) : us'.length = us.length := by
  have := S.len
  cases D with
  | ord ls => exact (hn ls rfl).elim
  | _ => exact this
theorem Step.ord_len (S : Step us D us' out) {ls : List Ln} (h : D = .ord ls) : us'.length = us.length + 1 := by
  subst h; exact S.len
end
end Mine
end

/-! # GE -/
section
set_option autoImplicit false
namespace Mine
open PySem
theorem mapM_self {f : V → Option PyData} (h : ∀ v x, f v = some x → PyData.eqv x x = true) : ∀ (xs : List V) (ys : List PyData), xs.mapM f = some ys → PyData.eqvAll ys ys = true
  | [], ys, e => by
    rw [List.mapM_nil] at e
    cases e; rfl
  | x :: xs, ys, e => by
    rw [List.mapM_cons] at e
    cases hx : f x with
    | none => rw [hx] at e; cases e
    | some y =>
      rw [hx] at e
      cases hr : xs.mapM f with
      | none => rw [hr] at e; cases e
      | some r =>
        rw [hr] at e
        cases e
        rw [PyData.eqvAll, h x y hx, mapM_self h xs r hr]; rfl
theorem toPy_self (σ : Sto) : ∀ (d : Nat) (v : V) (x : PyData), toPy σ d v = some x → PyData.eqv x x = true
  | 0, v, x, h => by cases h
  | d + 1, v, x, h => by
    have lst : ∀ {o : Option PyData} {c : List PyData → PyData} {xs : List V}, (∀ ys, PyData.eqv (c ys) (c ys) = PyData.eqvAll ys ys) → (xs.mapM (toPy σ d)).map c = some x → PyData.eqv x x = true := fun {o c xs} hc h => by
      obtain ⟨ys, hy, rfl⟩ := Option.map_eq_some_iff.mp h
      rw [hc]; exact mapM_self (toPy_self σ d) xs ys hy
    cases v with
    | undef => cases h
    | none => cases h; rfl
    | bool b => cases h; exact beq_self_eq_true b
    | int i => cases h; exact beq_self_eq_true i
    | str s => cases h; exact beq_self_eq_true s
    | tup xs => exact lst (o := none) (c := .tuple) (fun _ => rfl) h
    | lst xs => exact lst (o := none) (c := .list) (fun _ => rfl) h
    | ref n =>
      have h : toPyO (toPy σ d) σ[n]? = some x := h
      cases ho : σ[n]? with
      | none => rw [ho] at h; cases h
      | some o =>
        rw [ho] at h
        cases o with
        | list xs => exact lst (o := none) (c := .list) (fun _ => rfl) h
        | dict es => cases h
        | inst as => cases h
    | exc c => cases h
    | parts => cases h
noncomputable def Has (σ : Sto) (d : Nat) (v : V) : Prop := ∃ x, toPy σ d v = some x
theorem zEb {σ : Sto} {d : Nat} : ∀ {xs : List V}, (∀ x ∈ xs, Has σ d x) → ∃ ys, xs.mapM (toPy σ d) = some ys
  | [], _ => ⟨[], rfl⟩
  | x :: xs, h => by
    obtain ⟨y, hy⟩ := h x List.mem_cons_self
    obtain ⟨ys, hys⟩ := zEb fun z hz => h z (List.mem_cons_of_mem x hz)
    exact ⟨y :: ys, by rw [List.mapM_cons, hy, hys]; rfl⟩
theorem has_lst {σ : Sto} {d : Nat} {xs : List V} (h : ∀ x ∈ xs, Has σ d x) : Has σ (d + 1) (.lst xs) := by
  obtain ⟨ys, hy⟩ := zEb h
  exact ⟨.list ys, by show (xs.mapM (toPy σ d)).map PyData.list = _; rw [hy]; rfl⟩
theorem has_ref {σ : Sto} {d n : Nat} {xs : List V} (hn : σ[n]? = some (.list xs)) (h : ∀ x ∈ xs, Has σ d x) : ∃ x, toPy σ (d + 1) (.ref n) = some x ∧ toPyO (toPy σ d) (some (.list xs)) = some x := by
  obtain ⟨ys, hy⟩ := zEb h
  refine ⟨.list ys, ?_, by show (xs.mapM (toPy σ d)).map PyData.list = _; rw [hy]; rfl⟩
  show toPyO (toPy σ d) σ[n]? = _
  rw [hn]
  show (xs.mapM (toPy σ d)).map PyData.list = _; rw [hy]; rfl
theorem eqV_of {σ : Sto} {a b : V} {x : PyData} (ha : toPy σ eqDepth a = some x) (hb : toPy σ eqDepth b = some x) (hl : ∀ xs ys, listOf? σ a = some xs → listOf? σ b = some ys → xs.length = ys.length) : eqV σ a b = some true := by
  have e : eqV.eqD σ a b = some true := by
    show ((toPy σ eqDepth a).bind fun x => (toPy σ eqDepth b).map fun y => PyData.eqv x y) = _
    rw [ha, hb]
    show some (PyData.eqv x x) = _
    rw [toPy_self σ _ _ _ ha]
  unfold eqV
  split
  · rename_i xs ys h1 h2
    rw [hl xs ys h1 h2, bne_self_eq_false]; exact e
  · exact e
theorem eq_same {σ : Sto} {v : V} (h : Has σ eqDepth v) : eqV σ v v = some true := by
  obtain ⟨x, h⟩ := h
  exact eqV_of h h fun xs ys h1 h2 => by rw [h1] at h2; cases h2; rfl
theorem zCz {σ : Sto} {v : V} (h : Has σ eqDepth v) : ev2 .ne σ v v = some (.bool false) := by
  show (eqV σ v v).map _ = _
  rw [eq_same h]; rfl
inductive W8 where
  | lin (w : Wd) | pay | ref | mov | ord
noncomputable def W8.s : W8 → Str
  | .lin w => w.s
  | .pay => sPay
  | .ref => sRef
  | .mov => sMove
  | .ord => sOrd
theorem word12 (σ : Sto) (c : Int) : ∃ w : W8, ev2 .index σ (.lst [.str sDel, .str sDel, .str sDel, .str sDel, .str sBack, .str sSwap, .str sCred, .str sPay, .str sPay, .str sRef, .str sMove, .str sOrd]) (.int (c.fmod 12)) = some (.str w.s) := by
  obtain ⟨k, hk, h2⟩ := zDp c (m := 12) (by decide)
  rw [show ((12 : Nat) : Int) = 12 from rfl] at hk
  rw [hk]
  match k, h2 with
  | 0, _ => exact ⟨.lin .del, rfl⟩
  | 1, _ => exact ⟨.lin .del, rfl⟩
  | 2, _ => exact ⟨.lin .del, rfl⟩
  | 3, _ => exact ⟨.lin .del, rfl⟩
  | 4, _ => exact ⟨.lin .back, rfl⟩
  | 5, _ => exact ⟨.lin .swap, rfl⟩
  | 6, _ => exact ⟨.lin .cred, rfl⟩
  | 7, _ => exact ⟨.pay, rfl⟩
  | 8, _ => exact ⟨.pay, rfl⟩
  | 9, _ => exact ⟨.ref, rfl⟩
  | 10, _ => exact ⟨.mov, rfl⟩
  | 11, _ => exact ⟨.ord, rfl⟩
  | k + 12, h2 => omega
end Mine
end

/-! # PH -/
section
set_option autoImplicit false
namespace Mine
open PySem
noncomputable def hCell : Fn := { params := 2, slots := 2, body := [CS.ite (CE.p2 P2.lt (CE.var 1) (CE.p1 P1.len (CE.var 0))) [CS.ret (CE.p2 P2.index (CE.var 0) (CE.var 1))] [],CS.ret (CE.lit (V.int 0))] }
noncomputable def hWorth : Fn := { params := 1, slots := 1, body := [CS.ret (CE.p2 P2.fdiv (CE.p2 P2.mul (CE.p2 P2.sub (CE.p2 P2.index (CE.var 0) (CE.lit (V.int 4))) (CE.p2 P2.index (CE.var 0) (CE.lit (V.int 5)))) (CE.p2 P2.index (CE.var 0) (CE.lit (V.int 2)))) (CE.p2 P2.index (CE.var 0) (CE.lit (V.int 3))))] }
noncomputable def hOwed : Fn := { params := 1, slots := 1, body := [CS.ret (CE.p2 P2.sub (CE.p1 P1.sum (CE.comp (CE.p2 P2.sub (CE.call 102 [CE.var 1]) (CE.p2 P2.index (CE.var 1) (CE.lit (V.int 7)))) SK.val [CE.p2 P2.index (CE.var 0) (CE.lit (V.int 0))] none)) (CE.p2 P2.index (CE.var 0) (CE.lit (V.int 1))))] }
noncomputable def hMost : Fn := { params := 4, slots := 6, body := [CS.ite (CE.p1 P1.not (CE.chain (CE.lit (V.int 0)) [P2.le, P2.lt] [CE.var 1,CE.p1 P1.len (CE.var 3)])) [CS.ret (CE.lit (V.int 5))] [],CS.asg 4 (CE.call 103 [CE.p2 P2.index (CE.var 3) (CE.var 1)]),CS.ite (CE.p2 P2.eq (CE.var 0) (CE.lit (V.str { cps := #[112,97,121] }))) [CS.ret (CE.var 4)] [],CS.ite (CE.or (CE.p2 P2.eq (CE.var 0) (CE.lit (V.str { cps := #[114,101,102,117,110,100] }))) (CE.p2 P2.eq (CE.var 0) (CE.lit (V.str { cps := #[109,111,118,101] })))) [CS.ret (CE.p1 P1.neg (CE.var 4))] [],CS.ite (CE.p1 P1.not (CE.chain (CE.lit (V.int 0)) [P2.le, P2.lt] [CE.var 2,CE.p1 P1.len (CE.p2 P2.index (CE.p2 P2.index (CE.var 3) (CE.var 1)) (CE.lit (V.int 0)))])) [CS.ret (CE.lit (V.int 5))] [],CS.asg 5 (CE.p2 P2.index (CE.p2 P2.index (CE.p2 P2.index (CE.var 3) (CE.var 1)) (CE.lit (V.int 0))) (CE.var 2)),CS.ite (CE.p2 P2.eq (CE.var 0) (CE.lit (V.str { cps := #[100,101,108,105,118,101,114] }))) [CS.ret (CE.p2 P2.add (CE.p2 P2.sub (CE.p2 P2.index (CE.var 5) (CE.lit (V.int 1))) (CE.p2 P2.index (CE.var 5) (CE.lit (V.int 4)))) (CE.p2 P2.index (CE.var 5) (CE.lit (V.int 6))))] [],CS.ite (CE.p2 P2.eq (CE.var 0) (CE.lit (V.str { cps := #[99,114,101,100,105,116] }))) [CS.ret (CE.p2 P2.sub (CE.call 102 [CE.var 5]) (CE.p2 P2.index (CE.var 5) (CE.lit (V.int 7))))] [],CS.ret (CE.p2 P2.sub (CE.p2 P2.index (CE.var 5) (CE.lit (V.int 4))) (CE.p2 P2.index (CE.var 5) (CE.lit (V.int 5))))] }
noncomputable def hDeed : Fn := { params := 3, slots := 9, body := [CS.asg 3 (CE.list [CE.lit (V.str { cps := #[100,101,108,105,118,101,114] }),CE.lit (V.str { cps := #[100,101,108,105,118,101,114] }),CE.lit (V.str { cps := #[100,101,108,105,118,101,114] }),CE.lit (V.str { cps := #[100,101,108,105,118,101,114] }),CE.lit (V.str { cps := #[98,97,99,107] }),CE.lit (V.str { cps := #[115,119,97,112] }),CE.lit (V.str { cps := #[99,114,101,100,105,116] }),CE.lit (V.str { cps := #[112,97,121] }),CE.lit (V.str { cps := #[112,97,121] })]),CS.asg 3 (CE.p2 P2.add (CE.var 3) (CE.list [CE.lit (V.str { cps := #[114,101,102,117,110,100] }),CE.lit (V.str { cps := #[109,111,118,101] }),CE.lit (V.str { cps := #[111,114,100,101,114] })])),CS.asg 4 (CE.p2 P2.index (CE.var 3) (CE.p2 P2.mod (CE.p2 P2.mod (CE.p2 P2.mul (CE.var 0) (CE.lit (V.int 48271))) (CE.lit (V.int 10007))) (CE.lit (V.int 12)))),CS.ite (CE.or (CE.p2 P2.eq (CE.var 2) (CE.list [])) (CE.and (CE.p2 P2.eq (CE.var 4) (CE.lit (V.str { cps := #[111,114,100,101,114] }))) (CE.p2 P2.lt (CE.p1 P1.len (CE.var 2)) (CE.lit (V.int 4))))) [CS.ret (CE.tup [CE.lit (V.str { cps := #[111,114,100,101,114] }),CE.call 108 [CE.var 1]])] [],CS.ite (CE.p2 P2.eq (CE.var 4) (CE.lit (V.str { cps := #[111,114,100,101,114] }))) [CS.asg 4 (CE.lit (V.str { cps := #[109,111,118,101] }))] [],CS.asg 5 (CE.call 105 [CE.var 0,CE.lit (V.int 10037),CE.p1 P1.len (CE.var 2)]),CS.ite (CE.or (CE.p2 P2.eq (CE.var 4) (CE.lit (V.str { cps := #[112,97,121] }))) (CE.p2 P2.eq (CE.var 4) (CE.lit (V.str { cps := #[114,101,102,117,110,100] })))) [CS.ret (CE.tup [CE.var 4,CE.var 5,CE.call 106 [CE.var 1,CE.call 104 [CE.var 4,CE.var 5,CE.lit (V.int 0),CE.var 2]]])] [],CS.ite (CE.p2 P2.eq (CE.var 4) (CE.lit (V.str { cps := #[109,111,118,101] }))) [CS.asg 6 (CE.call 105 [CE.var 1,CE.lit (V.int 10099),CE.p1 P1.len (CE.var 2)]),CS.ret (CE.tup [CE.var 4,CE.var 5,CE.var 6,CE.call 106 [CE.var 1,CE.call 104 [CE.var 4,CE.var 5,CE.lit (V.int 0),CE.var 2]]])] [],CS.asg 7 (CE.lit (V.int 1)),CS.ite (CE.chain (CE.lit (V.int 0)) [P2.le, P2.lt] [CE.var 5,CE.p1 P1.len (CE.var 2)]) [CS.asg 7 (CE.p1 P1.len (CE.p2 P2.index (CE.p2 P2.index (CE.var 2) (CE.var 5)) (CE.lit (V.int 0))))] [],CS.asg 8 (CE.call 105 [CE.var 0,CE.lit (V.int 10091),CE.var 7]),CS.ret (CE.tup [CE.var 4,CE.var 5,CE.var 8,CE.call 106 [CE.var 1,CE.call 104 [CE.var 4,CE.var 5,CE.var 8,CE.var 2]]])] }
noncomputable def hRefusal : Fn := { params := 2, slots := 4, body := [CS.ite (CE.p2 P2.eq (CE.p2 P2.index (CE.var 0) (CE.lit (V.int 0))) (CE.lit (V.str { cps := #[111,114,100,101,114] }))) [CS.ret (CE.lit (V.str { cps := #[] }))] [],CS.ite (CE.or (CE.p1 P1.not (CE.chain (CE.lit (V.int 0)) [P2.le, P2.lt] [CE.p2 P2.index (CE.var 0) (CE.lit (V.int 1)),CE.p1 P1.len (CE.var 1)])) (CE.and (CE.p2 P2.eq (CE.p2 P2.index (CE.var 0) (CE.lit (V.int 0))) (CE.lit (V.str { cps := #[109,111,118,101] }))) (CE.p1 P1.not (CE.chain (CE.lit (V.int 0)) [P2.le, P2.lt] [CE.p2 P2.index (CE.var 0) (CE.lit (V.int 2)),CE.p1 P1.len (CE.var 1)])))) [CS.ret (CE.lit (V.str { cps := #[78,111,79,114,100,101,114] }))] [],CS.ite (CE.and (CE.p2 P2.eq (CE.p2 P2.index (CE.var 0) (CE.lit (V.int 0))) (CE.lit (V.str { cps := #[109,111,118,101] }))) (CE.p2 P2.eq (CE.p2 P2.index (CE.var 0) (CE.lit (V.int 1))) (CE.p2 P2.index (CE.var 0) (CE.lit (V.int 2))))) [CS.ret (CE.lit (V.str { cps := #[83,97,109,101,79,114,100,101,114] }))] [],CS.asg 2 (CE.lit (V.int 0)),CS.ite (CE.and (CE.p2 P2.eq (CE.p1 P1.len (CE.var 0)) (CE.lit (V.int 4))) (CE.p2 P2.ne (CE.p2 P2.index (CE.var 0) (CE.lit (V.int 0))) (CE.lit (V.str { cps := #[109,111,118,101] })))) [CS.asg 2 (CE.p2 P2.index (CE.var 0) (CE.lit (V.int 2)))] [],CS.ite (CE.p1 P1.not (CE.chain (CE.lit (V.int 0)) [P2.le, P2.lt] [CE.var 2,CE.p1 P1.len (CE.p2 P2.index (CE.p2 P2.index (CE.var 1) (CE.p2 P2.index (CE.var 0) (CE.lit (V.int 1)))) (CE.lit (V.int 0)))])) [CS.ret (CE.lit (V.str { cps := #[78,111,76,105,110,101] }))] [],CS.asg 3 (CE.p2 P2.index (CE.var 0) (CE.p2 P2.sub (CE.p1 P1.len (CE.var 0)) (CE.lit (V.int 1)))),CS.ite (CE.p2 P2.lt (CE.var 3) (CE.lit (V.int 1))) [CS.ret (CE.lit (V.str { cps := #[78,111,78,117,109,98,101,114] }))] [],CS.ite (CE.and (CE.p2 P2.ne (CE.p2 P2.index (CE.var 0) (CE.lit (V.int 0))) (CE.lit (V.str { cps := #[112,97,121] }))) (CE.p2 P2.gt (CE.var 3) (CE.call 104 [CE.p2 P2.index (CE.var 0) (CE.lit (V.int 0)),CE.p2 P2.index (CE.var 0) (CE.lit (V.int 1)),CE.var 2,CE.var 1]))) [CS.ret (CE.lit (V.str { cps := #[84,111,111,77,117,99,104] }))] [],CS.ret (CE.lit (V.str { cps := #[] }))] }
noncomputable def hTurned : Fn := { params := 2, slots := 5, body := [CS.asg 2 (CE.p2 P2.index (CE.var 0) (CE.p2 P2.sub (CE.p1 P1.len (CE.var 0)) (CE.lit (V.int 1)))),CS.ite (CE.or (CE.p2 P2.eq (CE.p2 P2.index (CE.var 0) (CE.lit (V.int 0))) (CE.lit (V.str { cps := #[112,97,121] }))) (CE.or (CE.p2 P2.eq (CE.p2 P2.index (CE.var 0) (CE.lit (V.int 0))) (CE.lit (V.str { cps := #[114,101,102,117,110,100] }))) (CE.p2 P2.eq (CE.p2 P2.index (CE.var 0) (CE.lit (V.int 0))) (CE.lit (V.str { cps := #[109,111,118,101] }))))) [CS.asg 3 (CE.p2 P2.sub (CE.lit (V.int 1)) (CE.p2 P2.mul (CE.lit (V.int 2)) (CE.p1 P1.toInt (CE.p2 P2.ne (CE.p2 P2.index (CE.var 0) (CE.lit (V.int 0))) (CE.lit (V.str { cps := #[112,97,121] })))))),CS.setItem (CE.p2 P2.index (CE.var 1) (CE.p2 P2.index (CE.var 0) (CE.lit (V.int 1)))) (CE.lit (V.int 1)) (CE.p2 P2.add (CE.p2 P2.index (CE.p2 P2.index (CE.var 1) (CE.p2 P2.index (CE.var 0) (CE.lit (V.int 1)))) (CE.lit (V.int 1))) (CE.p2 P2.mul (CE.var 3) (CE.var 2))),CS.ite (CE.p2 P2.eq (CE.p2 P2.index (CE.var 0) (CE.lit (V.int 0))) (CE.lit (V.str { cps := #[109,111,118,101] }))) [CS.setItem (CE.p2 P2.index (CE.var 1) (CE.p2 P2.index (CE.var 0) (CE.lit (V.int 2)))) (CE.lit (V.int 1)) (CE.p2 P2.add (CE.p2 P2.index (CE.p2 P2.index (CE.var 1) (CE.p2 P2.index (CE.var 0) (CE.lit (V.int 2)))) (CE.lit (V.int 1))) (CE.var 2))] [],CS.ret (CE.var 0)] [],CS.asg 4 (CE.p2 P2.index (CE.p2 P2.index (CE.p2 P2.index (CE.var 1) (CE.p2 P2.index (CE.var 0) (CE.lit (V.int 1)))) (CE.lit (V.int 0))) (CE.p2 P2.index (CE.var 0) (CE.lit (V.int 2)))),CS.ite (CE.p2 P2.eq (CE.p2 P2.index (CE.var 0) (CE.lit (V.int 0))) (CE.lit (V.str { cps := #[100,101,108,105,118,101,114] }))) [CS.setItem (CE.var 4) (CE.lit (V.int 4)) (CE.p2 P2.add (CE.p2 P2.index (CE.var 4) (CE.lit (V.int 4))) (CE.var 2))] [CS.ite (CE.p2 P2.eq (CE.p2 P2.index (CE.var 0) (CE.lit (V.int 0))) (CE.lit (V.str { cps := #[99,114,101,100,105,116] }))) [CS.setItem (CE.var 4) (CE.lit (V.int 7)) (CE.p2 P2.add (CE.p2 P2.index (CE.var 4) (CE.lit (V.int 7))) (CE.var 2))] [CS.setItem (CE.var 4) (CE.lit (V.int 5)) (CE.p2 P2.add (CE.p2 P2.index (CE.var 4) (CE.lit (V.int 5))) (CE.var 2)),CS.setItem (CE.var 4) (CE.lit (V.int 6)) (CE.p2 P2.add (CE.p2 P2.index (CE.var 4) (CE.lit (V.int 6))) (CE.p2 P2.mul (CE.var 2) (CE.p1 P1.toInt (CE.p2 P2.eq (CE.p2 P2.index (CE.var 0) (CE.lit (V.int 0))) (CE.lit (V.str { cps := #[115,119,97,112] })))))),CS.setItem (CE.var 4) (CE.lit (V.int 7)) (CE.p2 P2.min (CE.p2 P2.index (CE.var 4) (CE.lit (V.int 7))) (CE.call 102 [CE.var 4]))]],CS.ret (CE.var 0)] }
noncomputable def hStep : Fn := { params := 2, slots := 6, body := [CS.ite (CE.p2 P2.eq (CE.p2 P2.index (CE.var 0) (CE.lit (V.int 0))) (CE.lit (V.str { cps := #[111,114,100,101,114] }))) [CS.exp (CE.append (CE.var 1) (CE.trk (CE.list [CE.comp (CE.trk (CE.p2 P2.add (CE.p1 P1.toList (CE.var 6)) (CE.list [CE.lit (V.int 0),CE.lit (V.int 0),CE.lit (V.int 0),CE.lit (V.int 0)]))) SK.val [CE.p2 P2.index (CE.var 0) (CE.lit (V.int 1))] none, CE.lit (V.int 0),CE.trk (CE.list [])]))),CS.ret (CE.list [])] [],CS.asg 2 (CE.list [CE.p2 P2.index (CE.var 0) (CE.lit (V.int 1))]),CS.ite (CE.p2 P2.eq (CE.p2 P2.index (CE.var 0) (CE.lit (V.int 0))) (CE.lit (V.str { cps := #[109,111,118,101] }))) [CS.asg 2 (CE.list [CE.p2 P2.index (CE.var 0) (CE.lit (V.int 1)),CE.p2 P2.index (CE.var 0) (CE.lit (V.int 2))])] [],CS.asg 3 (CE.comp (CE.call 103 [CE.var 6]) SK.val [CE.var 1] none),CS.exp (CE.call 111 [CE.var 0,CE.var 1]),CS.asg 4 (CE.comp (CE.tup [CE.var 6,CE.p2 P2.sub (CE.call 103 [CE.p2 P2.index (CE.var 1) (CE.var 6)]) (CE.p2 P2.index (CE.var 3) (CE.var 6))]) SK.val [CE.var 2] none),CS.for 5 SK.val [CE.var 4] [CS.exp (CE.append (CE.p2 P2.index (CE.p2 P2.index (CE.var 1) (CE.p2 P2.index (CE.var 5) (CE.lit (V.int 0)))) (CE.lit (V.int 2))) (CE.tup [CE.p2 P2.index (CE.var 0) (CE.lit (V.int 0)),CE.p2 P2.index (CE.var 5) (CE.lit (V.int 1))]))],CS.ret (CE.var 4)] }
structure ModTab (T : Nat → Option Fn) : Prop where
  t100 : T 100 = some hCell
  t102 : T 102 = some hWorth
  t103 : T 103 = some hOwed
  t104 : T 104 = some hMost
  t109 : T 109 = some hDeed
  t110 : T 110 = some hRefusal
  t111 : T 111 = some hTurned
  t112 : T 112 = some hStep
  t101 : T 101 = some gWhole
  t105 : T 105 = some gPlace
  t106 : T 106 = some gNumber
  t107 : T 107 = some gItem
  t108 : T 108 = some (gLines 107)
end Mine
end

/-! # HA -/
section
set_option autoImplicit false
namespace Mine
open PySem
theorem fold_inv {it : Items} {f : V → List V → Sto → R (List V)} {xs : List V} {acc : List V} {σ : Sto} (I : Nat → List V → Sto → Prop) (hit : ∀ i acc σ, I i acc σ → Gives σ it xs) (h0 : I 0 acc σ)
    (hs : ∀ i x acc σ, xs[i]? = some x → I i acc σ → ∃ acc' σ', f x acc σ = .ok acc' σ' ∧ I (i + 1) acc' σ') :
    ∃ acc' σ', foldItems it f acc σ = .ok acc' σ' ∧ I xs.length acc' σ' := by
  have key : ∀ k i acc σ, k + i = xs.length → I i acc σ → ∃ acc' σ', foldIt it f (k + 1) i acc σ = .ok acc' σ' ∧ I xs.length acc' σ' := by
    intro k
    induction k with
    | zero =>
      intro i acc σ hi h
      obtain rfl : i = xs.length := by omega
      refine ⟨acc, σ, ?_, h⟩
      rw [foldIt, (hit _ _ _ h).next, List.getElem?_eq_none (Nat.le_refl _)]
    | succ k ih =>
      intro i acc σ hi h
      have hlt : i < xs.length := by omega
      obtain ⟨acc', σ', e, h'⟩ := hs i _ acc σ (List.getElem?_eq_getElem hlt) h
      obtain ⟨acc'', σ'', e', h''⟩ := ih (i + 1) acc' σ' (by omega) h'
      refine ⟨acc'', σ'', ?_, h''⟩
      rw [foldIt, (hit _ _ _ h).next, List.getElem?_eq_getElem hlt]
      show R.bind (f xs[i] acc σ) _ = _
      rw [e]; exact e'
  rw [foldItems, (hit _ _ _ h0).fuel]
  exact key xs.length 0 acc σ rfl h0
theorem comp_inv {F : Calls} {elt : CE} {k : SK} {src : List CE} {ρ vs : List V} {σ σ₁ : Sto} {it : Items} {xs : List V} (I : Nat → List V → Sto → Prop)
    (hsrc : evL F false src ρ σ = .ok vs σ₁) (hit : itemsBy σ₁ k vs = some it) (hI : ∀ j acc σ, I j acc σ → Gives σ it xs ∧ acc.length = j) (hl : xs.length ≤ LIM) (h0 : I 0 [] σ₁)
    (hs : ∀ j x acc σ, xs[j]? = some x → I j acc σ → ∃ y σ', evE F false elt (ρ ++ [x]) σ = .ok y σ' ∧ I (j + 1) (acc ++ [y]) σ') :
    ∃ acc σ', evE F false (.comp elt k src none) ρ σ = .ok (.lst acc) σ' ∧ I xs.length acc σ' := by
  obtain ⟨acc, σ', e, h⟩ := fold_inv (it := it) (f := fun x acc σ => (evC F false none (ρ ++ [x]) σ).calm.bind fun t σ => if t then (evE F false elt (ρ ++ [x]) σ).calm.bind fun y σ => (if acc.length < LIM then .ok (acc ++ [y]) σ else .stuck) else .ok acc σ) I (fun j acc σ h => (hI j acc σ h).1) h0 (fun j x acc σ hx h => by
    obtain ⟨y, σ', e, h'⟩ := hs j x acc σ hx h
    refine ⟨acc ++ [y], σ', ?_, h'⟩
    show R.bind (evE F false elt (ρ ++ [x]) σ).calm _ = _
    rw [e]
    show (if acc.length < LIM then R.ok (acc ++ [y]) σ' else .stuck) = _
    rw [if_pos (by rw [(hI j acc σ h).2]; have := (List.getElem?_eq_some_iff.mp hx).1; omega)])
  refine ⟨acc, σ', ?_, h⟩
  show ((evL F false src ρ σ).bind fun vs σ => (R.lift σ (itemsBy σ k vs)).bind fun it σ =>
      (foldItems it (fun x acc σ => (evC F false none (ρ ++ [x]) σ).calm.bind fun t σ => if t then (evE F false elt (ρ ++ [x]) σ).calm.bind fun y σ => (if acc.length < LIM then .ok (acc ++ [y]) σ else .stuck) else .ok acc σ) [] σ).bind fun acc σ => R.ok (V.lst acc) σ) = _
  rw [hsrc, R.bind_ok, hit, R.lift_some, R.bind_ok, e]; rfl
theorem zEg {F : Calls} {elt : CE} {k : SK} {src : List CE} {ρ vs : List V} {σ σ₁ : Sto} {it : Items} {xs ys : List V} (hsrc : evL F false src ρ σ = .ok vs σ₁) (hit : itemsBy σ₁ k vs = some it) (hg : Gives σ₁ it xs) (hl : xs.length ≤ LIM) (hlen : xs.length = ys.length)
    (h : ∀ (j : Nat) (x : V), xs[j]? = some x → ∃ y, ys[j]? = some y ∧ evE F false elt (ρ ++ [x]) σ₁ = .ok y σ₁) : evE F false (.comp elt k src none) ρ σ = .ok (.lst ys) σ₁ := by
  obtain ⟨acc, σ', e, h1, h2, h3⟩ := comp_inv (elt := elt) (fun j acc σ => σ = σ₁ ∧ acc = ys.take j ∧ j ≤ ys.length) hsrc hit (fun j acc σ hI => by obtain ⟨rfl, rfl, hj⟩ := hI; exact ⟨hg, by rw [List.length_take]; omega⟩) hl ⟨rfl, rfl, Nat.zero_le _⟩ fun j x acc σ hx hI => by
    obtain ⟨rfl, rfl, hj⟩ := hI
    obtain ⟨y, hy, e⟩ := h j x hx
    exact ⟨y, _, e, rfl, by rw [List.take_add_one, hy]; rfl, (List.getElem?_eq_some_iff.mp hy).1⟩
  rw [e, h2, h1, hlen, List.take_length]
inductive Role where
  | bk (i : Nat) | en (i : Nat) | hi (i : Nat) | acc (i : Nat) | ord (i o : Nat) | row (i o : Nat) | lin (i o k : Nat) | kept | fresh | other
noncomputable def lnL (l : Ln) : List V := [.str l.item, .int l.p, .int l.c, .int l.k, .int l.s, .int l.b, .int l.a, .int l.r]
inductive OrdAt (σ : Sto) (ro : Nat → Role) (i o r : Nat) (u : Or) : Prop
  | mk (q : Nat) (ls : List V) (hr : σ[r]? = some (.list [.lst ls, .int u.paid, .ref q])) (rr : ro r = .ord i o) (hq : σ[q]? = some (.list (u.rows.map rowV))) (rq : ro q = .row i o) (hl : ls.length = u.lines.length)
      (hls : ∀ (k : Nat) (l : Ln), u.lines[k]? = some l → ∃ n : Nat, ls[k]? = some (.ref n) ∧ σ[n]? = some (.list (lnL l)) ∧ ro n = .lin i o k)
structure Acct (σ : Sto) (ro : Nat → Role) (i a : Nat) (us : List Or) (rs : List V) : Prop where
  ord : σ[a]? = some (.list rs)
  ra : ro a = .acc i
  len : rs.length = us.length
  at_ : ∀ (o : Nat) (u : Or), us[o]? = some u → ∃ r : Nat, rs[o]? = some (.ref r) ∧ OrdAt σ ro i o r u
section
variable {T : Nat → Option Fn} {d : Nat} {q : Bool} {σ : Sto} {ro : Nat → Role} {i a o r n : Nat} {us : List Or} {rs : List V} {u : Or} {l : Ln}
theorem h_cell (M : ModTab T) (l : List Int) (k : Nat) : callFn T (d + 1) q 100 [.lst (iv l), .int k] σ = .ok (.int (gI l k)) σ := by
  by_cases h : k < l.length
  · exact zAD M.t100 rfl (s_t (zAC (t := true) (e_p2 rfl (e_p1 rfl (zAa σ (iv l))) (by rw [zBY, iv_len, decide_eq_true (by omega)]))) (s_ret (e_p2 rfl rfl (zEa σ h))))
  · have hg : gI l k = 0 := by simp [gI, List.getElem?_eq_none (Nat.le_of_not_lt h)]
    rw [hg]
    exact zAD M.t100 rfl (s_f (zAC (t := false) (e_p2 rfl (e_p1 rfl (zAa σ (iv l))) (by rw [zBY, iv_len, decide_eq_false (by omega)]))) (s_ret rfl))
theorem zAT {F : Calls} {ρ : List V} {j k : Nat} {x : V} (hn : σ[n]? = some (.list (lnL l))) (hv : readVar ρ j = some (.ref n)) (hx : (lnL l)[k]? = some x) : evE F q (.p2 .index (.var j) (.lit (.int k))) ρ σ = .ok x σ :=
  e_p2 (by rw [x_var, hv]; rfl) rfl (zAK σ hn hx)
theorem h_worth (M : ModTab T) (hn : σ[n]? = some (.list (lnL l))) (ok : l.ok) : callFn T (d + 1) q 102 [.ref n] σ = .ok (.int l.worth) σ :=
  zAD M.t102 rfl (s_ret (e_p2 (e_p2 (e_p2 (zAT (k := 4) hn rfl rfl) (zAT (k := 5) hn rfl rfl) rfl) (zAT (k := 2) hn rfl rfl) (zAh σ _ _ (.inr (small_c ok)))) (zAT (k := 3) hn rfl rfl) (zBH σ _ _ (div_ok ok.k1 ok.k2))))
theorem OrdAt.index (A : OrdAt σ ro i o r u) : ∃ ls : List V, ev2 .index σ (.ref r) (.int 0) = some (.lst ls) ∧ ev2 .index σ (.ref r) (.int 1) = some (.int u.paid) ∧ ls.length = u.lines.length ∧ ∀ (k : Nat) (l : Ln), u.lines[k]? = some l → ∃ n : Nat, ls[k]? = some (.ref n) ∧ σ[n]? = some (.list (lnL l)) := by
  cases A with
  | mk q ls hr rr hq rq hl hls => exact ⟨ls, zAK σ (i := 0) hr rfl, zAK σ (i := 1) hr rfl, hl, fun k l h => by obtain ⟨n, h1, h2, _⟩ := hls k l h; exact ⟨n, h1, h2⟩⟩
theorem h_owed (M : ModTab T) (A : OrdAt σ ro i o r u) (ok : u.ok) : callFn T (d + 2) false 103 [.ref r] σ = .ok (.int u.owed) σ := by
  obtain ⟨ls, h0, h1, hl, hls⟩ := A.index
  refine zAD M.t103 rfl (s_ret (e_p2 (x := .int (u.lines.map Ln.charge).sum) (e_p1 (x := .lst (iv (u.lines.map Ln.charge))) (zEg (vs := [.lst ls]) (xs := ls) (zAB (e_p2 rfl rfl h0) rfl) rfl (.inl rfl) (by rw [hl]; exact Nat.le_of_lt ok.lim) (by rw [iv_len, List.length_map]; exact hl) fun j x hx => ?_) (zEd σ _)) (e_p2 rfl rfl h1) rfl))
  have hj : j < u.lines.length := by rw [← hl]; exact (List.getElem?_eq_some_iff.mp hx).1
  have hlj : u.lines[j]? = some u.lines[j] := List.getElem?_eq_getElem hj
  generalize u.lines[j] = l at hlj
  obtain ⟨n, hn, hnn⟩ := hls j l hlj
  rw [hn] at hx; cases hx
  refine ⟨.int l.charge, by unfold iv; rw [List.getElem?_map, List.getElem?_map, hlj]; rfl, e_p2 (zAG rfl (h_worth M hnn (ok.ls l (List.mem_of_getElem? hlj)))) (zAT (k := 7) hnn rfl rfl) rfl⟩
theorem Acct.index (A : Acct σ ro i a us rs) (hu : us[o]? = some u) : ∃ r : Nat, ev2 .index σ (.ref a) (.int o) = some (.ref r) ∧ OrdAt σ ro i o r u := by
  obtain ⟨r, hr, h⟩ := A.at_ o u hu
  exact ⟨r, zAK σ A.ord hr, h⟩
theorem Acct.e_len {F : Calls} {ρ : List V} {j : Nat} (A : Acct σ ro i a us rs) (h : readVar ρ j = some (.ref a)) : evE F q (.p1 .len (.var j)) ρ σ = .ok (.int us.length) σ :=
  e_p1 (x := .ref a) (by rw [x_var, h]; rfl) (by rw [zAs σ A.ord, A.len])
noncomputable def mostX (w : W8) (us : List Or) (at' place : Int) : Int := match atI us at' with
  | none => 5
  | some u => match w with
    | .pay => u.owed
    | .ref => -u.owed
    | .mov => -u.owed
    | .lin w => (match atI u.lines place with
      | none => 5
      | some l => mostOf w l)
    | .ord => 5
theorem h_most (M : ModTab T) (A : Acct σ ro i a us rs) (hok : ∀ u ∈ us, u.ok) (w : W8) (hw : w ≠ .ord) (at' place : Int) : callFn T (d + 3) false 104 [.str w.s, .int at', .int place, .ref a] σ = .ok (.int (mostX w us at' place)) σ := by
  refine zAD M.t104 rfl ?_
  show exL (callFn T (d + 2) false) (callFn T (d + 2) true) false hMost.body [.str w.s, .int at', .int place, .ref a, .undef, .undef] σ = _
  have hlen : evE (callFn T (d + 2) false) false (.p1 .len (.var 3)) [.str w.s, .int at', .int place, .ref a, .undef, .undef] σ = .ok (.int us.length) σ := A.e_len rfl
  unfold mostX
  cases hat : atI us at' with
  | none => exact s_t (zAC (e_p1 (zAd rfl rfl hlen) (by rw [zBW hat]; rfl))) (s_ret rfl)
  | some u =>
    obtain ⟨o, rfl, hu⟩ := zAO hat
    have ok := hok u (List.mem_of_getElem? hu)
    obtain ⟨r, hr, O⟩ := A.index hu
    have pre : ∀ {r : R Fl}, exL (callFn T (d + 2) false) (callFn T (d + 2) true) false (hMost.body.drop 2) [.str w.s, .int o, .int place, .ref a, .int u.owed, .undef] σ = r → exL (callFn T (d + 2) false) (callFn T (d + 2) true) false hMost.body [.str w.s, .int o, .int place, .ref a, .undef, .undef] σ = r := fun kk =>
      s_f (zAC (e_p1 (zAd rfl rfl hlen) (by rw [zBX.mpr ⟨o, rfl, (List.getElem?_eq_some_iff.mp hu).1⟩]; rfl))) (s_asg (zAG (zAB (e_p2 rfl rfl hr) rfl) (h_owed M O ok)) kk)
    cases w with
    | ord => exact (hw rfl).elim
    | pay => exact pre (s_t rfl (s_ret rfl))
    | ref => exact pre (s_f rfl (s_t rfl (s_ret rfl)))
    | mov => exact pre (s_f rfl (s_t rfl (s_ret rfl)))
    | lin w =>
      obtain ⟨ls, h0, h1, hl, hls⟩ := O.index
      have i0 : ∀ {F : Calls}, evE F false (.p2 .index (.p2 .index (.var 3) (.var 1)) (.lit (.int 0))) [.str w.s, .int o, .int place, .ref a, .int u.owed, .undef] σ = .ok (.lst ls) σ := e_p2 (e_p2 rfl rfl hr) rfl h0
      have hlen2 : evE (callFn T (d + 2) false) false (.p1 .len (.p2 .index (.p2 .index (.var 3) (.var 1)) (.lit (.int 0)))) [.str w.s, .int o, .int place, .ref a, .int u.owed, .undef] σ = .ok (.int u.lines.length) σ := e_p1 i0 (by rw [zAa, hl])
      have pre2 : ∀ {r : R Fl}, exL (callFn T (d + 2) false) (callFn T (d + 2) true) false (hMost.body.drop 4) [.str w.s, .int o, .int place, .ref a, .int u.owed, .undef] σ = r → exL (callFn T (d + 2) false) (callFn T (d + 2) true) false hMost.body [.str w.s, .int o, .int place, .ref a, .undef, .undef] σ = r := fun kk =>
        pre (s_f (zAC (e_p2 rfl rfl (w_pay w))) (s_f (zAC (zAW (e_p2 rfl rfl (w_ref w)) rfl (e_p2 rfl rfl (zBa w)))) kk))
      show _ = R.ok (Fl.ret (V.int (match atI u.lines place with | none => 5 | some l => mostOf w l))) σ
      cases hpl : atI u.lines place with
      | none => exact pre2 (s_t (zAC (e_p1 (zAd rfl rfl hlen2) (by rw [zBW hpl]; rfl))) (s_ret rfl))
      | some l =>
        obtain ⟨k, rfl, hk⟩ := zAO hpl
        obtain ⟨n, hn, hnn⟩ := hls k l hk
        have il := ok.ls l (List.mem_of_getElem? hk)
        have pre3 : ∀ {r : R Fl}, exL (callFn T (d + 2) false) (callFn T (d + 2) true) false (hMost.body.drop 6) [.str w.s, .int o, .int k, .ref a, .int u.owed, .ref n] σ = r → exL (callFn T (d + 2) false) (callFn T (d + 2) true) false hMost.body [.str w.s, .int o, .int k, .ref a, .undef, .undef] σ = r := fun kk =>
          pre2 (s_f (zAC (e_p1 (zAd rfl rfl hlen2) (by rw [zBX.mpr ⟨k, rfl, (List.getElem?_eq_some_iff.mp hk).1⟩]; rfl))) (s_asg (e_p2 i0 rfl (zAp σ hn)) kk))
        cases w with
        | del => exact pre3 (s_t rfl (s_ret (e_p2 (e_p2 (zAT (k := 1) hnn rfl rfl) (zAT (k := 4) hnn rfl rfl) rfl) (zAT (k := 6) hnn rfl rfl) rfl)))
        | cred => exact pre3 (s_f rfl (s_t rfl (s_ret (e_p2 (zAG rfl (h_worth M hnn il)) (zAT (k := 7) hnn rfl rfl) rfl))))
        | back => exact pre3 (s_f rfl (s_f rfl (s_ret (e_p2 (zAT (k := 4) hnn rfl rfl) (zAT (k := 5) hnn rfl rfl) rfl))))
        | swap => exact pre3 (s_f rfl (s_f rfl (s_ret (e_p2 (zAT (k := 4) hnn rfl rfl) (zAT (k := 5) hnn rfl rfl) rfl))))
end
end Mine
end

/-! # HB -/
section
set_option autoImplicit false
namespace Mine
open PySem
inductive Drew (σ : Sto) (us : List Or) (r : R V) : Prop
  | ord (ls : List Ln) (hf : (Deed.ord ls).fit us) (h4 : us.length < 4) (er : r = .ok ((Deed.ord ls).raw σ.length) (σ ++ [.list (ls.map Ln.raw)]))
  | oth (D : Deed) (hn : ∀ ls, D ≠ .ord ls) (er : r = .ok D.v σ)
section
variable {T : Nat → Option Fn} {d : Nat} {q : Bool} {σ : Sto} {ro : Nat → Role} {i a o r n : Nat} {us : List Or} {rs : List V} {u : Or} {l : Ln}
theorem eq_nil {m : Nat} (hm : σ[m]? = some (.list rs)) : ev2 .eq σ (.ref m) (.lst []) = some (.bool (rs.length == 0)) := by
  have h1 : listOf? σ (.ref m) = some rs := by show listR σ[m]? = _; rw [hm]; rfl
  show (eqV σ (.ref m) (.lst [])).map V.bool = _
  cases rs with
  | cons x rs =>
    have : eqV σ (.ref m) (.lst []) = some false := by
      unfold eqV; rw [h1]; rfl
    rw [this]; rfl
  | nil =>
    have : eqV σ (.ref m) (.lst []) = some true := by
      unfold eqV; rw [h1]
      show ((toPyO (toPy σ 7) σ[m]?).bind fun x => some (PyData.eqv x (.list []))) = some true
      rw [hm]; rfl
    rw [this]; rfl
theorem h_deed (M : ModTab T) (A : Acct σ ro i a us rs) (hok : ∀ u ∈ us, u.ok) (c c2 : Int) : Drew σ us (callFn T (d + 4) false 109 [.int c, .int c2, .ref a] σ) := by
  obtain ⟨w, hw⟩ := word12 σ ((c * 48271).fmod 10007)
  have hcall : ∀ {v : V} {σ' : Sto}, exL (callFn T (d + 3) false) (callFn T (d + 3) true) false hDeed.body [.int c, .int c2, .ref a, .undef, .undef, .undef, .undef, .undef, .undef] σ = .ok (.ret v) σ' → callFn T (d + 4) false 109 [.int c, .int c2, .ref a] σ = .ok v σ' := fun hx => zAD M.t109 rfl hx
  have pre : ∀ {r : R Fl}, exL (callFn T (d + 3) false) (callFn T (d + 3) true) false (hDeed.body.drop 3) [.int c, .int c2, .ref a, .lst [.str sDel, .str sDel, .str sDel, .str sDel, .str sBack, .str sSwap, .str sCred, .str sPay, .str sPay, .str sRef, .str sMove, .str sOrd], .str w.s, .undef, .undef, .undef, .undef] σ = r →
      exL (callFn T (d + 3) false) (callFn T (d + 3) true) false hDeed.body [.int c, .int c2, .ref a, .undef, .undef, .undef, .undef, .undef, .undef] σ = r := fun kk =>
    s_asg rfl (s_asg rfl (s_asg (v := .str w.s) (e_p2 rfl (zAy (c := c) rfl rfl rfl rfl rfl) hw) kk))
  generalize hws : (V.lst [.str sDel, .str sDel, .str sDel, .str sDel, .str sBack, .str sSwap, .str sCred, .str sPay, .str sPay, .str sRef, .str sMove, .str sOrd]) = ws at pre
  clear hw
  have hlen : ∀ {ρ : List V}, readVar ρ 2 = some (.ref a) → evE (callFn T (d + 3) false) false (.p1 .len (.var 2)) ρ σ = .ok (.int us.length) σ := fun h2 => A.e_len h2
  have ht1 : evE (callFn T (d + 3) false) false (.p2 .eq (.var 2) (.list [])) [.int c, .int c2, .ref a, ws, .str w.s, .undef, .undef, .undef, .undef] σ = .ok (.bool (us.length == 0)) σ := e_p2 rfl rfl (by rw [eq_nil A.ord, A.len])
  have ord : us.length < 4 → ((us.length == 0) = true ∨ (us.length == 0) = false ∧ w = .ord) → Drew σ us (callFn T (d + 4) false 109 [.int c, .int c2, .ref a] σ) := fun h4 ho => by
    obtain ⟨ls, l1, l2, l3, hl⟩ := g_lines (T := T) (d := d + 1) (k := 108) (it := 107) (σ := σ) M.t108 M.t107 c2
    have rt : exL (callFn T (d + 3) false) (callFn T (d + 3) true) false (.ret (.tup [.lit (.str sOrd), .call 108 [.var 1]]) :: hDeed.body.drop 4) [.int c, .int c2, .ref a, ws, .str w.s, .undef, .undef, .undef, .undef] σ = .ok (.ret ((Deed.ord ls).raw σ.length)) (σ ++ [.list (ls.map Ln.raw)]) :=
      s_ret (e_tup (zAB rfl (zAB (zAG rfl hl) rfl)))
    refine .ord ls ⟨l1, l2, l3, by omega⟩ h4 (hcall (pre ?_))
    rcases ho with ho | ⟨h0, rfl⟩
    · exact s_t (zAC (by rw [ho] at ht1; exact e_or_t ht1 rfl)) rt
    · exact s_t (zAC (by rw [h0] at ht1; exact zAW ht1 rfl (zAk rfl rfl (e_p2 (hlen rfl) rfl (by rw [zBY, decide_eq_true (show (us.length : Int) < 4 by omega)]))))) rt
  cases h0 : (us.length == 0) with
  | true => exact ord (by have := eq_of_beq h0; omega) (.inl h0)
  | false =>
    rw [h0] at ht1
    by_cases hwo : w = .ord ∧ us.length < 4
    · exact ord hwo.2 (.inr ⟨h0, hwo.1⟩)
    · have pre2 : ∃ w' : W8, w' ≠ .ord ∧ ∀ {r : R Fl}, exL (callFn T (d + 3) false) (callFn T (d + 3) true) false (hDeed.body.drop 5) [.int c, .int c2, .ref a, ws, .str w'.s, .undef, .undef, .undef, .undef] σ = r →
          exL (callFn T (d + 3) false) (callFn T (d + 3) true) false (hDeed.body.drop 3) [.int c, .int c2, .ref a, ws, .str w.s, .undef, .undef, .undef, .undef] σ = r := by
        cases w with
        | ord =>
          have h4 : ¬ us.length < 4 := fun h => hwo ⟨rfl, h⟩
          refine ⟨.mov, (fun h => nomatch h), fun kk => s_f (zAC (zAW ht1 rfl (zAk rfl rfl (e_p2 (hlen rfl) rfl (by rw [zBY, decide_eq_false (show ¬ (us.length : Int) < 4 by omega)]))))) (s_t rfl (s_asg rfl kk))⟩
        | pay => exact ⟨.pay, (fun h => nomatch h), fun kk => s_f (zAC (zAW ht1 rfl (zAr rfl rfl))) (s_f rfl kk)⟩
        | ref => exact ⟨.ref, (fun h => nomatch h), fun kk => s_f (zAC (zAW ht1 rfl (zAr rfl rfl))) (s_f rfl kk)⟩
        | mov => exact ⟨.mov, (fun h => nomatch h), fun kk => s_f (zAC (zAW ht1 rfl (zAr rfl rfl))) (s_f rfl kk)⟩
        | lin w => exact ⟨.lin w, (fun h => nomatch h), fun kk => s_f (zAC (zAW ht1 rfl (zAr (e_p2 rfl rfl (w_ord w)) rfl))) (s_f (zAC (e_p2 rfl rfl (w_ord w))) kk)⟩
      obtain ⟨w', hw', pre2⟩ := pre2
      obtain ⟨at', ha⟩ := g_place (T := T) (d := d + 2) (k := 105) (σ := σ) M.t105 c 10037 us.length rfl rfl
      have hmo := h_most (d := d) M A hok w' hw' at' 0
      obtain ⟨n, hn⟩ := g_number (T := T) (d := d + 2) (k := 106) (σ := σ) M.t106 c2 (mostX w' us at' 0)
      have pre3 : ∀ {r : R Fl}, exL (callFn T (d + 3) false) (callFn T (d + 3) true) false (hDeed.body.drop 6) [.int c, .int c2, .ref a, ws, .str w'.s, .int at', .undef, .undef, .undef] σ = r →
          exL (callFn T (d + 3) false) (callFn T (d + 3) true) false hDeed.body [.int c, .int c2, .ref a, .undef, .undef, .undef, .undef, .undef, .undef] σ = r := fun kk =>
        pre (pre2 (s_asg (zAG (zAB rfl (zAB rfl (zAB (hlen rfl) rfl))) ha) kk))
      cases w' with
      | ord => exact (hw' rfl).elim
      | pay => exact .oth (.pay at' n) (fun _ h => nomatch h) (hcall (pre3 (s_t rfl (s_ret (e_tup (zAB rfl (zAB rfl (zAB (zAG (zAB rfl (zAB (zAG rfl hmo) rfl)) hn) rfl))))))))
      | ref => exact .oth (.ref at' n) (fun _ h => nomatch h) (hcall (pre3 (s_t rfl (s_ret (e_tup (zAB rfl (zAB rfl (zAB (zAG (zAB rfl (zAB (zAG rfl hmo) rfl)) hn) rfl))))))))
      | mov =>
        obtain ⟨a2, ha2⟩ := g_place (T := T) (d := d + 2) (k := 105) (σ := σ) M.t105 c2 10099 us.length rfl rfl
        exact .oth (.mov at' a2 n) (fun _ h => nomatch h) (hcall (pre3 (s_f rfl (s_t rfl (s_asg (zAG (zAB rfl (zAB rfl (zAB (hlen rfl) rfl))) ha2) (s_ret (e_tup (zAB rfl (zAB rfl (zAB rfl (zAB (zAG (zAB rfl (zAB (zAG rfl hmo) rfl)) hn) rfl)))))))))))
      | lin w =>
        have pre4 : ∃ sz : Int, ∀ {r : R Fl}, exL (callFn T (d + 3) false) (callFn T (d + 3) true) false (hDeed.body.drop 10) [.int c, .int c2, .ref a, ws, .str w.s, .int at', .undef, .int sz, .undef] σ = r →
            exL (callFn T (d + 3) false) (callFn T (d + 3) true) false hDeed.body [.int c, .int c2, .ref a, .undef, .undef, .undef, .undef, .undef, .undef] σ = r := by
          have pre5 : ∀ {r : R Fl}, exL (callFn T (d + 3) false) (callFn T (d + 3) true) false (hDeed.body.drop 9) [.int c, .int c2, .ref a, ws, .str w.s, .int at', .undef, .int 1, .undef] σ = r →
              exL (callFn T (d + 3) false) (callFn T (d + 3) true) false hDeed.body [.int c, .int c2, .ref a, .undef, .undef, .undef, .undef, .undef, .undef] σ = r := fun kk =>
            pre3 (s_f (zAC (zAW (e_p2 rfl rfl (w_pay w)) rfl (e_p2 rfl rfl (w_ref w)))) (s_f (zAC (e_p2 rfl rfl (zBa w))) (s_asg rfl kk)))
          cases ht : (decide (0 ≤ at') && decide (at' < (us.length : Int))) with
          | false => exact ⟨1, fun kk => pre5 (s_f (zAC (by rw [← ht]; exact zAd rfl rfl (hlen rfl))) kk)⟩
          | true =>
            obtain ⟨o, rfl, ho⟩ := zBX.mp ht
            obtain ⟨r, hr, O⟩ := A.index (List.getElem?_eq_getElem ho)
            obtain ⟨ls, h0, _⟩ := O.index
            exact ⟨_, fun kk => pre5 (s_t (zAC (by rw [← ht]; exact zAd rfl rfl (hlen rfl))) (s_asg (e_p1 (e_p2 (e_p2 rfl rfl hr) rfl h0) (zAa σ ls)) kk))⟩
        obtain ⟨sz, pre4⟩ := pre4
        obtain ⟨pl, hpl⟩ := g_place (T := T) (d := d + 2) (k := 105) (σ := σ) M.t105 c 10091 sz rfl rfl
        have hmo := h_most (d := d) M A hok (.lin w) hw' at' pl
        obtain ⟨n, hn⟩ := g_number (T := T) (d := d + 2) (k := 106) (σ := σ) M.t106 c2 (mostX (.lin w) us at' pl)
        exact .oth (.lin w at' pl n) (fun _ h => nomatch h) (hcall (pre4 (s_asg (zAG rfl hpl) (s_ret (e_tup (zAB rfl (zAB rfl (zAB rfl (zAB (zAG (zAB rfl (zAB (zAG rfl hmo) rfl)) hn) rfl)))))))))
noncomputable def errStr : Option Cls → Str
  | none => { cps := #[] }
  | some c => clsName c
noncomputable def W8.isPay : W8 → Bool
  | .pay => true
  | _ => false
noncomputable def tailErr (w : W8) (n m : Int) : Option Cls := if n < 1 then some .NoNumber else if w.isPay = false ∧ n > m then some .TooMuch else none
structure Parts (dv : V) (w : W8) (at' n : Int) (z : Nat) : Prop where
  v : ∀ ρ : List V, readVar (dv :: ρ) 0 = some dv
  w0 : ∀ σ, ev2 .index σ dv (.int 0) = some (.str w.s)
  a1 : ∀ σ, ev2 .index σ dv (.int 1) = some (.int at')
  len : ∀ σ, ev1 .len σ dv = some (.int z)
  last : ∀ σ, ev2 .index σ dv (.int ((z : Int) - 1)) = some (.int n)
theorem zDS (M : ModTab T) (A : Acct σ ro i a us rs) (hok : ∀ u ∈ us, u.ok) {dv : V} {w : W8} (hw : w ≠ .ord) {nn pl : Int} {z : Nat} (P : Parts dv w o nn z) (hu : us[o]? = some u) :
    exL (callFn T (d + 3) false) (callFn T (d + 3) true) false (hRefusal.body.drop 5) [dv, .ref a, .int pl, .undef] σ = .ok (.ret (.str (errStr (match atI u.lines pl with | none => some .NoLine | some _ => tailErr w nn (mostX w us o pl))))) σ := by
  obtain ⟨r, hr, O⟩ := A.index hu
  obtain ⟨ls, h0, h1, hl, hls⟩ := O.index
  have v0 : ∀ {F : Calls} {ρ : List V}, evE F false (.var 0) (dv :: ρ) σ = .ok dv σ := fun {F ρ} => by rw [x_var, P.v]; rfl
  have hlen2 : evE (callFn T (d + 3) false) false (.p1 .len (.p2 .index (.p2 .index (.var 1) (.p2 .index (.var 0) (.lit (.int 1)))) (.lit (.int 0)))) [dv, .ref a, .int pl, .undef] σ = .ok (.int u.lines.length) σ := e_p1 (x := .lst ls) (e_p2 (e_p2 rfl (e_p2 v0 rfl (P.a1 σ)) hr) rfl h0) (by rw [zAa, hl])
  cases hpl : atI u.lines pl with
  | none => exact s_t (zAC (e_p1 (zAd rfl rfl hlen2) (by rw [zBW hpl]; rfl))) (s_ret rfl)
  | some l =>
    obtain ⟨k, rfl, hk⟩ := zAO hpl
    refine s_f (zAC (e_p1 (zAd rfl rfl hlen2) (by rw [zBX.mpr ⟨k, rfl, (List.getElem?_eq_some_iff.mp hk).1⟩]; rfl))) (s_asg (v := .int nn) (e_p2 v0 (e_p2 (e_p1 v0 (P.len σ)) rfl (ev2_sub σ z 1)) (P.last σ)) ?_)
    show _ = R.ok (Fl.ret (V.str (errStr (tailErr w nn (mostX w us o k))))) σ
    unfold tailErr
    by_cases h1 : nn < 1
    · rw [if_pos h1]
      exact s_t (zAC (t := true) (e_p2 rfl rfl (by rw [zBY, decide_eq_true h1]))) (s_ret rfl)
    · rw [if_neg h1]
      refine s_f (zAC (t := false) (e_p2 rfl rfl (by rw [zBY, decide_eq_false h1]))) ?_
      have hm := h_most (d := d) M A hok w hw o k
      have em : evE (callFn T (d + 3) false) false (.p2 .gt (.var 3) (.call 104 [.p2 .index (.var 0) (.lit (.int 0)), .p2 .index (.var 0) (.lit (.int 1)), .var 2, .var 1])) [dv, .ref a, .int k, .int nn] σ = .ok (.bool (decide (nn > mostX w us o k))) σ :=
        e_p2 rfl (zAG (zAB (e_p2 v0 rfl (P.w0 σ)) (zAB (e_p2 v0 rfl (P.a1 σ)) (zAB rfl (zAB rfl rfl)))) hm) rfl
      have gen : w.isPay = false → ev2 .ne σ (.str w.s) (.str sPay) = some (.bool true) → exL (callFn T (d + 3) false) (callFn T (d + 3) true) false (hRefusal.body.drop 8) [dv, .ref a, .int k, .int nn] σ = .ok (.ret (.str (errStr (if w.isPay = false ∧ nn > mostX w us o k then some .TooMuch else none)))) σ := fun hp hne => by
        by_cases h2 : nn > mostX w us o k
        · rw [if_pos ⟨hp, h2⟩]
          exact s_t (zAC (t := true) (zAk (e_p2 (e_p2 v0 rfl (P.w0 σ)) rfl hne) rfl (by rw [decide_eq_true h2] at em; exact em))) (s_ret rfl)
        · rw [if_neg fun h => h2 h.2]
          exact s_f (zAC (t := false) (zAk (e_p2 (e_p2 v0 rfl (P.w0 σ)) rfl hne) rfl (by rw [decide_eq_false h2] at em; exact em))) (s_ret rfl)
      cases w with
      | ord => exact (hw rfl).elim
      | pay =>
        rw [if_neg fun h => nomatch h.1]
        exact s_f (zAC (t := false) (zAr (e_p2 (e_p2 v0 rfl (P.w0 σ)) rfl (z := .bool false) rfl) rfl)) (s_ret rfl)
      | ref => exact gen rfl rfl
      | mov => exact gen rfl rfl
      | lin w => exact gen rfl (w_npay w)
theorem tail_N {w : W8} {n m : Int} (h : w.isPay = false) : tailErr w n m = errN n m := by
  unfold tailErr errN
  rw [h]
  by_cases h1 : n < 1
  · rw [if_pos h1, if_pos h1]
  · rw [if_neg h1, if_neg h1]
    by_cases h2 : n > m
    · rw [if_pos ⟨rfl, h2⟩, if_pos h2]
    · rw [if_neg fun h => h2 h.2, if_neg h2]
theorem zDD {u : Or} (h : 1 ≤ u.lines.length) : ∃ l, atI u.lines 0 = some l := ⟨u.lines[0], atI_nat' (List.getElem?_eq_getElem h)⟩
where
  atI_nat' {α : Type} {l : List α} {x : α} (h : l[0]? = some x) : atI l 0 = some x := by
    unfold atI
    rw [if_pos (by rw [Bool.and_eq_true, decide_eq_true_eq, decide_eq_true_eq]; have := (List.getElem?_eq_some_iff.mp h).1; omega)]; exact h
theorem h_refusal (M : ModTab T) (A : Acct σ ro i a us rs) (hok : ∀ u ∈ us, u.ok) (hne : ∀ u ∈ us, 1 ≤ u.lines.length) (D : Deed) (k : Nat) : callFn T (d + 4) false 110 [D.raw k, .ref a] σ = .ok (.str (errStr (D.err us))) σ := by
  refine zAD M.t110 rfl ?_
  have ht : ∀ {ρ : List V} {c : CE} {x : Int}, readVar ρ 1 = some (.ref a) → evE (callFn T (d + 3) false) false c ρ σ = .ok (.int x) σ → evE (callFn T (d + 3) false) false (.p1 .not (.chain (.lit (.int 0)) [.le, .lt] [c, .p1 .len (.var 1)])) ρ σ = .ok (.bool !(decide (0 ≤ x) && decide (x < (us.length : Int)))) σ := fun h1 hc => e_p1 (zAd rfl hc (A.e_len h1)) rfl
  have yes : ∀ {o : Nat} {u : Or}, us[o]? = some u → (!(decide (0 ≤ (o : Int)) && decide ((o : Int) < (us.length : Int)))) = false := fun hu => by rw [zBX.mpr ⟨_, rfl, (List.getElem?_eq_some_iff.mp hu).1⟩]; rfl
  have htN : ∀ {ρ : List V} {c : CE} {x : Int}, readVar ρ 1 = some (.ref a) → evE (callFn T (d + 3) false) false c ρ σ = .ok (.int x) σ → atI us x = none → evE (callFn T (d + 3) false) false (.p1 .not (.chain (.lit (.int 0)) [.le, .lt] [c, .p1 .len (.var 1)])) ρ σ = .ok (.bool true) σ := fun h1 hc hx => (ht h1 hc).trans (by rw [zBW hx]; rfl)
  have htS : ∀ {ρ : List V} {c : CE} {o : Nat} {u : Or}, readVar ρ 1 = some (.ref a) → evE (callFn T (d + 3) false) false c ρ σ = .ok (.int (o : Int)) σ → us[o]? = some u → evE (callFn T (d + 3) false) false (.p1 .not (.chain (.lit (.int 0)) [.le, .lt] [c, .p1 .len (.var 1)])) ρ σ = .ok (.bool false) σ := fun h1 hc hu => (ht h1 hc).trans (by rw [yes hu])
  cases D with
  | ord ls => exact s_t rfl (s_ret rfl)
  | pay at' n =>
    refine s_f rfl ?_
    show _ = R.ok (Fl.ret (V.str (errStr (errP1 n (atI us at'))))) σ
    cases hat : atI us at' with
    | none => exact s_t (zAC (t := true) (e_or_t (htN rfl (x := at') rfl hat) rfl)) (s_ret rfl)
    | some u =>
      obtain ⟨o, rfl, hu⟩ := zAO hat
      obtain ⟨l, hl⟩ := zDD (hne u (List.mem_of_getElem? hu))
      have e := zDS (d := d) (w := .pay) (pl := 0) (nn := n) (dv := dP o n) (z := 3) M A hok (fun h => nomatch h) ⟨fun _ => rfl, fun _ => rfl, fun _ => rfl, fun _ => rfl, fun _ => rfl⟩ hu
      rw [hl] at e
      refine s_f (zAC (t := false) (zAW (htS (o := o) rfl rfl hu) rfl (zAr rfl rfl))) (s_f (zAC (zAr rfl rfl)) (s_asg rfl (s_f (zAC (zAr rfl rfl)) (e.trans ?_))))
      show R.ok (Fl.ret (V.str (errStr (if n < 1 then some .NoNumber else if W8.isPay .pay = false ∧ n > mostX .pay us o 0 then some .TooMuch else none)))) σ = R.ok (Fl.ret (V.str (errStr (if n < 1 then some .NoNumber else none)))) σ
      rw [if_neg (fun h : W8.isPay .pay = false ∧ n > mostX .pay us o 0 => nomatch h.1)]
  | ref at' n =>
    refine s_f rfl ?_
    show _ = R.ok (Fl.ret (V.str (errStr (errR1 n (atI us at'))))) σ
    cases hat : atI us at' with
    | none => exact s_t (zAC (t := true) (e_or_t (htN rfl (x := at') rfl hat) rfl)) (s_ret rfl)
    | some u =>
      obtain ⟨o, rfl, hu⟩ := zAO hat
      obtain ⟨l, hl⟩ := zDD (hne u (List.mem_of_getElem? hu))
      have e := zDS (d := d) (w := .ref) (pl := 0) (nn := n) (dv := dR o n) (z := 3) M A hok (fun h => nomatch h) ⟨fun _ => rfl, fun _ => rfl, fun _ => rfl, fun _ => rfl, fun _ => rfl⟩ hu
      rw [hl] at e
      refine s_f (zAC (t := false) (zAW (htS (o := o) rfl rfl hu) rfl (zAr rfl rfl))) (s_f (zAC (zAr rfl rfl)) (s_asg rfl (s_f (zAC (zAr rfl rfl)) (e.trans ?_))))
      show R.ok (Fl.ret (V.str (errStr (tailErr .ref n (mostX .ref us o 0))))) σ = R.ok (Fl.ret (V.str (errStr (errN n (0 - u.owed))))) σ
      rw [tail_N rfl, Int.zero_sub]
      unfold mostX
      rw [hat]
  | mov at' p n =>
    refine s_f rfl ?_
    show _ = R.ok (Fl.ret (V.str (errStr (errM1 us at' p n (atI us at'))))) σ
    cases hat : atI us at' with
    | none => exact s_t (zAC (t := true) (e_or_t (htN rfl (x := at') rfl hat) rfl)) (s_ret rfl)
    | some u =>
      obtain ⟨o, rfl, hu⟩ := zAO hat
      show _ = R.ok (Fl.ret (V.str (errStr (errM2 u o p n (atI us p))))) σ
      cases hp : atI us p with
      | none => exact s_t (zAC (t := true) (zAW (htS (o := o) rfl rfl hu) rfl (zAk rfl rfl (htN rfl (x := p) rfl hp)))) (s_ret rfl)
      | some u' =>
        obtain ⟨p, rfl, hu'⟩ := zAO hp
        show _ = R.ok (Fl.ret (V.str (errStr (if ((o : Int) == (p : Int)) = true then some .SameOrder else errN n (0 - u.owed))))) σ
        refine s_f (zAC (t := false) (zAW (htS (o := o) rfl rfl hu) rfl (zAk rfl rfl (htS (o := p) rfl rfl hu'))) ) ?_
        cases hop : ((o : Int) == (p : Int)) with
        | true => exact s_t (zAC (t := true) (zAk rfl rfl (e_p2 rfl rfl (show ev2 .eq σ (.int o) (.int p) = _ by rw [zBM, hop])))) (s_ret rfl)
        | false =>
          obtain ⟨l, hl⟩ := zDD (hne u (List.mem_of_getElem? hu))
          have e := zDS (d := d) (w := .mov) (pl := 0) (nn := n) (dv := dM o p n) (z := 4) M A hok (fun h => nomatch h) ⟨fun _ => rfl, fun _ => rfl, fun _ => rfl, fun _ => rfl, fun _ => rfl⟩ hu
          rw [hl] at e
          refine s_f (zAC (t := false) (zAk rfl rfl (e_p2 rfl rfl (show ev2 .eq σ (.int o) (.int p) = _ by rw [zBM, hop])))) (s_asg rfl (s_f (zAC (t := false) (zAk rfl rfl rfl)) (e.trans ?_)))
          show R.ok (Fl.ret (V.str (errStr (tailErr .mov n (mostX .mov us o 0))))) σ = R.ok (Fl.ret (V.str (errStr (errN n (0 - u.owed))))) σ
          rw [tail_N rfl, Int.zero_sub]
          unfold mostX
          rw [hat]
  | lin w at' pl n =>
    refine s_f (zAC (e_p2 rfl rfl (w_ord w))) ?_
    show _ = R.ok (Fl.ret (V.str (errStr (errU w pl n (atI us at'))))) σ
    cases hat : atI us at' with
    | none => exact s_t (zAC (t := true) (e_or_t (htN rfl (x := at') rfl hat) rfl)) (s_ret rfl)
    | some u =>
      obtain ⟨o, rfl, hu⟩ := zAO hat
      have e := zDS (d := d) (w := .lin w) (pl := pl) (nn := n) (dv := dL w o pl n) (z := 4) M A hok (fun h => nomatch h) ⟨fun _ => rfl, fun _ => rfl, fun _ => rfl, fun _ => rfl, fun _ => rfl⟩ hu
      refine s_f (zAC (t := false) (zAW (htS (o := o) rfl rfl hu) rfl (zAr (e_p2 rfl rfl (zBa w)) rfl))) (s_f (zAC (zAr (e_p2 rfl rfl (zBa w)) rfl)) (s_asg rfl (s_t (zAC (t := true) (zAk rfl rfl (e_p2 rfl rfl (show ev2 .ne σ (.str w.s) (.str sMove) = some (.bool true) by cases w <;> rfl)))) (s_asg (v := .int pl) rfl (e.trans ?_)))))
      show _ = R.ok (Fl.ret (V.str (errStr (errK w n (atI u.lines pl))))) σ
      cases hpl : atI u.lines pl with
      | none => rfl
      | some l =>
        show R.ok (Fl.ret (V.str (errStr (tailErr (.lin w) n (mostX (.lin w) us o pl))))) σ = R.ok (Fl.ret (V.str (errStr (errN n (mostOf w l))))) σ
        rw [tail_N rfl]
        unfold mostX
        rw [hat]
        show R.ok (Fl.ret (V.str (errStr (errN n (match atI u.lines pl with | none => 5 | some l => mostOf w l))))) σ = _
        rw [hpl]
end
end Mine
end

/-! # HC -/
section
set_option autoImplicit false
namespace Mine
open PySem
noncomputable def ofOrd (i o : Nat) (x : Role) : Prop := x = .ord i o ∨ x = .row i o ∨ ∃ k, x = .lin i o k
noncomputable def ofAcc (i : Nat) (x : Role) : Prop := x = .acc i ∨ ∃ o, ofOrd i o x
theorem ofOrd_ne {i o o' : Nat} {x : Role} (h : ofOrd i o x) (hne : o ≠ o') : ¬ ofOrd i o' x := fun h' => by
  rcases h with rfl | rfl | ⟨k, rfl⟩ <;> rcases h' with q | q | ⟨k', q⟩ <;> cases q <;> exact hne rfl
noncomputable def Role.tag : Role → Nat
  | .bk _ => 0
  | .en _ => 1
  | .hi _ => 2
  | .acc _ => 3
  | .ord _ _ => 4
  | .row _ _ => 5
  | .lin _ _ _ => 6
  | .kept => 7
  | .fresh => 8
  | .other => 9
noncomputable def Role.ix : Role → Nat
  | .bk i => i
  | .en i => i
  | .hi i => i
  | .acc i => i
  | .ord i _ => i
  | .row i _ => i
  | .lin i _ _ => i
  | _ => 0
theorem ofOrd_tag {i o : Nat} {x : Role} (h : ofOrd i o x) : (4 ≤ x.tag ∧ x.tag ≤ 6) ∧ x.ix = i := by
  rcases h with rfl | rfl | ⟨k, rfl⟩
  · exact ⟨⟨show 4 ≤ 4 by decide, show 4 ≤ 6 by decide⟩, rfl⟩
  · exact ⟨⟨show 4 ≤ 5 by decide, show 5 ≤ 6 by decide⟩, rfl⟩
  · exact ⟨⟨show 4 ≤ 6 by decide, show 6 ≤ 6 by decide⟩, rfl⟩
theorem zBK {i : Nat} {x : Role} (h : ofAcc i x) : (3 ≤ x.tag ∧ x.tag ≤ 6) ∧ x.ix = i := by
  rcases h with rfl | ⟨o, h⟩
  · exact ⟨⟨show 3 ≤ 3 by decide, show 3 ≤ 6 by decide⟩, rfl⟩
  · have := ofOrd_tag h; exact ⟨⟨Nat.le_trans (by decide) this.1.1, this.1.2⟩, this.2⟩
theorem nacc {i : Nat} {x : Role} (hx : x.tag < 3 ∨ 6 < x.tag) : ¬ ofAcc i x := fun h => by
  have := (zBK h).1; omega
section
variable {T : Nat → Option Fn} {d : Nat} {q : Bool} {σ σ' : Sto} {ro ro' : Nat → Role} {i a o r n : Nat} {us : List Or} {rs : List V} {u u' : Or} {l : Ln}
theorem OrdAt.keep (Q : OrdAt σ ro i o r u) (hk : ∀ (n : Nat) (x : O), ofOrd i o (ro n) → σ[n]? = some x → σ'[n]? = some x ∧ ro' n = ro n) : OrdAt σ' ro' i o r u := by
  cases Q with
  | mk q ls hr rr hq rq hl hls =>
    obtain ⟨a1, a2⟩ := hk r _ (.inl rr) hr
    obtain ⟨b1, b2⟩ := hk q _ (.inr (.inl rq)) hq
    refine .mk q ls a1 (a2.trans rr) b1 (b2.trans rq) hl fun k l h => ?_
    obtain ⟨n, h1, h2, h3⟩ := hls k l h
    obtain ⟨c1, c2⟩ := hk n _ (.inr (.inr ⟨k, h3⟩)) h2
    exact ⟨n, h1, c1, c2.trans h3⟩
theorem Acct.keep (A : Acct σ ro i a us rs) (hk : ∀ (n : Nat) (x : O), ofAcc i (ro n) → σ[n]? = some x → σ'[n]? = some x ∧ ro' n = ro n) : Acct σ' ro' i a us rs := by
  obtain ⟨a1, a2⟩ := hk a _ (.inl A.ra) A.ord
  exact ⟨a1, a2.trans A.ra, A.len, fun o u hu => by obtain ⟨r, hr, Q⟩ := A.at_ o u hu; exact ⟨r, hr, Q.keep fun n x hn hx => hk n x (.inr ⟨o, hn⟩) hx⟩⟩
theorem Acct.change (A : Acct σ ro i a us rs) (hu : us[o]? = some u) (hr : rs[o]? = some (.ref r)) (O' : OrdAt σ' ro i o r u') (hk : ∀ (n : Nat) (x : O), ¬ ofOrd i o (ro n) → σ[n]? = some x → σ'[n]? = some x) : Acct σ' ro i a (us.set o u') rs := by
  have ho : o < us.length := (List.getElem?_eq_some_iff.mp hu).1
  refine ⟨hk a _ (by rw [A.ra]; exact fun h => absurd (ofOrd_tag h).1.1 (show ¬ 4 ≤ 3 by decide)) A.ord, A.ra, by rw [List.length_set]; exact A.len, fun p v hv => ?_⟩
  by_cases hp : o = p
  · subst hp
    rw [List.getElem?_set_self ho] at hv
    cases hv
    exact ⟨r, hr, O'⟩
  · rw [List.getElem?_set_ne hp] at hv
    obtain ⟨s, hs, Q⟩ := A.at_ p v hv
    exact ⟨s, hs, Q.keep fun n x hn hx => ⟨hk n x (ofOrd_ne hn (fun q => hp q.symm)) hx, rfl⟩⟩
theorem OrdAt.paid (Q : OrdAt σ ro i o r u) (x : Int) : ∃ σ', doSetItem σ (.ref r) (.int 1) (.int x) = .ok () σ' ∧ OrdAt σ' ro i o r { u with paid := x } ∧ ∀ (n : Nat) (y : O), ¬ ofOrd i o (ro n) → σ[n]? = some y → σ'[n]? = some y := by
  cases Q with
  | mk q ls hr rr hq rq hl hls =>
    refine ⟨_, zCw σ (i := 1) hr (show 1 < 3 by decide), .mk q ls (zAQ hr) rr (zAF hq fun e => ?_) rq hl fun k l h => ?_, fun n y hn hy => zAF hy fun e => ?_⟩
    · rw [e, rq] at rr; cases rr
    · obtain ⟨n, h1, h2, h3⟩ := hls k l h
      exact ⟨n, h1, zAF h2 (fun e => by rw [e, h3] at rr; cases rr), h3⟩
    · exact hn (by rw [← e]; exact .inl rr)
theorem OrdAt.addRow (Q : OrdAt σ ro i o r u) (w : Str × Int) (hlim : u.rows.length < LIM) : ∃ (q : Nat) (σ' : Sto), ev2 .index σ (.ref r) (.int 2) = some (.ref q) ∧ isListV σ (.ref q) = true ∧ doAppend σ (.ref q) (rowV w) = .ok .none σ' ∧ OrdAt σ' ro i o r { u with rows := u.rows ++ [w] } ∧ ∀ (n : Nat) (y : O), ¬ ofOrd i o (ro n) → σ[n]? = some y → σ'[n]? = some y := by
  cases Q with
  | mk q ls hr rr hq rq hl hls =>
    refine ⟨q, _, zAK σ (i := 2) hr rfl, by show (listR _).isSome = true; rw [hq]; rfl, zAX σ hq (by rw [List.length_map]; exact hlim), .mk q ls (zAF hr fun e => ?_) rr ?_ rq hl fun k l h => ?_, fun n y hn hy => zAF hy fun e => ?_⟩
    · rw [e, rr] at rq; cases rq
    · rw [zAQ hq]
      show _ = some (O.list ((u.rows ++ [w]).map rowV))
      rw [List.map_append]; rfl
    · obtain ⟨n, h1, h2, h3⟩ := hls k l h
      exact ⟨n, h1, zAF h2 (fun e => by rw [e, h3] at rq; cases rq), h3⟩
    · exact hn (by rw [← e]; exact .inr (.inl rq))
theorem OrdAt.line (Q : OrdAt σ ro i o r u) {k : Nat} (hk : u.lines[k]? = some l) : ∃ (ls : List V) (n : Nat), ev2 .index σ (.ref r) (.int 0) = some (.lst ls) ∧ ls[k]? = some (.ref n) ∧ σ[n]? = some (.list (lnL l)) ∧
    ∀ l' : Ln, OrdAt (σ.set n (.list (lnL l'))) ro i o r { u with lines := u.lines.set k l' } ∧ ∀ (m : Nat) (y : O), ¬ ofOrd i o (ro m) → σ[m]? = some y → (σ.set n (.list (lnL l')))[m]? = some y := by
  cases Q with
  | mk q ls hr rr hq rq hl hls =>
    obtain ⟨n, h1, h2, h3⟩ := hls k l hk
    refine ⟨ls, n, zAK σ (i := 0) hr rfl, h1, h2, fun l' => ⟨.mk q ls (zAF hr fun e => ?_) rr (zAF hq fun e => ?_) rq (by rw [hl]; exact (List.length_set ..).symm) fun j m hm => ?_, fun m y hn hy => zAF hy fun e => ?_⟩⟩
    · rw [e, rr] at h3; cases h3
    · rw [e, rq] at h3; cases h3
    · have hkl : k < u.lines.length := (List.getElem?_eq_some_iff.mp hk).1
      by_cases hj : k = j
      · subst hj
        have hm : (u.lines.set k l')[k]? = some m := hm
        rw [List.getElem?_set_self hkl] at hm
        cases hm
        exact ⟨n, h1, zAQ h2, h3⟩
      · have hm : (u.lines.set k l')[j]? = some m := hm
        rw [List.getElem?_set_ne hj] at hm
        obtain ⟨p, g1, g2, g3⟩ := hls j m hm
        exact ⟨p, g1, zAF g2 (fun e => by rw [e, g3] at h3; cases h3; exact hj rfl), g3⟩
    · exact hn (by rw [← e]; exact .inr (.inr ⟨k, h3⟩))
inductive Moved (σ : Sto) (ro : Nat → Role) (i a : Nat) (us' : List Or) (rs : List V) (v : V) (r : R V) : Prop
  | mk (σ' : Sto) (er : r = .ok v σ') (A : Acct σ' ro i a us' rs) (hk : ∀ (n : Nat) (x : O), ¬ ofAcc i (ro n) → σ[n]? = some x → σ'[n]? = some x)
theorem zCx {x : Role} (h : ¬ ofAcc i x) (o : Nat) : ¬ ofOrd i o x := fun q => h (.inr ⟨o, q⟩)
end
section
variable {T : Nat → Option Fn} {d : Nat} {σ : Sto} {ro : Nat → Role} {i a o r p : Nat} {us : List Or} {rs : List V} {u u' : Or} {l : Ln} {n : Int}
theorem turned_pay (M : ModTab T) (A : Acct σ ro i a us rs) (hu : us[o]? = some u) : Moved σ ro i a (us.set o { u with paid := u.paid + n }) rs (dP o n) (callFn T (d + 2) false 111 [dP o n, .ref a] σ) := by
  obtain ⟨r, hr, Q⟩ := A.at_ o u hu
  have key : ∃ σ', exL (callFn T (d + 1) false) (callFn T (d + 1) true) false hTurned.body [dP o n, .ref a, .undef, .undef, .undef] σ = .ok (.ret (dP o n)) σ' ∧ Acct σ' ro i a (us.set o { u with paid := u.paid + n }) rs ∧ ∀ (m : Nat) (x : O), ¬ ofAcc i (ro m) → σ[m]? = some x → σ'[m]? = some x := by
    refine Classical.byContradiction fun hno => hno ?_
    obtain ⟨ls, h0, hp, _⟩ := Q.index
    obtain ⟨σ', e, O', hk⟩ := Q.paid (u.paid + n)
    have it : ∀ {F : Calls}, evE F false (.p2 .index (.var 1) (.p2 .index (.var 0) (.lit (.int 1)))) [dP o n, .ref a, .int n, .int 1, .undef] σ = .ok (.ref r) σ := e_p2 rfl rfl (zAK σ A.ord hr)
    refine ⟨σ', s_asg (v := .int n) rfl (s_t rfl (s_asg (v := .int 1) rfl (zBC (x := .int (u.paid + n)) (e_p2 (e_p2 it rfl hp) (e_p2 (x := .int 1) (y := .int n) rfl rfl (zAh σ 1 n (.inl rfl))) (by rw [Int.one_mul]; rfl)) it rfl e (s_f rfl (s_ret rfl))))), A.change hu hr O' hk, fun m x hm hx => hk m x (zCx hm o) hx⟩
  obtain ⟨σ', e, A', hk⟩ := key
  exact .mk σ' (zAD M.t111 rfl e) A' hk
theorem turned_ref (M : ModTab T) (A : Acct σ ro i a us rs) (hu : us[o]? = some u) : Moved σ ro i a (us.set o { u with paid := u.paid + (0 - n) }) rs (dR o n) (callFn T (d + 2) false 111 [dR o n, .ref a] σ) := by
  obtain ⟨r, hr, Q⟩ := A.at_ o u hu
  obtain ⟨ls, h0, hp, _⟩ := Q.index
  obtain ⟨σ', e, O', hk⟩ := Q.paid (u.paid + (0 - n))
  have it : ∀ {F : Calls}, evE F false (.p2 .index (.var 1) (.p2 .index (.var 0) (.lit (.int 1)))) [dR o n, .ref a, .int n, .int (-1), .undef] σ = .ok (.ref r) σ := e_p2 rfl rfl (zAK σ A.ord hr)
  exact .mk σ' (zAD M.t111 rfl (s_asg (v := .int n) rfl (s_t rfl (s_asg (v := .int (-1)) rfl (zBC (x := .int (u.paid + (0 - n))) (e_p2 (e_p2 it rfl hp) (e_p2 (x := .int (-1)) (y := .int n) rfl rfl (zAh σ (-1) n (.inl rfl))) (by rw [show (-1) * n = 0 - n by omega]; rfl)) it rfl e (s_f rfl (s_ret rfl))))))) (A.change hu hr O' hk) fun m x hm hx => hk m x (zCx hm o) hx
theorem turned_mov (M : ModTab T) (A : Acct σ ro i a us rs) (hu : us[o]? = some u) (hu' : us[p]? = some u') (hop : o ≠ p) : Moved σ ro i a ((us.set o { u with paid := u.paid + (0 - n) }).set p { u' with paid := u'.paid + n }) rs (dM o p n) (callFn T (d + 2) false 111 [dM o p n, .ref a] σ) := by
  obtain ⟨r, hr, Q⟩ := A.at_ o u hu
  obtain ⟨ls, h0, hp, _⟩ := Q.index
  obtain ⟨σ₁, e, O', hk⟩ := Q.paid (u.paid + (0 - n))
  have A1 := A.change hu hr O' hk
  have hu2 : (us.set o { u with paid := u.paid + (0 - n) })[p]? = some u' := by rw [List.getElem?_set_ne hop]; exact hu'
  obtain ⟨r2, hr2, O2⟩ := A1.at_ p u' hu2
  obtain ⟨ls2, h02, hp2, _⟩ := O2.index
  obtain ⟨σ₂, e2, O2', hk2⟩ := O2.paid (u'.paid + n)
  have it : ∀ {F : Calls}, evE F false (.p2 .index (.var 1) (.p2 .index (.var 0) (.lit (.int 1)))) [dM o p n, .ref a, .int n, .int (-1), .undef] σ = .ok (.ref r) σ := e_p2 rfl rfl (zAK σ A.ord hr)
  have it2 : ∀ {F : Calls}, evE F false (.p2 .index (.var 1) (.p2 .index (.var 0) (.lit (.int 2)))) [dM o p n, .ref a, .int n, .int (-1), .undef] σ₁ = .ok (.ref r2) σ₁ := e_p2 rfl rfl (zAK σ₁ A1.ord hr2)
  exact .mk σ₂ (zAD M.t111 rfl (s_asg (v := .int n) rfl (s_t rfl (s_asg (v := .int (-1)) rfl (zBC (x := .int (u.paid + (0 - n))) (e_p2 (e_p2 it rfl hp) (e_p2 (x := .int (-1)) (y := .int n) rfl rfl (zAh σ (-1) n (.inl rfl))) (by rw [show (-1) * n = 0 - n by omega]; rfl)) it rfl e (s_t rfl (zBC (x := .int (u'.paid + n)) (e_p2 (e_p2 it2 rfl hp2) rfl rfl) it2 rfl e2 (s_ret rfl)))))))) (A1.change hu2 hr2 O2' hk2) fun m x hm hx => hk2 m x (zCx hm p) (hk m x (zCx hm o) hx)
theorem zAv {F Fq : Calls} {ρ : List V} {c : CE} {k m : Nat} {x : V} {l l' : Ln} {rest : List CS} {R : R Fl} (h4 : readVar ρ 4 = some (.ref m)) (hm : σ[m]? = some (.list (lnL l))) (hc : evE F false c ρ σ = .ok x σ) (hk : k < 8) (hl : (lnL l).set k x = lnL l') (kk : exL F Fq false rest ρ (σ.set m (.list (lnL l'))) = R) :
    exL F Fq false (.setItem (.var 4) (.lit (.int k)) c :: rest) ρ σ = R :=
  zBC hc (by rw [x_var, h4]; rfl) rfl ((zCw σ hm hk).trans (by rw [hl])) kk
theorem turned_lin (M : ModTab T) (A : Acct σ ro i a us rs) (hu : us[o]? = some u) {k : Nat} (hl : u.lines[k]? = some l) (ok : l.ok) (w : Wd) : Moved σ ro i a (us.set o { u with lines := u.lines.set k (behindL w l n) }) rs (dL w o k n) (callFn T (d + 2) false 111 [dL w o k n, .ref a] σ) := by
  obtain ⟨r, hr, Q⟩ := A.at_ o u hu
  obtain ⟨ls, m, h0, hm, hmm, up⟩ := Q.line hl
  obtain ⟨O', hk⟩ := up (behindL w l n)
  refine .mk _ (zAD M.t111 rfl ?_) (A.change hu hr O' hk) fun m x hm hx => hk m x (zCx hm o) hx
  refine s_asg (v := .int n) rfl (s_f (zAC (zAW (e_p2 rfl rfl (w_pay w)) rfl (zAW (e_p2 rfl rfl (w_ref w)) rfl (e_p2 rfl rfl (zBa w))))) (s_asg (v := .ref m) (e_p2 (e_p2 (e_p2 rfl rfl (zAK σ A.ord hr)) rfl h0) rfl (zAp σ hm)) ?_))
  have pt : ∀ {F : Calls} {k : Nat} {x : V}, (lnL l)[k]? = some x → evE F false (.p2 .index (.var 4) (.lit (.int k))) [dL w o k n, .ref a, .int n, .undef, .ref m] σ = .ok x σ := fun hx => zAT hmm rfl hx
  cases w with
  | del => exact s_t rfl (zAv (k := 4) (x := .int (l.s + n)) rfl hmm (e_p2 (zAT (k := 4) hmm rfl rfl) rfl rfl) (by decide) rfl (s_ret rfl))
  | cred => exact s_f rfl (s_t rfl (zAv (k := 7) (x := .int (l.r + n)) rfl hmm (e_p2 (zAT (k := 7) hmm rfl rfl) rfl rfl) (by decide) rfl (s_ret rfl)))
  | back =>
    have g1 : ∀ l' : Ln, (σ.set m (.list (lnL l')))[m]? = some (.list (lnL l')) := fun l' => zAQ hmm
    refine s_f rfl (s_f rfl (zAv (k := 5) (x := .int (l.b + n)) (l' := { l with b := l.b + n }) rfl hmm (e_p2 (zAT (k := 5) hmm rfl rfl) rfl rfl) (by decide) rfl ?_))
    refine zAv (k := 6) (x := .int (l.a + 0)) (l := { l with b := l.b + n }) (l' := { l with b := l.b + n }) rfl (g1 _) (e_p2 (zAT (k := 6) (l := { l with b := l.b + n }) (g1 _) rfl rfl) (e_p2 (y := .int 0) rfl rfl (by rw [zAh _ n 0 (.inr rfl), Int.mul_zero])) rfl) (by decide) (by rw [Int.add_zero]; rfl) ?_
    rw [List.set_set]
    refine zAv (k := 7) (l := { l with b := l.b + n }) (l' := behindL .back l n) rfl (g1 _) (e_p2 (zAT (k := 7) (l := { l with b := l.b + n }) (g1 _) rfl rfl) (zAG rfl (h_worth (l := { l with b := l.b + n }) M (g1 _) ⟨ok.1, ok.2, ok.3, ok.4, ok.5, ok.6⟩)) (ev2_min _ _ _)) (by decide) rfl ?_
    rw [List.set_set]
    exact s_ret rfl
  | swap =>
    have g1 : ∀ l' : Ln, (σ.set m (.list (lnL l')))[m]? = some (.list (lnL l')) := fun l' => zAQ hmm
    refine s_f rfl (s_f rfl (zAv (k := 5) (x := .int (l.b + n)) (l' := { l with b := l.b + n }) rfl hmm (e_p2 (zAT (k := 5) hmm rfl rfl) rfl rfl) (by decide) rfl ?_))
    refine zAv (k := 6) (x := .int (l.a + n)) (l := { l with b := l.b + n }) (l' := { l with b := l.b + n, a := l.a + n }) rfl (g1 _) (e_p2 (zAT (k := 6) (l := { l with b := l.b + n }) (g1 _) rfl rfl) (e_p2 (y := .int 1) (z := .int n) rfl rfl (by rw [zAh _ n 1 (.inr rfl), Int.mul_one])) rfl) (by decide) rfl ?_
    rw [List.set_set]
    refine zAv (k := 7) (l := { l with b := l.b + n, a := l.a + n }) (l' := behindL .swap l n) rfl (g1 _) (e_p2 (zAT (k := 7) (l := { l with b := l.b + n, a := l.a + n }) (g1 _) rfl rfl) (zAG rfl (h_worth (l := { l with b := l.b + n, a := l.a + n }) M (g1 _) ⟨ok.1, ok.2, ok.3, ok.4, ok.5, ok.6⟩)) (ev2_min _ _ _)) (by decide) rfl ?_
    rw [List.set_set]
    exact s_ret rfl
end
end Mine
end

/-! # HD -/
section
set_option autoImplicit false
namespace Mine
open PySem
section
variable {F Fq : Calls} {q : Bool} {σ σ₁ σ₂ : Sto} {ρ ρ₁ ρ₂ : List V} {i v : Nat} {body rest : List CS} {x y : V} {r : R Fl}
theorem zBp {s : CS} {rest : List CS} {ρ' : List V} {σ' : Sto} {r : R Fl} (h : exS F Fq q s ρ σ = .ok (.next ρ') σ') (k : exL F Fq q rest ρ' σ' = r) : exL F Fq q (s :: rest) ρ σ = r := by
  rw [zAt, h]; exact k
theorem s_for1 (hv : readVar ρ v = some (.lst [x])) (h : exL F Fq false body (ρ.set i x) σ = .ok (.next ρ₁) σ₁) (k : exL F Fq false rest ρ₁ σ₁ = r) : exL F Fq false (.for i .val [.var v] body :: rest) ρ σ = r := by
  have e : exS F Fq false (.for i .val [.var v] body) ρ σ = .ok (.next ρ₁) σ₁ := by
    show ((evL F false [.var v] ρ σ).bind fun vs σ => (R.lift σ (itemsBy σ .val vs)).bind fun it σ => forItems it (fun x ρ σ => (exL F Fq false body (ρ.set i x) σ).calm) ρ σ) = _
    rw [zAB (vs := []) (show evE F false (.var v) ρ σ = .ok (.lst [x]) σ by rw [x_var, hv]; rfl) rfl]
    show ((exL F Fq false body (ρ.set i x) σ).calm.bind fun fl σ => match fl with
      | .next ρ => forIt (.now [x]) (fun x ρ σ => (exL F Fq false body (ρ.set i x) σ).calm) 1 1 ρ σ
      | .ret v => .ok (.ret v) σ) = _
    rw [h]; rfl
  rw [zAt, e]; exact k
theorem s_for2 (hv : readVar ρ v = some (.lst [x, y])) (h : exL F Fq false body (ρ.set i x) σ = .ok (.next ρ₁) σ₁) (h' : exL F Fq false body (ρ₁.set i y) σ₁ = .ok (.next ρ₂) σ₂) (k : exL F Fq false rest ρ₂ σ₂ = r) : exL F Fq false (.for i .val [.var v] body :: rest) ρ σ = r := by
  have e : exS F Fq false (.for i .val [.var v] body) ρ σ = .ok (.next ρ₂) σ₂ := by
    show ((evL F false [.var v] ρ σ).bind fun vs σ => (R.lift σ (itemsBy σ .val vs)).bind fun it σ => forItems it (fun x ρ σ => (exL F Fq false body (ρ.set i x) σ).calm) ρ σ) = _
    rw [zAB (vs := []) (show evE F false (.var v) ρ σ = .ok (.lst [x, y]) σ by rw [x_var, hv]; rfl) rfl]
    show ((exL F Fq false body (ρ.set i x) σ).calm.bind fun fl σ => match fl with
      | .next ρ => forIt (.now [x, y]) (fun x ρ σ => (exL F Fq false body (ρ.set i x) σ).calm) 2 1 ρ σ
      | .ret v => .ok (.ret v) σ) = _
    rw [h]
    show ((exL F Fq false body (ρ₁.set i y) σ₁).calm.bind fun fl σ => match fl with
      | .next ρ => forIt (.now [x, y]) (fun x ρ σ => (exL F Fq false body (ρ.set i x) σ).calm) 1 2 ρ σ
      | .ret v => .ok (.ret v) σ) = _
    rw [h']; rfl
  rw [zAt, e]; exact k
end
section
variable {T : Nat → Option Fn} {d : Nat} {σ : Sto} {ro : Nat → Role} {i a o r p : Nat} {us : List Or} {rs : List V} {u u' u1 u2 : Or} {l : Ln} {n : Int}
theorem comp_owing (M : ModTab T) (A : Acct σ ro i a us rs) (hok : ∀ u ∈ us, u.ok) (hlim : us.length ≤ LIM) {ρ : List V} {j : Nat} {c : Nat} (hj : readVar ρ j = some (.ref a)) (hlen : ρ.length = c) : evE (callFn T (d + 2) false) false (.comp (.call 103 [.var c]) .val [.var j] none) ρ σ = .ok (.lst (iv (us.map Or.owed))) σ := by
  refine zEg (vs := [.ref a]) (xs := rs) (zAB (by rw [x_var, hj]; rfl) rfl) (zBx σ A.ord) (.inr ⟨a, rfl, A.ord⟩) (by rw [A.len]; exact hlim) (by rw [iv_len, List.length_map]; exact A.len) fun k x hx => ?_
  have hk : k < us.length := by rw [← A.len]; exact (List.getElem?_eq_some_iff.mp hx).1
  have hu : us[k]? = some us[k] := List.getElem?_eq_getElem hk
  generalize us[k] = u at hu
  obtain ⟨r, hr, Q⟩ := A.at_ k u hu
  rw [hr] at hx; cases hx
  have vc : evE (callFn T (d + 2) false) false (.var c) (ρ ++ [.ref r]) σ = .ok (.ref r) σ := by
    rw [x_var]; unfold readVar; rw [List.getElem?_append_right (by omega), hlen, Nat.sub_self]; rfl
  exact ⟨.int u.owed, by unfold iv; rw [List.getElem?_map, List.getElem?_map, hu]; rfl, zAG (zAB vc rfl) (h_owed M Q (hok u (List.mem_of_getElem? hu)))⟩
theorem s_row {F Fq : Calls} {dv x2 x3 x4 : V} {w : Str} {c : Int} (A : Acct σ ro i a us rs) (hv : ∀ ρ : List V, readVar (dv :: ρ) 0 = some dv) (w0 : ∀ σ, ev2 .index σ dv (.int 0) = some (.str w)) (hu : us[o]? = some u) (hlim : u.rows.length < LIM) :
    ∃ σ', exL F Fq false [.exp (.append (.p2 .index (.p2 .index (.var 1) (.p2 .index (.var 5) (.lit (.int 0)))) (.lit (.int 2))) (.tup [.p2 .index (.var 0) (.lit (.int 0)), .p2 .index (.var 5) (.lit (.int 1))]))] [dv, .ref a, x2, x3, x4, .tup [.int o, .int c]] σ = .ok (.next [dv, .ref a, x2, x3, x4, .tup [.int o, .int c]]) σ' ∧
      Acct σ' ro i a (us.set o { u with rows := u.rows ++ [(w, c)] }) rs ∧ ∀ (n : Nat) (x : O), ¬ ofAcc i (ro n) → σ[n]? = some x → σ'[n]? = some x := by
  obtain ⟨r, hr, Q⟩ := A.at_ o u hu
  obtain ⟨q, σ', h2, hl, ha, Q', hk⟩ := Q.addRow (w, c) hlim
  have v0 : evE F false (.var 0) [dv, .ref a, x2, x3, x4, .tup [.int o, .int c]] σ = .ok dv σ := by rw [x_var, hv]; rfl
  exact ⟨σ', s_exp (zAj (e_p2 (e_p2 rfl rfl (zAK σ A.ord hr)) rfl h2) hl (e_tup (zAB (e_p2 v0 rfl (w0 σ)) (zAB rfl rfl))) ha) s_nil, A.change hu hr Q' hk, fun n x hn hx => hk n x (zCx hn o) hx⟩
theorem step_one (M : ModTab T) (A : Acct σ ro i a us rs) (hok : ∀ u ∈ us, u.ok) (hlim : us.length ≤ LIM) {dv : V} {w : W8} (hv : ∀ ρ : List V, readVar (dv :: ρ) 0 = some dv) (w0 : ∀ σ, ev2 .index σ dv (.int 0) = some (.str w.s)) (a1 : ∀ σ, ev2 .index σ dv (.int 1) = some (.int o)) (hno : ∀ σ, ev2 .eq σ (.str w.s) (.str sOrd) = some (.bool false)) (hnm : ∀ σ, ev2 .eq σ (.str w.s) (.str sMove) = some (.bool false))
    (hu : us[o]? = some u) (ho1 : u1.ok) (hr1 : u1.rows = u.rows) (hrl : u.rows.length < LIM) (ht : Moved σ ro i a (us.set o u1) rs dv (callFn T (d + 2) false 111 [dv, .ref a] σ)) :
    Moved σ ro i a (us.set o { u1 with rows := u.rows ++ [(w.s, u1.owed - u.owed)] }) rs (chV [((o : Int), u1.owed - u.owed)]) (callFn T (d + 3) false 112 [dv, .ref a] σ) := by
  cases ht with
  | mk σ₁ et A1 k1 =>
  have ho : o < us.length := (List.getElem?_eq_some_iff.mp hu).1
  have hu1 : (us.set o u1)[o]? = some u1 := List.getElem?_set_self ho
  obtain ⟨σ₂, es, A2, k2⟩ := s_row (F := callFn T (d + 2) false) (Fq := callFn T (d + 2) true) (x2 := .lst [.int o]) (x3 := .lst (iv (us.map Or.owed))) (x4 := chV [((o : Int), u1.owed - u.owed)]) (c := u1.owed - u.owed) A1 hv w0 hu1 (by rw [hr1]; exact hrl)
  have v0 : ∀ {F : Calls} {σ : Sto} {ρ : List V}, evE F false (.var 0) (dv :: ρ) σ = .ok dv σ := fun {F σ ρ} => by rw [x_var, hv]; rfl
  have wo : ∀ {F : Calls} {σ : Sto} {ρ : List V}, evC F false (some (.p2 .eq (.p2 .index (.var 0) (.lit (.int 0))) (.lit (.str sOrd)))) (dv :: ρ) σ = .ok false σ := fun {F σ ρ} => zAC (e_p2 (e_p2 v0 rfl (w0 σ)) rfl (hno σ))
  have wm : ∀ {F : Calls} {σ : Sto} {ρ : List V}, evC F false (some (.p2 .eq (.p2 .index (.var 0) (.lit (.int 0))) (.lit (.str sMove)))) (dv :: ρ) σ = .ok false σ := fun {F σ ρ} => zAC (e_p2 (e_p2 v0 rfl (w0 σ)) rfl (hnm σ))
  obtain ⟨r1, hr1', Q1⟩ := A1.at_ o u1 hu1
  have ec : evE (callFn T (d + 2) false) false (.comp (.tup [.var 6, .p2 .sub (.call 103 [.p2 .index (.var 1) (.var 6)]) (.p2 .index (.var 3) (.var 6))]) .val [.var 2] none) [dv, .ref a, .lst [.int o], .lst (iv (us.map Or.owed)), .undef, .undef] σ₁ = .ok (chV [((o : Int), u1.owed - u.owed)]) σ₁ := by
    refine zEg (vs := [.lst [.int o]]) (xs := [.int o]) (ys := chL [((o : Int), u1.owed - u.owed)]) rfl rfl (.inl rfl) (by show 1 ≤ LIM; decide) rfl fun k x hx => ?_
    match k, hx with
    | 0, hx =>
      cases hx
      exact ⟨_, rfl, e_tup (zAB rfl (zAB (e_p2 (zAG (zAB (e_p2 rfl rfl (zAK σ₁ A1.ord hr1')) rfl) (h_owed M Q1 ho1)) (e_p2 rfl rfl (zAp σ₁ (v := .int u.owed) (by unfold iv; rw [List.getElem?_map, List.getElem?_map, hu]; rfl))) rfl) rfl))⟩
    | k + 1, hx => cases hx
  refine .mk σ₂ (zAD M.t112 rfl (s_f wo (s_asg (v := .lst [.int o]) (e_list (zAB (e_p2 v0 rfl (a1 σ)) rfl)) (s_f wm (s_asg (comp_owing M A hok hlim rfl rfl) (s_exp (zAG (zAB v0 (zAB rfl rfl)) et) (s_asg ec (s_for1 rfl es (s_ret rfl))))))))) ?_ fun n x hn hx => k2 n x hn (k1 n x hn hx)
  rw [List.set_set, hr1] at A2; exact A2
theorem step_two (M : ModTab T) (A : Acct σ ro i a us rs) (hok : ∀ u ∈ us, u.ok) (hlim : us.length ≤ LIM) (hu : us[o]? = some u) (hu' : us[p]? = some u') (hop : o ≠ p) (hrl : u.rows.length < LIM) (hrl' : u'.rows.length < LIM) :
    Moved σ ro i a (movOr us o p u u' n) rs (chV [((o : Int), n), ((p : Int), -n)]) (callFn T (d + 3) false 112 [dM o p n, .ref a] σ) := by
  have ht := turned_mov (d := d) (n := n) M A hu hu' hop
  have ok1 : ({ u with paid := u.paid + (0 - n) } : Or).ok := ⟨(hok u (List.mem_of_getElem? hu)).few, (hok u (List.mem_of_getElem? hu)).ls⟩
  have ok2 : ({ u' with paid := u'.paid + n } : Or).ok := ⟨(hok u' (List.mem_of_getElem? hu')).few, (hok u' (List.mem_of_getElem? hu')).ls⟩
  generalize hu1 : ({ u with paid := u.paid + (0 - n) } : Or) = u1 at ht ok1
  generalize hu2 : ({ u' with paid := u'.paid + n } : Or) = u2 at ht ok2
  have w1 : u1.owed = u.owed + n := by rw [← hu1]; show (u.lines.map Ln.charge).sum - (u.paid + (0 - n)) = (u.lines.map Ln.charge).sum - u.paid + n; omega
  have w2 : u2.owed = u'.owed + -n := by rw [← hu2]; show (u'.lines.map Ln.charge).sum - (u'.paid + n) = (u'.lines.map Ln.charge).sum - u'.paid + -n; omega
  cases ht with
  | mk σ₁ et A1 k1 =>
  have ho : o < us.length := (List.getElem?_eq_some_iff.mp hu).1
  have hp : p < us.length := (List.getElem?_eq_some_iff.mp hu').1
  have h1 : ((us.set o u1).set p u2)[o]? = some u1 := by rw [List.getElem?_set_ne (fun q => hop q.symm)]; exact List.getElem?_set_self ho
  have h2 : ((us.set o u1).set p u2)[p]? = some u2 := List.getElem?_set_self (by rw [List.length_set]; exact hp)
  obtain ⟨σ₂, es, A2, k2⟩ := s_row (F := callFn T (d + 2) false) (Fq := callFn T (d + 2) true) (dv := dM o p n) (w := sMove) (x2 := .lst [.int o, .int p]) (x3 := .lst (iv (us.map Or.owed))) (x4 := chV [((o : Int), n), ((p : Int), -n)]) (c := n) A1 (fun _ => rfl) (fun _ => rfl) h1 (by rw [← hu1]; exact hrl)
  have h2' : (((us.set o u1).set p u2).set o { u1 with rows := u1.rows ++ [(sMove, n)] })[p]? = some u2 := by rw [List.getElem?_set_ne hop]; exact h2
  obtain ⟨σ₃, es2, A3, k3⟩ := s_row (F := callFn T (d + 2) false) (Fq := callFn T (d + 2) true) (dv := dM o p n) (w := sMove) (x2 := .lst [.int o, .int p]) (x3 := .lst (iv (us.map Or.owed))) (x4 := chV [((o : Int), n), ((p : Int), -n)]) (c := -n) A2 (fun _ => rfl) (fun _ => rfl) h2' (by rw [← hu2]; exact hrl')
  obtain ⟨r1, hr1, Q1⟩ := A1.at_ o u1 h1
  obtain ⟨r2, hr2, Q2⟩ := A1.at_ p u2 h2
  have ec : evE (callFn T (d + 2) false) false (.comp (.tup [.var 6, .p2 .sub (.call 103 [.p2 .index (.var 1) (.var 6)]) (.p2 .index (.var 3) (.var 6))]) .val [.var 2] none) [dM o p n, .ref a, .lst [.int o, .int p], .lst (iv (us.map Or.owed)), .undef, .undef] σ₁ = .ok (chV [((o : Int), n), ((p : Int), -n)]) σ₁ := by
    refine zEg (vs := [.lst [.int o, .int p]]) (xs := [.int o, .int p]) (ys := chL [((o : Int), n), ((p : Int), -n)]) rfl rfl (.inl rfl) (by show 2 ≤ LIM; decide) rfl fun k x hx => ?_
    match k, hx with
    | 0, hx =>
      cases hx
      exact ⟨_, rfl, e_tup (zAB rfl (zAB (e_p2 (zAG (zAB (e_p2 rfl rfl (zAK σ₁ A1.ord hr1)) rfl) (h_owed M Q1 ok1)) (e_p2 rfl rfl (zAp σ₁ (v := .int u.owed) (by unfold iv; rw [List.getElem?_map, List.getElem?_map, hu]; rfl))) (by rw [ev2_sub, w1, show u.owed + n - u.owed = n by omega])) rfl))⟩
    | 1, hx =>
      cases hx
      exact ⟨_, rfl, e_tup (zAB rfl (zAB (e_p2 (zAG (zAB (e_p2 rfl rfl (zAK σ₁ A1.ord hr2)) rfl) (h_owed M Q2 ok2)) (e_p2 rfl rfl (zAp σ₁ (v := .int u'.owed) (by unfold iv; rw [List.getElem?_map, List.getElem?_map, hu']; rfl))) (by rw [ev2_sub, w2, show u'.owed + -n - u'.owed = -n by omega])) rfl))⟩
    | k + 2, hx => cases hx
  refine .mk σ₃ (zAD M.t112 rfl (s_f rfl (s_asg (v := .lst [.int o]) rfl (s_t rfl (s_asg (v := .lst [.int o, .int p]) rfl (s_asg (comp_owing M A hok hlim rfl rfl) (s_exp (zAG rfl et) (s_asg ec (s_for2 rfl es es2 (s_ret rfl)))))))))) ?_ fun n x hn hx => k3 n x hn (k2 n x hn (k1 n x hn hx))
  have e : (((us.set o u1).set p u2).set o { u1 with rows := u1.rows ++ [(sMove, n)] }).set p { u2 with rows := u2.rows ++ [(sMove, -n)] } = movOr us o p u u' n := by
    unfold movOr
    rw [List.set_comm u2 _ (fun q => hop q.symm), List.set_set, List.set_set, ← hu1, ← hu2]
    show (us.set o { lines := u.lines, paid := u.paid + (0 - n), rows := u.rows ++ [(sMove, n)] }).set p { lines := u'.lines, paid := u'.paid + n, rows := u'.rows ++ [(sMove, -n)] } = (us.set o { lines := u.lines, paid := u.paid + (0 - n), rows := u.rows ++ [(sMove, 0 - (0 - n))] }).set p { lines := u'.lines, paid := u'.paid + n, rows := u'.rows ++ [(sMove, 0 - n)] }
    rw [show (0 - (0 - n)) = n by omega, Int.zero_sub]
  rw [← e]; exact A3
end
end Mine
end

/-! # HE -/
section
set_option autoImplicit false
namespace Mine
open PySem
inductive LinesOf (σ : Sto) (raws : List V) : V → Prop
  | lst : LinesOf σ raws (.lst raws)
  | ref (k : Nat) (h : σ[k]? = some (.list raws)) : LinesOf σ raws (.ref k)
inductive DeedAt (σ : Sto) : Deed → V → Prop
  | ord (ls : List Ln) (lv : V) (h : LinesOf σ (ls.map Ln.raw) lv) : DeedAt σ (.ord ls) (.tup [.str sOrd, lv])
  | oth (D : Deed) (hn : ∀ ls, D ≠ .ord ls) : DeedAt σ D D.v
theorem DeedAt.raw {σ : Sto} {k : Nat} (D : Deed) (h : ∀ ls, D = .ord ls → σ[k]? = some (.list (ls.map Ln.raw))) : DeedAt σ D (D.raw k) := by
  cases D with
  | ord ls => exact .ord ls (.ref k) (.ref k (h ls rfl))
  | _ => exact .oth _ (fun _ h => nomatch h)
theorem DeedAt.val {σ : Sto} (D : Deed) : DeedAt σ D D.v := by
  cases D with
  | ord ls => exact .ord ls _ .lst
  | _ => exact .oth _ (fun _ h => nomatch h)
inductive Stepped (σ : Sto) (ro : Nat → Role) (i a : Nat) (us' : List Or) (v : V) (r : R V) : Prop
  | mk (σ' : Sto) (ro' : Nat → Role) (rs' : List V) (er : r = .ok v σ') (A : Acct σ' ro' i a us' rs') (hro : ∀ (n : Nat) (x : O), σ[n]? = some x → ro' n = ro n) (hk : ∀ (n : Nat) (x : O), ¬ ofAcc i (ro n) → σ[n]? = some x → σ'[n]? = some x)
theorem Moved.stepped {σ : Sto} {ro : Nat → Role} {i a : Nat} {us' : List Or} {rs : List V} {v : V} {r : R V} (h : Moved σ ro i a us' rs v r) : Stepped σ ro i a us' v r := by
  cases h with
  | mk σ' er A hk => exact .mk σ' ro rs er A (fun _ _ _ => rfl) hk
section
variable {T : Nat → Option Fn} {d : Nat} {σ : Sto} {ro : Nat → Role} {i a : Nat} {us : List Or} {rs : List V}
noncomputable def newLn (ls : List Ln) : Sto := ls.map fun l => O.list (lnL l.fresh)
theorem comp_begun {F : Calls} {ls : List Ln} {lv : V} (hlim : ls.length ≤ LIM) (h : LinesOf σ (ls.map Ln.raw) lv) : evE F false (.comp (.trk (.p2 .add (.p1 .toList (.var 6)) (.list [.lit (.int 0), .lit (.int 0), .lit (.int 0), .lit (.int 0)]))) .val [.p2 .index (.var 0) (.lit (.int 1))] none) [.tup [.str sOrd, lv], .ref a, .undef, .undef, .undef, .undef] σ = .ok (.lst ((List.range ls.length).map fun t => .ref (σ.length + t))) (σ ++ newLn ls) := by
  have key : ∀ {it : Items}, itemsBy σ .val [lv] = some it → (∀ X : Sto, Gives (σ ++ X) it (ls.map Ln.raw)) → evE F false (.comp (.trk (.p2 .add (.p1 .toList (.var 6)) (.list [.lit (.int 0), .lit (.int 0), .lit (.int 0), .lit (.int 0)]))) .val [.p2 .index (.var 0) (.lit (.int 1))] none) [.tup [.str sOrd, lv], .ref a, .undef, .undef, .undef, .undef] σ = .ok (.lst ((List.range ls.length).map fun t => .ref (σ.length + t))) (σ ++ newLn ls) := fun {it} hit hg => by
    obtain ⟨acc, σ', e, h1, h2, _⟩ := comp_inv (F := F) (elt := .trk (.p2 .add (.p1 .toList (.var 6)) (.list [.lit (.int 0), .lit (.int 0), .lit (.int 0), .lit (.int 0)]))) (k := .val) (src := [.p2 .index (.var 0) (.lit (.int 1))]) (ρ := [.tup [.str sOrd, lv], .ref a, .undef, .undef, .undef, .undef]) (vs := [lv]) (σ := σ) (σ₁ := σ) (it := it) (xs := ls.map Ln.raw)
      (fun j acc σ' => acc = (List.range j).map (fun t => V.ref (σ.length + t)) ∧ σ' = σ ++ newLn (ls.take j) ∧ j ≤ ls.length) rfl hit (fun j acc σ' hI => by obtain ⟨rfl, rfl, _⟩ := hI; exact ⟨hg _, by rw [List.length_map, List.length_range]⟩) (by rw [List.length_map]; exact hlim) ⟨rfl, by rw [List.take_zero]; exact (List.append_nil σ).symm, Nat.zero_le _⟩ fun j x acc σ' hx hI => by
        obtain ⟨rfl, rfl, hj⟩ := hI
        rw [List.getElem?_map] at hx
        obtain ⟨l, hl, rfl⟩ := Option.map_eq_some_iff.mp hx
        have hjl : j < ls.length := (List.getElem?_eq_some_iff.mp hl).1
        refine ⟨.ref (σ.length + j), σ ++ newLn (ls.take (j + 1)), ?_, ?_, rfl, hjl⟩
        · rw [x_trk, e_p2 (x := .lst [.str l.item, .int l.p, .int l.c, .int l.k]) (y := .lst [.int 0, .int 0, .int 0, .int 0]) (z := .lst (lnL l.fresh)) (e_p1 (x := l.raw) rfl rfl) rfl rfl]
          show R.ok (V.ref (σ ++ newLn (ls.take j)).length) (σ ++ newLn (ls.take j) ++ [O.list (lnL l.fresh)]) = _
          have hn : (newLn (ls.take j)).length = j := by unfold newLn; rw [List.length_map, List.length_take]; exact Nat.min_eq_left hj
          rw [List.length_append, hn, List.append_assoc, List.take_add_one, hl]
          unfold newLn
          rw [List.map_append]; rfl
        · rw [List.range_succ, List.map_append]; rfl
    rw [e, h1, h2, List.length_map, List.take_length]
  cases h with
  | lst => exact key rfl fun _ => .inl rfl
  | ref k hk => exact key (zBx σ hk) fun X => .inr ⟨k, rfl, by rw [List.getElem?_append_left (List.getElem?_eq_some_iff.mp hk).1]; exact hk⟩
theorem step_ord (M : ModTab T) (A : Acct σ ro i a us rs) (hlim : us.length < LIM) {ls : List Ln} {lv : V} (hls : ls.length ≤ 20) (h : LinesOf σ (ls.map Ln.raw) lv) : Stepped σ ro i a (us ++ [newOr ls]) (.lst []) (callFn T (d + 3) false 112 [.tup [.str sOrd, lv], .ref a] σ) := by
  have hn : (newLn ls).length = ls.length := by unfold newLn; rw [List.length_map]
  have ha : a < σ.length := (List.getElem?_eq_some_iff.mp A.ord).1
  generalize hrf : (List.range ls.length).map (fun t => V.ref (σ.length + t)) = rf
  have ec := comp_begun (F := callFn T (d + 2) false) (a := a) (Nat.le_trans hls (by decide)) h
  rw [hrf] at ec
  generalize hS : σ ++ newLn ls ++ [O.list []] ++ [O.list [.lst rf, .int 0, .ref (σ.length + ls.length)]] = S
  have hlen1 : (σ ++ newLn ls).length = σ.length + ls.length := by rw [List.length_append, hn]
  have hlen2 : (σ ++ newLn ls ++ [O.list []]).length = σ.length + ls.length + 1 := by rw [List.length_append, hlen1]; rfl
  have ee : evE (callFn T (d + 2) false) false (.trk (.list [.comp (.trk (.p2 .add (.p1 .toList (.var 6)) (.list [.lit (.int 0), .lit (.int 0), .lit (.int 0), .lit (.int 0)]))) .val [.p2 .index (.var 0) (.lit (.int 1))] none, .lit (.int 0), .trk (.list [])])) [.tup [.str sOrd, lv], .ref a, .undef, .undef, .undef, .undef] σ = .ok (.ref (σ.length + ls.length + 1)) S := by
    rw [x_trk, e_list (zAB ec (zAB (σ₂ := σ ++ newLn ls ++ [O.list []]) (vs := [.ref (σ.length + ls.length)]) rfl (by
      rw [x_cons, x_trk]
      show R.ok [V.ref (σ ++ newLn ls).length] (σ ++ newLn ls ++ [O.list []]) = _
      rw [hlen1])))]
    show R.ok (V.ref (σ ++ newLn ls ++ [O.list []]).length) (σ ++ newLn ls ++ [O.list []] ++ [O.list [.lst rf, .int 0, .ref (σ.length + ls.length)]]) = _
    rw [hlen2, hS]
  have old : ∀ (n : Nat) (x : O), σ[n]? = some x → S[n]? = some x := fun n x hx => by
    rw [← hS, List.append_assoc, List.append_assoc, List.getElem?_append_left (List.getElem?_eq_some_iff.mp hx).1]; exact hx
  have hSa := old a _ A.ord
  have atL : ∀ (k : Nat) (l : Ln), ls[k]? = some l → S[σ.length + k]? = some (.list (lnL l.fresh)) := fun k l hl => by
    have hk : k < ls.length := (List.getElem?_eq_some_iff.mp hl).1
    rw [← hS, List.append_assoc, List.append_assoc, List.getElem?_append_right (Nat.le_add_right _ _), Nat.add_sub_cancel_left, List.getElem?_append_left (by rw [hn]; exact hk)]
    unfold newLn
    rw [List.getElem?_map, hl]; rfl
  have atQ : S[σ.length + ls.length]? = some (.list []) := by
    rw [← hS, List.getElem?_append_left (by rw [hlen2]; exact Nat.lt_succ_self _), ← hlen1]; exact zAZ
  have atR : S[σ.length + ls.length + 1]? = some (.list [.lst rf, .int 0, .ref (σ.length + ls.length)]) := by
    rw [← hS, ← hlen2]; exact zAZ
  let ro' : Nat → Role := fun n => if n < σ.length then ro n else if n < σ.length + ls.length then .lin i us.length (n - σ.length) else if n = σ.length + ls.length then .row i us.length else .ord i us.length
  have hro : ∀ n, n < σ.length → ro' n = ro n := fun n h => if_pos h
  have nea : ∀ {n : Nat}, σ.length ≤ n → a ≠ n := fun h => Nat.ne_of_lt (Nat.lt_of_lt_of_le ha h)
  refine .mk (S.set a (.list (rs ++ [.ref (σ.length + ls.length + 1)]))) ro' (rs ++ [.ref (σ.length + ls.length + 1)]) (zAD M.t112 rfl (s_t rfl (s_exp (zAj (x := .ref a) rfl (by show (listR _).isSome = true; rw [A.ord]; rfl) ee (zAX _ hSa (by rw [A.len]; exact hlim))) (s_ret rfl)))) ?_ (fun n x hx => hro n (List.getElem?_eq_some_iff.mp hx).1) fun n x hn hx => zAF (old n x hx) fun q => hn (by rw [← q]; exact .inl A.ra)
  refine ⟨zAQ hSa, (hro a ha).trans A.ra, by rw [List.length_append, List.length_append, A.len]; rfl, fun o u hu => ?_⟩
  by_cases ho : o < us.length
  · rw [List.getElem?_append_left ho] at hu
    obtain ⟨r, hr, Q⟩ := A.at_ o u hu
    refine ⟨r, by rw [List.getElem?_append_left (by rw [A.len]; exact ho)]; exact hr, Q.keep fun n x hn hx => ⟨zAF (old n x hx) fun q => ?_, hro n (List.getElem?_eq_some_iff.mp hx).1⟩⟩
    rw [← q, A.ra] at hn
    rcases hn with h | h | ⟨k, h⟩ <;> cases h
  · have hl : o < us.length + 1 := by have := (List.getElem?_eq_some_iff.mp hu).1; rw [List.length_append] at this; exact this
    obtain rfl : o = us.length := Nat.le_antisymm (Nat.lt_succ_iff.mp hl) (Nat.not_lt.mp ho)
    rw [List.getElem?_append_right (Nat.le_refl _), Nat.sub_self] at hu
    cases hu
    refine ⟨σ.length + ls.length + 1, by rw [← A.len, List.getElem?_append_right (Nat.le_refl _), Nat.sub_self]; rfl, .mk (σ.length + ls.length) rf (zAF atR (nea (Nat.le_succ_of_le (Nat.le_add_right _ _)))) ?_ (zAF atQ (nea (Nat.le_add_right _ _))) ?_ ?_ fun k l hk => ?_⟩
    · show (if _ then _ else _) = _
      rw [if_neg (Nat.not_lt.mpr (Nat.le_succ_of_le (Nat.le_add_right _ _))), if_neg (Nat.not_lt.mpr (Nat.le_succ _)), if_neg (Nat.succ_ne_self _)]
    · show (if _ then _ else _) = _
      rw [if_neg (Nat.not_lt.mpr (Nat.le_add_right _ _)), if_neg (Nat.lt_irrefl _), if_pos rfl]
    · show rf.length = (ls.map Ln.fresh).length
      rw [← hrf, List.length_map, List.length_map, List.length_range]
    · have hk : (ls.map Ln.fresh)[k]? = some l := hk
      rw [List.getElem?_map] at hk
      obtain ⟨m, hm, rfl⟩ := Option.map_eq_some_iff.mp hk
      have hkl : k < ls.length := (List.getElem?_eq_some_iff.mp hm).1
      refine ⟨σ.length + k, by rw [← hrf, List.getElem?_map, List.getElem?_range hkl]; rfl, zAF (atL k m hm) (nea (Nat.le_add_right _ _)), ?_⟩
      show (if _ then _ else _) = _
      rw [if_neg (Nat.not_lt.mpr (Nat.le_add_right _ _)), if_pos (Nat.add_lt_add_left hkl _), Nat.add_sub_cancel_left]
theorem less_paid (s p n : Int) : s - (p + n) - (s - p) = -n := by omega
theorem h_step (M : ModTab T) (A : Acct σ ro i a us rs) (hok : ∀ u ∈ us, u.ok) (hrow : ∀ u ∈ us, u.rows.length < LIM) (hlim : us.length < LIM) {D : Deed} {us' : List Or} {out : List (Int × Int)} (S : Step us D us' out) (hf : D.fit us) {dv : V} (hd : DeedAt σ D dv) :
    Stepped σ ro i a us' (chV out) (callFn T (d + 3) false 112 [dv, .ref a] σ) := by
  have hl := Nat.le_of_lt hlim
  cases S with
  | ord ls =>
    cases hd with
    | ord _ lv h => exact step_ord M A hlim hf.2.1 h
    | oth _ hn => exact (hn ls rfl).elim
  | pay o n u hu h1 =>
    cases hd
    have k := hok u (List.mem_of_getElem? hu)
    have w1 : ({ u with paid := u.paid + n } : Or).owed - u.owed = -n := less_paid _ u.paid n
    have := (step_one (w := .pay) (u1 := { u with paid := u.paid + n }) M A hok hl (fun _ => rfl) (fun _ => rfl) (fun _ => rfl) (fun _ => rfl) (fun _ => rfl) hu ⟨k.few, k.ls⟩ rfl (hrow u (List.mem_of_getElem? hu)) (turned_pay (d := d) (n := n) M A hu)).stepped
    rw [w1] at this
    unfold payOr
    rw [Int.zero_sub]; exact this
  | ref o n u hu h1 h2 =>
    cases hd
    have k := hok u (List.mem_of_getElem? hu)
    have w1 : ({ u with paid := u.paid + (0 - n) } : Or).owed - u.owed = n := (less_paid _ u.paid (0 - n)).trans (by rw [Int.zero_sub, Int.neg_neg])
    have := (step_one (w := .ref) (u1 := { u with paid := u.paid + (0 - n) }) M A hok hl (fun _ => rfl) (fun _ => rfl) (fun _ => rfl) (fun _ => rfl) (fun _ => rfl) hu ⟨k.few, k.ls⟩ rfl (hrow u (List.mem_of_getElem? hu)) (turned_ref (d := d) (n := n) M A hu)).stepped
    rw [w1] at this
    unfold payOr
    rw [show (0 - (0 - n)) = n from (Int.zero_sub _).trans ((congrArg _ (Int.zero_sub n)).trans (Int.neg_neg n))]; exact this
  | mov o p n u u' hu hu' hop h1 h2 =>
    cases hd
    exact (step_two M A hok hl hu hu' hop (hrow u (List.mem_of_getElem? hu)) (hrow u' (List.mem_of_getElem? hu'))).stepped
  | lin w o k n u l hu hl' h1 h2 =>
    cases hd
    have ku := hok u (List.mem_of_getElem? hu)
    have okl := ku.ls l (List.mem_of_getElem? hl')
    have ok1 : ({ u with lines := u.lines.set k (behindL w l n) } : Or).ok := ⟨by show (u.lines.set k _).length ≤ 20; rw [List.length_set]; exact ku.few, fun m hm => by
      rcases zAM hm with hm | rfl
      · exact ku.ls m hm
      · exact zBA okl⟩
    have w1 : ({ u with lines := u.lines.set k (behindL w l n) } : Or).owed - u.owed = (behindL w l n).charge - l.charge := by
      have := owed_up (u := u) hl' w n
      have e : ({ u with lines := u.lines.set k (behindL w l n) } : Or).owed = (upL w u k l n).owed := rfl
      rw [e, this, Int.add_comm, Int.add_sub_cancel]
    have := (step_one (w := .lin w) (u1 := { u with lines := u.lines.set k (behindL w l n) }) M A hok hl (fun _ => rfl) (fun _ => rfl) (fun _ => rfl) (fun _ => w_ord w) (fun _ => zBa w) hu ok1 rfl (hrow u (List.mem_of_getElem? hu)) (turned_lin (d := d) (n := n) M A hu hl' okl w)).stepped
    rw [w1] at this
    exact this
end
end Mine
end

/-! # P10 -/
section
set_option autoImplicit false
namespace Mine
open PySem
noncomputable def trks10 : List (Nat × Nat × Nat) := [(78,23,25),(79,23,25),(99,15,17),(127,19,91),(129,19,53),(131,19,57),(132,15,56),(224,17,19),(295,27,98),(295,29,59),(295,95,97),(390,21,61),(400,21,23),(400,25,27),(401,16,18)]
noncomputable def f10_33 : Fn := { params := 1, slots := 1, body := [CS.stuck] }
noncomputable def f10_9 : Fn := { params := 1, slots := 1, body := [CS.exp (CE.call 33 [CE.lit (V.int 0)])] }
noncomputable def f10_15 : Fn := { params := 2, slots := 2, body := [CS.exp (CE.call 33 [CE.lit (V.int 1)])] }
noncomputable def f10_16 : Fn := { params := 1, slots := 1, body := [CS.exp (CE.call 33 [CE.lit (V.int 2)])] }
noncomputable def f10_115 : Fn := { params := 2, slots := 4, body := [CS.ite (CE.or (CE.p1 P1.not (CE.p1 (P1.isInst Kd.list) (CE.var 0))) (CE.p2 P2.ne (CE.p1 P1.len (CE.var 0)) (CE.p1 P1.len (CE.var 1)))) [CS.ret (CE.lit (V.bool false))] [],CS.for 2 SK.range1 [CE.p1 P1.len (CE.var 1)] [CS.ite (CE.or (CE.p1 P1.not (CE.p1 (P1.isInst Kd.tuple) (CE.p2 P2.index (CE.var 0) (CE.var 2)))) (CE.p2 P2.ne (CE.p2 P2.index (CE.var 0) (CE.var 2)) (CE.p2 P2.index (CE.var 1) (CE.var 2)))) [CS.ret (CE.lit (V.bool false))] [],CS.for 3 SK.val [CE.p2 P2.index (CE.var 0) (CE.var 2)] [CS.ite (CE.and (CE.p1 P1.not (CE.p1 (P1.isInst Kd.str) (CE.var 3))) (CE.p1 P1.not (CE.call 101 [CE.var 3]))) [CS.ret (CE.lit (V.bool false))] []]],CS.ret (CE.lit (V.bool true))] }
noncomputable def f10_116 : Fn := { params := 1, slots := 1, body := [CS.ret (CE.comp (CE.tup [CE.p2 P2.index (CE.var 1) (CE.lit (V.int 0)),CE.p2 P2.index (CE.var 1) (CE.lit (V.int 1)),CE.p2 P2.index (CE.var 1) (CE.lit (V.int 4)),CE.p2 P2.index (CE.var 1) (CE.lit (V.int 5)),CE.p2 P2.index (CE.var 1) (CE.lit (V.int 6)),CE.p2 P2.index (CE.var 1) (CE.lit (V.int 7))]) SK.val [CE.p2 P2.index (CE.var 0) (CE.lit (V.int 0))] none)] }
noncomputable def f10_117 : Fn := { params := 4, slots := 6, body := [CS.ite (CE.or (CE.p1 P1.not (CE.call 101 [CE.callm 10 (CE.var 0) []])) (CE.p2 P2.ne (CE.callm 10 (CE.var 0) []) (CE.p1 P1.len (CE.var 1)))) [CS.ret (CE.lit (V.bool false))] [],CS.for 4 SK.val [CE.var 2] [CS.asg 5 (CE.callm 11 (CE.var 0) [CE.var 4]),CS.ite (CE.p1 P1.not (CE.call 115 [CE.var 5,CE.call 116 [CE.p2 P2.index (CE.var 1) (CE.var 4)]])) [CS.ret (CE.lit (V.bool false))] [],CS.exp (CE.append (CE.var 3) (CE.var 5)),CS.exp (CE.append (CE.var 3) (CE.p1 P1.toList (CE.var 5))),CS.ite (CE.or (CE.p1 P1.not (CE.call 101 [CE.callm 12 (CE.var 0) [CE.var 4]])) (CE.p2 P2.ne (CE.callm 12 (CE.var 0) [CE.var 4]) (CE.p2 P2.index (CE.p2 P2.index (CE.var 1) (CE.var 4)) (CE.lit (V.int 1))))) [CS.ret (CE.lit (V.bool false))] [],CS.ite (CE.or (CE.p1 P1.not (CE.call 101 [CE.callm 13 (CE.var 0) [CE.var 4]])) (CE.p2 P2.ne (CE.callm 13 (CE.var 0) [CE.var 4]) (CE.call 103 [CE.p2 P2.index (CE.var 1) (CE.var 4)]))) [CS.ret (CE.lit (V.bool false))] []],CS.ret (CE.lit (V.bool true))] }
noncomputable def zBh : Fn := { params := 2, slots := 3, body := [CS.ite (CE.p2 P2.eq (CE.p2 P2.index (CE.var 0) (CE.lit (V.int 0))) (CE.lit (V.str { cps := #[111,114,100,101,114] }))) [CS.ret (CE.list [CE.p2 P2.sub (CE.p1 P1.len (CE.var 1)) (CE.lit (V.int 1))])] [],CS.asg 2 (CE.list [CE.p2 P2.index (CE.var 0) (CE.lit (V.int 1))]),CS.ite (CE.p2 P2.eq (CE.p2 P2.index (CE.var 0) (CE.lit (V.int 0))) (CE.lit (V.str { cps := #[109,111,118,101] }))) [CS.asg 2 (CE.list [CE.p2 P2.index (CE.var 0) (CE.lit (V.int 1)),CE.p2 P2.index (CE.var 0) (CE.lit (V.int 2))])] [],CS.ret (CE.comp (CE.var 3) SK.val [CE.var 2] (some (CE.chain (CE.lit (V.int 0)) [P2.le, P2.lt] [CE.var 3,CE.p1 P1.len (CE.var 1)])))] }
noncomputable def f10_119 : Fn := { params := 4, slots := 4, body := [CS.ite (CE.p2 P2.ne (CE.var 1) (CE.lit (V.str { cps := #[] }))) [CS.ret (CE.and (CE.p1 (P1.isInst Kd.str) (CE.var 0)) (CE.p2 P2.eq (CE.var 0) (CE.var 1)))] [],CS.ret (CE.call 115 [CE.var 0,CE.call 112 [CE.var 2,CE.var 3]])] }
noncomputable def zBz : Fn := { params := 4, slots := 6, body := [CS.asg 4 (CE.call 113 [CE.var 1]),CS.asg 5 (CE.call 114 [CE.var 0,CE.var 4]),CS.ite (CE.or (CE.p2 P2.ne (CE.var 4) (CE.var 1)) (CE.p1 P1.not (CE.call 119 [CE.var 5,CE.call 110 [CE.var 1,CE.var 2],CE.var 1,CE.var 2]))) [CS.ret (CE.lit (V.bool false))] [],CS.ite (CE.p1 (P1.isInst Kd.list) (CE.var 5)) [CS.ite (CE.p2 P2.eq (CE.p2 P2.mod (CE.p1 P1.len (CE.var 3)) (CE.lit (V.int 4))) (CE.lit (V.int 2))) [CS.exp (CE.append (CE.var 5) (CE.tup [CE.lit (V.int 0),CE.lit (V.int 9)]))] [],CS.exp (CE.append (CE.var 3) (CE.var 5)),CS.exp (CE.append (CE.var 3) (CE.p1 P1.toList (CE.var 5)))] [],CS.ret (CE.lit (V.bool true))] }
noncomputable def f10_121 : Fn := { params := 1, slots := 2, body := [CS.for 1 SK.range1 [CE.p2 P2.fdiv (CE.p1 P1.len (CE.var 0)) (CE.lit (V.int 2))] [CS.ite (CE.p2 P2.ne (CE.p2 P2.index (CE.var 0) (CE.p2 P2.mul (CE.lit (V.int 2)) (CE.var 1))) (CE.p2 P2.index (CE.var 0) (CE.p2 P2.add (CE.p2 P2.mul (CE.lit (V.int 2)) (CE.var 1)) (CE.lit (V.int 1))))) [CS.ret (CE.lit (V.bool false))] []],CS.ret (CE.lit (V.bool true))] }
noncomputable def zBy : Fn := { params := 3, slots := 8, body := [CS.asg 3 (CE.call 100 [CE.var 2,CE.lit (V.int 0)]),CS.asg 4 (CE.lit (V.int 0)),CS.ite (CE.p2 P2.eq (CE.p2 P2.mod (CE.p2 P2.mod (CE.p2 P2.mul (CE.var 3) (CE.lit (V.int 48271))) (CE.lit (V.int 10133))) (CE.lit (V.int 6))) (CE.lit (V.int 1))) [CS.asg 4 (CE.p2 P2.mod (CE.p2 P2.mod (CE.p2 P2.mul (CE.var 3) (CE.lit (V.int 48271))) (CE.lit (V.int 10139))) (CE.lit (V.int 40)))] [],CS.for 5 SK.range1 [CE.var 4] [CS.asg 6 (CE.trk (CE.list [CE.tup [CE.lit (V.str { cps := #[111,114,100,101,114] }),CE.list [CE.tup [CE.lit (V.str { cps := #[112,101,110] }),CE.p2 P2.add (CE.lit (V.int 1)) (CE.var 5),CE.lit (V.int 3),CE.lit (V.int 1)]]]])),CS.ite (CE.p2 P2.eq (CE.p2 P2.mod (CE.var 5) (CE.lit (V.int 3))) (CE.lit (V.int 1))) [CS.exp (CE.append (CE.var 6) (CE.tup [CE.lit (V.str { cps := #[100,101,108,105,118,101,114] }),CE.var 5,CE.lit (V.int 0),CE.p2 P2.add (CE.lit (V.int 1)) (CE.p2 P2.fdiv (CE.var 5) (CE.lit (V.int 2)))]))] [],CS.ite (CE.p2 P2.eq (CE.p2 P2.mod (CE.var 5) (CE.lit (V.int 3))) (CE.lit (V.int 2))) [CS.exp (CE.append (CE.var 6) (CE.tup [CE.lit (V.str { cps := #[112,97,121] }),CE.var 5,CE.p2 P2.mul (CE.lit (V.int 5)) (CE.var 5)]))] [],CS.for 7 SK.val [CE.var 6] [CS.exp (CE.callm 2 (CE.var 0) [CE.call 113 [CE.var 7]]),CS.exp (CE.call 112 [CE.var 7,CE.var 1])]],CS.ret (CE.var 0)] }
noncomputable def zDE : Fn := { params := 1, slots := 7, body := [CS.asg 1 (CE.list [CE.trk (CE.list []),CE.trk (CE.list [])]),CS.asg 2 (CE.trk (CE.list [])),CS.asg 3 (CE.list [CE.call 122 [CE.new, CE.p2 P2.index (CE.var 1) (CE.lit (V.int 0)),CE.var 0],CE.new]),CS.for 4 SK.range1 [CE.p2 P2.fdiv (CE.p1 P1.len (CE.var 0)) (CE.lit (V.int 2))] [CS.asg 5 (CE.p1 P1.toInt (CE.p2 P2.eq (CE.p2 P2.mod (CE.p2 P2.mod (CE.p2 P2.mul (CE.p2 P2.index (CE.var 0) (CE.p2 P2.mul (CE.lit (V.int 2)) (CE.var 4))) (CE.lit (V.int 48271))) (CE.lit (V.int 10103))) (CE.lit (V.int 4))) (CE.lit (V.int 0)))),CS.asg 6 (CE.call 109 [CE.p2 P2.index (CE.var 0) (CE.p2 P2.mul (CE.lit (V.int 2)) (CE.var 4)),CE.p2 P2.index (CE.var 0) (CE.p2 P2.add (CE.p2 P2.mul (CE.lit (V.int 2)) (CE.var 4)) (CE.lit (V.int 1))),CE.p2 P2.index (CE.var 1) (CE.var 5)]),CS.ite (CE.p1 P1.not (CE.call 120 [CE.p2 P2.index (CE.var 3) (CE.var 5),CE.var 6,CE.p2 P2.index (CE.var 1) (CE.var 5),CE.var 2])) [CS.ret (CE.lit (V.bool false))] [],CS.ite (CE.p1 P1.not (CE.call 117 [CE.p2 P2.index (CE.var 3) (CE.var 5),CE.p2 P2.index (CE.var 1) (CE.var 5),CE.call 118 [CE.var 6,CE.p2 P2.index (CE.var 1) (CE.var 5)],CE.var 2])) [CS.ret (CE.lit (V.bool false))] []],CS.for 5 SK.range1 [CE.lit (V.int 2)] [CS.ite (CE.p1 P1.not (CE.call 117 [CE.p2 P2.index (CE.var 3) (CE.var 5),CE.p2 P2.index (CE.var 1) (CE.var 5),CE.comp (CE.var 7) SK.range1 [CE.p1 P1.len (CE.p2 P2.index (CE.var 1) (CE.var 5))] none, CE.var 2])) [CS.ret (CE.lit (V.bool false))] []],CS.ret (CE.call 121 [CE.var 2])] }
noncomputable def tabM10 : List (Nat × Fn) := [(0, fB_0),(1, fB_1),(2, fB_2),(3, fB_3 true),(4, fB_4),(5, fB_5),(6, fB_6 true),(7, fB_7),(8, fB_8),(9, f10_9),(10, fB_10),(11, fB_11),(12, fB_12),(13, fB_13),(14, fB_14),(15, f10_15),(16, f10_16)]
noncomputable def tabF10 : List (Nat × Fn) := [(33, f10_33),(20, fB_20),(21, fB_21),(22, fB_22),(23, fB_23),(24, fB_24),(25, fB_25),(26, fB_26),(100, hCell),(101, gWhole),(102, hWorth),(103, hOwed),(104, hMost),(105, gPlace),(106, gNumber),(107, gItem),(108, gLines 107),(109, hDeed),(110, hRefusal),(111, hTurned),(112, hStep),(113, gHanded),(114, gTried),(115, f10_115),(116, f10_116),(117, f10_117),(118, zBh),(119, f10_119),(120, zBz),(121, f10_121),(122, zBy),(123, zDE)]
noncomputable def tab10 : List (Nat × Fn) := tabM10 ++ tabF10
noncomputable def T10 (n : Nat) : Option Fn := tab10.lookup n
end Mine
end

/-! # L10a -/
section
set_option autoImplicit false
namespace Mine
open PySem
theorem bookTab10 : BookTab T10 true := ⟨rfl, rfl, rfl, rfl, rfl, rfl, rfl, rfl, rfl, rfl, rfl, rfl, rfl, rfl, rfl, rfl, rfl, rfl, rfl, rfl⟩
theorem modTab10 : ModTab T10 := ⟨rfl, rfl, rfl, rfl, rfl, rfl, rfl, rfl, rfl, rfl, rfl, rfl, rfl⟩
noncomputable def Flat (v : V) : Prop := ∃ ys, v = .tup ys ∧ ∀ y ∈ ys, (∃ s, y = .str s) ∨ ∃ i, y = .int i
theorem has_flat {σ : Sto} {d : Nat} {v : V} (h : Flat v) : Has σ (d + 2) v := by
  obtain ⟨ys, rfl, h⟩ := h
  obtain ⟨zs, hz⟩ := zEb (σ := σ) (d := d + 1) (xs := ys) fun y hy => by
    rcases h y hy with ⟨s, rfl⟩ | ⟨i, rfl⟩
    · exact ⟨_, rfl⟩
    · exact ⟨_, rfl⟩
  exact ⟨.tuple zs, by show (ys.mapM (toPy σ (d + 1))).map PyData.tuple = _; rw [hz]; rfl⟩
theorem flat_told (l : Ln) : Flat (toldV l) := ⟨_, rfl, fun y hy => by
  simp only [List.mem_cons, List.not_mem_nil, or_false] at hy
  rcases hy with rfl | rfl | rfl | rfl | rfl | rfl
  · exact .inl ⟨_, rfl⟩
  all_goals exact .inr ⟨_, rfl⟩⟩
theorem flat_ch {out : List (Int × Int)} : ∀ v ∈ chL out, Flat v := fun v hv => by
  obtain ⟨p, _, rfl⟩ := List.mem_map.mp hv
  refine ⟨_, rfl, fun y hy => ?_⟩
  simp only [List.mem_cons, List.not_mem_nil, or_false] at hy
  rcases hy with rfl | rfl <;> exact .inr ⟨_, rfl⟩
theorem ne_int {σ : Sto} {i : Int} : ev2 .ne σ (.int i) (.int i) = some (.bool false) := by rw [ev2_ne, bne_self_eq_false]
section
variable {d : Nat} {σ σ' : Sto} {ro ro' : Nat → Role} {i a b e h o r m : Nat} {us : List Or} {hs rs xs : List V} {u : Or} {fv : V}
theorem LinesOf.read (h : LinesOf σ xs fv) (ρ : List V) : readVar (fv :: ρ) 0 = some fv := by cases h <;> rfl
theorem LinesOf.len (h : LinesOf σ xs fv) : ev1 .len σ fv = some (.int xs.length) := by
  cases h with
  | lst => rfl
  | ref k hk => exact zAs σ hk
theorem LinesOf.inst (h : LinesOf σ xs fv) : ev1 (.isInst .list) σ fv = some (.bool true) := by
  cases h with
  | lst => rfl
  | ref k hk => rw [ev1_isInst, instK_lr σ hk]; rfl
theorem LinesOf.index (h : LinesOf σ xs fv) {j : Nat} {v : V} (hj : xs[j]? = some v) : ev2 .index σ fv (.int j) = some v := by
  cases h with
  | lst => exact zAp σ hj
  | ref k hk => exact zAK σ hk hj
theorem LinesOf.list (h : LinesOf σ xs fv) : ev1 .toList σ fv = some (.lst xs) := by
  cases h with
  | lst => rfl
  | ref n h => show (match σ[n]? with | some (.list xs) => some xs | _ => none).map V.lst = _; rw [h]; rfl
theorem c115 (hf : LinesOf σ xs fv) (hx : ∀ v ∈ xs, Flat v) (hl : xs.length ≤ LIM) : callFn T10 (d + 2) false 115 [fv, .lst xs] σ = .ok (.bool true) σ := by
  have v0 : ∀ {F : Calls} {ρ : List V}, evE F false (.var 0) (fv :: ρ) σ = .ok fv σ := fun {F ρ} => by rw [x_var, hf.read]; rfl
  obtain ⟨ρ', σ', ef, x2, x3, rfl, rfl⟩ := zCt (F := callFn T10 (d + 1) false) (Fq := callFn T10 (d + 1) true) (i := 2) (k := .range1) (src := [.p1 .len (.var 1)]) (body := match f10_115.body with
      | [_, .for _ _ _ b, _] => b
      | _ => []) (ρ := [fv, .lst xs, .undef, .undef]) (vs := [.int xs.length]) (σ := σ) (σ₁ := σ) (it := .now (rangeL 0 xs.length)) (xs := rangeL 0 xs.length)
    (fun j ρ σ' => ∃ x2 x3, ρ = [fv, .lst xs, x2, x3] ∧ σ' = σ) (zAB (e_p1 rfl (zAa σ xs)) rfl) (zAS σ (by rw [Int.natAbs_natCast]; exact hl)) (fun _ _ _ _ => .inl rfl) ⟨_, _, rfl, rfl⟩ fun j x ρ σ' hjj hI => by
      obtain ⟨y2, y3, rfl, rfl⟩ := hI
      obtain ⟨rfl, hj⟩ := zBe hjj
      have hv : xs[j]? = some xs[j] := List.getElem?_eq_getElem hj
      have fl := hx _ (List.mem_of_getElem? hv)
      generalize xs[j] = v at hv fl
      have hv3 : Has σ' eqDepth v := has_flat fl
      obtain ⟨ys, rfl, hy⟩ := fl
      have i0 : ∀ {F : Calls} {z : V}, evE F false (.p2 .index (.var 0) (.var 2)) [fv, .lst xs, .int j, z] σ' = .ok (.tup ys) σ' := e_p2 v0 rfl (hf.index hv)
      obtain ⟨ρ'', σ'', ef2, x3, rfl, rfl⟩ := zCt (F := callFn T10 (d + 1) false) (Fq := callFn T10 (d + 1) true) (i := 3) (k := .val) (src := [.p2 .index (.var 0) (.var 2)]) (body := [.ite (.and (.p1 .not (.p1 (.isInst .str) (.var 3))) (.p1 .not (.call 101 [.var 3]))) [.ret (.lit (.bool false))] []]) (ρ := [fv, .lst xs, .int j, y3]) (vs := [.tup ys]) (σ := σ') (σ₁ := σ') (it := .now ys) (xs := ys)
        (fun _ ρ σ'' => ∃ x3, ρ = [fv, .lst xs, .int j, x3] ∧ σ'' = σ') (zAB i0 rfl) rfl (fun _ _ _ _ => .inl rfl) ⟨_, rfl, rfl⟩ fun k x ρ σ'' hk hI => by
          obtain ⟨y, rfl, rfl⟩ := hI
          rcases hy x (List.mem_of_getElem? hk) with ⟨s, rfl⟩ | ⟨n, rfl⟩
          · exact ⟨_, _, s_f (zAC (zAr rfl rfl)) rfl, _, rfl, rfl⟩
          · exact ⟨_, _, s_f (zAC (zAk rfl rfl (e_p1 (zAG rfl (g_whole modTab10.t101 n)) rfl))) rfl, _, rfl, rfl⟩
      exact ⟨_, _, s_f (zAC (zAW (x := .bool false) (e_p1 (e_p1 i0 rfl) rfl) rfl (e_p2 i0 (e_p2 rfl rfl (zAp _ hv)) (zCz hv3)))) (zBp ef2 rfl), _, _, rfl, rfl⟩
  exact zAD (fn := f10_115) rfl rfl (s_f (zAC (zAW (x := .bool false) (e_p1 (e_p1 v0 hf.inst) rfl) rfl (e_p2 (e_p1 v0 hf.len) (e_p1 rfl (zAa _ xs)) ne_int))) (zBp ef rfl))
theorem c116 (Q : OrdAt σ ro i o r u) (ok : u.ok) : callFn T10 (d + 1) false 116 [.ref r] σ = .ok (.lst (u.lines.map toldV)) σ := by
  obtain ⟨ls, h0, h1, hl, hls⟩ := Q.index
  refine zAD (fn := f10_116) rfl rfl (s_ret (zEg (vs := [.lst ls]) (xs := ls) (zAB (e_p2 rfl rfl h0) rfl) rfl (.inl rfl) (by rw [hl]; exact Nat.le_of_lt ok.lim) (by rw [List.length_map]; exact hl) fun j x hx => ?_))
  have hj : j < u.lines.length := by rw [← hl]; exact (List.getElem?_eq_some_iff.mp hx).1
  have hlj : u.lines[j]? = some u.lines[j] := List.getElem?_eq_getElem hj
  generalize u.lines[j] = l at hlj
  obtain ⟨n, hn, hnn⟩ := hls j l hlj
  rw [hn] at hx; cases hx
  exact ⟨toldV l, by rw [List.getElem?_map, hlj]; rfl, e_tup (zAB (zAT (k := 0) hnn rfl rfl) (zAB (zAT (k := 1) hnn rfl rfl) (zAB (zAT (k := 4) hnn rfl rfl) (zAB (zAT (k := 5) hnn rfl rfl) (zAB (zAT (k := 6) hnn rfl rfl) (zAB (zAT (k := 7) hnn rfl rfl) rfl))))))⟩
noncomputable def Fr (P : Role → Prop) (σ : Sto) (ro : Nat → Role) (σ' : Sto) (ro' : Nat → Role) : Prop := ∀ (n : Nat) (x : O), ¬ P (ro n) → σ[n]? = some x → σ'[n]? = some x ∧ ro' n = ro n
theorem Fr.refl {P : Role → Prop} : Fr P σ ro σ ro := fun n x _ h => ⟨h, rfl⟩
theorem Fr.trans {P : Role → Prop} {σ₁ σ₂ : Sto} {ro₁ ro₂ : Nat → Role} (f : Fr P σ ro σ₁ ro₁) (g : Fr P σ₁ ro₁ σ₂ ro₂) : Fr P σ ro σ₂ ro₂ := fun n x hn hx => by
  obtain ⟨h1, h2⟩ := f n x hn hx
  obtain ⟨h3, h4⟩ := g n x (by rw [h2]; exact hn) h1
  exact ⟨h3, h4.trans h2⟩
theorem Fr.mono {P Q : Role → Prop} (f : Fr P σ ro σ' ro') (h : ∀ x, P x → Q x) : Fr Q σ ro σ' ro' := fun n x hn hx => f n x (fun p => hn (h _ p)) hx
structure Bk (σ : Sto) (ro : Nat → Role) (i b e h a : Nat) (us : List Or) (hs rs : List V) : Prop where
  B : BookIn σ b e h (us.map Or.v) hs
  rb : ro b = .bk i
  re : ro e = .en i
  rh : ro h = .hi i
  A : Acct σ ro i a us rs
  inv : ∀ u ∈ us, u.inv
  one : ∀ u ∈ us, 1 ≤ u.lines.length
noncomputable def ofBk (i : Nat) (x : Role) : Prop := x = .bk i ∨ x = .en i ∨ x = .hi i ∨ ofAcc i x
theorem Bk.keep {P : Role → Prop} (W : Bk σ ro i b e h a us hs rs) (f : Fr P σ ro σ' ro') (hp : ∀ x, ofBk i x → ¬ P x) : Bk σ' ro' i b e h a us hs rs := by
  obtain ⟨b1, b2⟩ := f b _ (hp _ (.inl W.rb)) W.B.inst
  obtain ⟨e1, e2⟩ := f e _ (hp _ (.inr (.inl W.re))) W.B.ent
  obtain ⟨h1, h2⟩ := f h _ (hp _ (.inr (.inr (.inl W.rh)))) W.B.his
  exact ⟨⟨b1, e1, h1, W.B.ne⟩, b2.trans W.rb, e2.trans W.re, h2.trans W.rh, W.A.keep fun n x hn hx => f n x (hp _ (.inr (.inr (.inr hn)))) hx, W.inv, W.one⟩
theorem Bk.ok (W : Bk σ ro i b e h a us hs rs) : ∀ u ∈ us, u.ok := fun u hu => (W.inv u hu).ok
noncomputable def flatP : List (V × V) → List V
  | [] => []
  | p :: ps => p.1 :: p.2 :: flatP ps
theorem zBL : ∀ ps : List (V × V), (flatP ps).length = 2 * ps.length
  | [] => rfl
  | p :: ps => by rw [flatP, List.length_cons, List.length_cons, zBL ps, List.length_cons]; omega
theorem zEc : ∀ (ps : List (V × V)) (p : V × V), flatP (ps ++ [p]) = flatP ps ++ [p.1] ++ [p.2]
  | [], p => rfl
  | q :: ps, p => by rw [List.cons_append, flatP, zEc ps p]; rfl
theorem flatP_at : ∀ {ps : List (V × V)} {k : Nat} {p : V × V}, ps[k]? = some p → (flatP ps)[2 * k]? = some p.1 ∧ (flatP ps)[2 * k + 1]? = some p.2
  | [], _, _, h => by cases h
  | q :: ps, 0, p, h => by cases h; exact ⟨rfl, rfl⟩
  | q :: ps, k + 1, p, h => by
    obtain ⟨h1, h2⟩ := flatP_at (ps := ps) (k := k) (by simpa using h)
    rw [show 2 * (k + 1) = 2 * k + 1 + 1 by omega]
    exact ⟨h1, h2⟩
inductive Al (σ : Sto) (ro : Nat → Role) : V × V → Prop
  | lst (xs : List V) (h : ∀ x ∈ xs, Flat x) : Al σ ro (.lst xs, .lst xs)
  | ref (n : Nat) (xs : List V) (hn : σ[n]? = some (.list xs)) (rn : ro n = .other) (h : ∀ x ∈ xs, Flat x) : Al σ ro (.ref n, .lst xs)
theorem Al.keep {P : Role → Prop} {p : V × V} (x : Al σ ro p) (f : Fr P σ ro σ' ro') (hp : ¬ P .other) : Al σ' ro' p := by
  cases x with
  | lst xs h => exact .lst xs h
  | ref n xs hn rn h =>
    obtain ⟨h1, h2⟩ := f n _ (by rw [rn]; exact hp) hn
    exact .ref n xs h1 (h2.trans rn) h
theorem Al.ne {p : V × V} (x : Al σ ro p) : ev2 .ne σ p.1 p.2 = some (.bool false) := by
  have hl : ∀ {xs : List V}, (∀ x ∈ xs, Flat x) → ∀ x ∈ xs, Has σ 7 x := fun h x hx => has_flat (h x hx)
  cases x with
  | lst xs h => exact zCz (has_lst (hl h))
  | ref n xs hn rn h =>
    obtain ⟨y, h1, h2⟩ := has_ref hn (hl h)
    show (eqV σ (.ref n) (.lst xs)).map _ = _
    rw [eqV_of h1 (b := .lst xs) h2 fun ys zs g1 g2 => by
      have g1 : listR σ[n]? = some ys := g1
      rw [hn] at g1; cases g1; cases g2; rfl]; rfl
structure KpL (σ : Sto) (ro : Nat → Role) (m : Nat) (kp : List (V × V)) : Prop where
  at_ : σ[m]? = some (.list (flatP kp))
  rm : ro m = .kept
  al : ∀ p ∈ kp, Al σ ro p
theorem KpL.keep {P : Role → Prop} {kp : List (V × V)} (K : KpL σ ro m kp) (f : Fr P σ ro σ' ro') (hp : ¬ P .other) (hk : ¬ P .kept) : KpL σ' ro' m kp := by
  obtain ⟨h1, h2⟩ := f m _ (by rw [K.rm]; exact hk) K.at_
  exact ⟨h1, h2.trans K.rm, fun p hpm => (K.al p hpm).keep f hp⟩
theorem KpL.frame {kp : List (V × V)} (K : KpL σ ro m kp) (x : O) : Fr (· = .kept) σ ro (σ.set m x) ro := fun n y hn hy => ⟨zAF hy fun q => hn (by rw [← q]; exact K.rm), rfl⟩
theorem KpL.add {kp : List (V × V)} (K : KpL σ ro m kp) {p : V × V} (hp : Al σ ro p) : KpL (σ.set m (.list (flatP (kp ++ [p])))) ro m (kp ++ [p]) :=
  ⟨zAQ K.at_, K.rm, fun q hq => by
    rcases List.mem_append.mp hq with hq | hq
    · exact (K.al q hq).keep (K.frame _) (fun h => nomatch h)
    · rw [List.mem_singleton.mp hq]; exact hp.keep (K.frame _) (fun h => nomatch h)⟩
theorem c121 {kp : List (V × V)} (K : KpL σ ro m kp) (hl : kp.length ≤ LIM) : callFn T10 (d + 1) false 121 [.ref m] σ = .ok (.bool true) σ := by
  have hn : ((flatP kp).length : Int).fdiv 2 = ((kp.length : Nat) : Int) := by rw [zBL, Int.fdiv_eq_ediv_of_nonneg _ (by decide)]; omega
  obtain ⟨ρ', σ', ef, x, rfl, rfl⟩ := zCt (F := callFn T10 d false) (Fq := callFn T10 d true) (i := 1) (k := .range1) (src := [.p2 .fdiv (.p1 .len (.var 0)) (.lit (.int 2))]) (body := match f10_121.body with
      | .for _ _ _ b :: _ => b
      | _ => []) (ρ := [.ref m, .undef]) (vs := [.int kp.length]) (σ := σ) (σ₁ := σ) (it := .now (rangeL 0 kp.length)) (xs := rangeL 0 kp.length)
    (fun _ ρ σ' => ∃ x, ρ = [.ref m, x] ∧ σ' = σ) (zAB (e_p2 (e_p1 rfl (zAs σ K.at_)) rfl (by rw [zBH _ _ 2 rfl, hn])) rfl) (zAS σ (by rw [Int.natAbs_natCast]; exact hl)) (fun _ _ _ _ => .inl rfl) ⟨_, rfl, rfl⟩ fun j x ρ σ' hx hI => by
      obtain ⟨y, rfl, rfl⟩ := hI
      obtain ⟨rfl, hj⟩ := zBe hx
      have hp : kp[j]? = some kp[j] := List.getElem?_eq_getElem hj
      generalize kp[j] = p at hp
      obtain ⟨h1, h2⟩ := flatP_at hp
      exact ⟨[.ref m, .int j], _, s_f (zAC (e_p2 (e_p2 rfl (e_p2 rfl rfl (by rw [zAh _ 2 j (.inl rfl), show (2 * (j : Int)) = ((2 * j : Nat) : Int) from rfl])) (zAK _ K.at_ h1)) (e_p2 rfl (e_p2 (e_p2 rfl rfl (zAh _ 2 j (.inl rfl))) rfl (by rw [ev2_add, show (2 * (j : Int) + 1) = ((2 * j + 1 : Nat) : Int) by omega])) (zAK _ K.at_ h2)) (K.al p (List.mem_of_getElem? hp)).ne)) rfl, _, rfl, rfl⟩
  exact zAD (fn := f10_121) rfl rfl (zBp ef rfl)
end
end Mine
end

/-! # L10b -/
section
set_option autoImplicit false
namespace Mine
open PySem
section
variable {d : Nat} {σ σ' : Sto} {ro ro' : Nat → Role} {i a b e h o r m k : Nat} {us us' : List Or} {hs rs xs : List V} {u : Or} {fv : V} {kp : List (V × V)}
inductive Stood (σ : Sto) (ro : Nat → Role) (m : Nat) (kp : List (V × V)) (n : Nat) (r : R V) : Prop
  | mk (σ' : Sto) (kp' : List (V × V)) (er : r = .ok (.bool true) σ') (f : Fr (· = .kept) σ ro σ' ro) (K : KpL σ' ro m kp') (hl : kp'.length = kp.length + n)
inductive StI (σ : Sto) (ro : Nat → Role) (b a m : Nat) (ps : V) (kp : List (V × V)) (j : Nat) : List V → Sto → Prop
  | mk (σ' : Sto) (kp' : List (V × V)) (x4 x5 : V) (f : Fr (· = .kept) σ ro σ' ro) (K : KpL σ' ro m kp') (hl : kp'.length = kp.length + j) : StI σ ro b a m ps kp j [.ref b, .ref a, ps, .ref m, x4, x5] σ'
theorem ofBk_tag {x : Role} (h : ofBk i x) : x.tag ≤ 6 ∧ x.ix = i := by
  rcases h with rfl | rfl | rfl | h
  · exact ⟨show 0 ≤ 6 by decide, rfl⟩
  · exact ⟨show 1 ≤ 6 by decide, rfl⟩
  · exact ⟨show 2 ≤ 6 by decide, rfl⟩
  · exact ⟨(zBK h).1.2, (zBK h).2⟩
theorem zAw : ∀ x, ofBk i x → ¬ x = Role.kept := fun x hx q => by
  subst q
  exact absurd (ofBk_tag hx).1 (show ¬ 7 ≤ 6 by decide)
theorem ofBk_fresh : ∀ x, ofBk i x → ¬ x = Role.fresh := fun x hx q => by
  subst q
  exact absurd (ofBk_tag hx).1 (show ¬ 8 ≤ 6 by decide)
noncomputable def body117 : List CS := match f10_117.body with
  | [_, .for _ _ _ b, _] => b
  | _ => []
theorem stand_turn (W : Bk σ ro i b e h a us hs rs) {ps : V} {j o : Nat} {ρ : List V} {σ₁ : Sto} (ho : o < us.length) (hlim : 2 * (kp.length + j) + 2 < LIM) (I : StI σ ro b a m ps kp j ρ σ₁) :
    ∃ ρ' σ', exL (callFn T10 (d + 3) false) (callFn T10 (d + 3) true) false body117 (ρ.set 4 (.int o)) σ₁ = .ok (.next ρ') σ' ∧ StI σ ro b a m ps kp (j + 1) ρ' σ' := by
  cases I with
  | mk _ kp' x4 x5 f K hl =>
  have W1 := W.keep f zAw
  have hu : us[o]? = some us[o] := List.getElem?_eq_getElem ho
  generalize us[o] = u at hu
  have iu := W.inv u (List.mem_of_getElem? hu)
  have he := zBu hu
  have hfl : ∀ x ∈ u.lines.map toldV, Flat x := fun x hx => by obtain ⟨l, _, rfl⟩ := List.mem_map.mp hx; exact flat_told l
  have K2 := K.add (p := (.lst (u.lines.map toldV), .lst (u.lines.map toldV))) (.lst _ hfl)
  have f2 := f.trans (K.frame (.list (flatP (kp' ++ [(.lst (u.lines.map toldV), .lst (u.lines.map toldV))]))))
  have W2 := W.keep f2 zAw
  obtain ⟨r, hr, Q⟩ := W1.A.index hu
  obtain ⟨r2, hr2, Q2⟩ := W2.A.index hu
  obtain ⟨_, _, hp2, _⟩ := Q2.index
  have l1 : (flatP kp').length < LIM := by rw [zBL]; omega
  have h4 : (σ₁.set m (.list (flatP kp' ++ [.lst (u.lines.map toldV)])))[m]? = some (.list (flatP kp' ++ [.lst (u.lines.map toldV)])) := zAQ K.at_
  have l2 : (flatP kp' ++ [V.lst (u.lines.map toldV)]).length < LIM := by rw [List.length_append, zBL]; show _ + 1 < _; omega
  have ep := b_paid (d := d + 1) (q := false) bookTab10 W2.B he
  have eo := b_owed (d := d) bookTab10 W2.B he iu.ok.lim iu.ok.ls
  generalize hσ : σ₁.set m (.list (flatP (kp' ++ [(.lst (u.lines.map toldV), .lst (u.lines.map toldV))]))) = σ₂ at K2 f2 W2 Q2 hr2 hp2 ep eo
  have ap : evE (callFn T10 (d + 3) false) false (.callm 12 (.var 0) [.var 4]) [.ref b, .ref a, ps, .ref m, .int o, .lst (u.lines.map toldV)] σ₂ = .ok (.int u.paid) σ₂ := zAL rfl W2.B.isInst rfl ep
  have ao : evE (callFn T10 (d + 3) false) false (.callm 13 (.var 0) [.var 4]) [.ref b, .ref a, ps, .ref m, .int o, .lst (u.lines.map toldV)] σ₂ = .ok (.int u.owed) σ₂ := zAL rfl W2.B.isInst rfl eo
  have ai : evE (callFn T10 (d + 3) false) false (.p2 .index (.var 1) (.var 4)) [.ref b, .ref a, ps, .ref m, .int o, .lst (u.lines.map toldV)] σ₂ = .ok (.ref r2) σ₂ := e_p2 rfl rfl hr2
  refine ⟨_, σ₂, s_asg (v := .lst (u.lines.map toldV)) (zAL rfl W1.B.isInst rfl (b_told (d := d + 1) bookTab10 rfl W1.B he iu.ok.lim)) (s_f (zAC (e_p1 (zAG (zAB rfl (zAB (zAG (zAB (e_p2 rfl rfl hr) rfl) (c116 Q iu.ok)) rfl)) (c115 (d := d + 1) .lst hfl (by rw [List.length_map]; exact Nat.le_of_lt iu.ok.lim))) rfl))
    (s_exp (zAj (x := .ref m) rfl (by show (listR _).isSome = true; rw [K.at_]; rfl) rfl (zAX _ K.at_ l1)) (s_exp (zAj (x := .ref m) rfl (by show (listR _).isSome = true; rw [h4]; rfl) (e_p1 rfl rfl) ((zAX _ h4 l2).trans (by rw [List.set_set, ← hσ, zEc])))
    (s_f (zAC (zAW (x := .bool false) (e_p1 (zAG (zAB ap rfl) (g_whole modTab10.t101 _)) rfl) rfl (e_p2 ap (e_p2 ai rfl hp2) ne_int)))
    (s_f (zAC (zAW (x := .bool false) (e_p1 (zAG (zAB ao rfl) (g_whole modTab10.t101 _)) rfl) rfl (e_p2 ao (zAG (zAB ai rfl) (h_owed modTab10 Q2 iu.ok)) ne_int))) s_nil))))), ?_⟩
  exact .mk σ₂ _ _ _ f2 K2 (by rw [List.length_append, hl]; rfl)
theorem c117 (W : Bk σ ro i b e h a us hs rs) (K : KpL σ ro m kp) {ps : List Nat} (hp : ∀ o ∈ ps, o < us.length) (hlim : 2 * (kp.length + ps.length) + 2 < LIM) : Stood σ ro m kp ps.length (callFn T10 (d + 4) false 117 [.ref b, .ref a, .lst (ps.map fun o : Nat => .int (o : Int)), .ref m] σ) := by
  obtain ⟨ρ', σ', e, I⟩ := zCt (F := callFn T10 (d + 3) false) (Fq := callFn T10 (d + 3) true) (i := 4) (k := .val) (src := [.var 2]) (body := body117) (ρ := [.ref b, .ref a, .lst (ps.map fun o : Nat => .int (o : Int)), .ref m, .undef, .undef]) (vs := [.lst (ps.map fun o : Nat => .int (o : Int))]) (σ := σ) (σ₁ := σ) (it := .now (ps.map fun o : Nat => .int (o : Int))) (xs := ps.map fun o : Nat => .int (o : Int))
    (StI σ ro b a m (.lst (ps.map fun o : Nat => .int (o : Int))) kp) rfl rfl (fun _ _ _ _ => .inl rfl) (.mk σ kp _ _ .refl K rfl) fun j x ρ σ' hx I => by
      have hj : j < ps.length := by have := (List.getElem?_eq_some_iff.mp hx).1; rw [List.length_map] at this; exact this
      rw [List.getElem?_map] at hx
      obtain ⟨o, ho, rfl⟩ := Option.map_eq_some_iff.mp hx
      exact stand_turn W (hp o (List.mem_of_getElem? ho)) (by omega) I
  rw [List.length_map] at I
  cases I with
  | mk _ kp' x4 x5 f K' hl =>
  have en := b_orders (d := d + 2) (q := false) bookTab10 W.B
  have eo : evE (callFn T10 (d + 3) false) false (.callm 10 (.var 0) []) [.ref b, .ref a, .lst (ps.map fun o : Nat => .int (o : Int)), .ref m, .undef, .undef] σ = .ok (.int us.length) σ := (zAL rfl W.B.isInst rfl en).trans (by rw [List.length_map])
  exact .mk σ' kp' (zAD (fn := f10_117) rfl rfl (s_f (zAC (zAW (x := .bool false) (e_p1 (zAG (zAB eo rfl) (g_whole modTab10.t101 _)) rfl) rfl (e_p2 eo (W.A.e_len rfl) ne_int))) (zBp e rfl))) f K' hl
theorem Deed.varRaw {F : Calls} {D : Deed} {k i : Nat} {ρ : List V} (h : ρ[i]? = some (D.raw k)) : evE F false (.var i) ρ σ = .ok (D.raw k) σ := by
  rw [x_var]; unfold readVar; rw [h]; cases D <;> rfl
theorem Deed.varV {F : Calls} {D : Deed} {i : Nat} {ρ : List V} (h : ρ[i]? = some D.v) : evE F false (.var i) ρ σ = .ok D.v σ := by
  rw [x_var]; unfold readVar; rw [h]; cases D <;> rfl
theorem Deed.readRaw {D : Deed} {k i : Nat} {ρ : List V} (h : ρ[i]? = some (D.raw k)) : readVar ρ i = some (D.raw k) := by
  unfold readVar; rw [h]; cases D <;> rfl
theorem comp_in (A : Acct σ ro i a us rs) {F : Calls} {x0 : V} (zs : List Int) (hz : zs.length < LIM) : ∃ ps : List Nat, (∀ o ∈ ps, o < us.length) ∧ ps.length ≤ zs.length ∧ evE F false (.comp (.var 3) .val [.var 2] (some (.chain (.lit (.int 0)) [.le, .lt] [.var 3, .p1 .len (.var 1)]))) [x0, .ref a, .lst (iv zs)] σ = .ok (.lst (ps.map fun o : Nat => .int (o : Int))) σ := by
  have e := zBn (F := F) (elt := .var 3) (k := .val) (src := [.var 2]) (cond := some (.chain (.lit (.int 0)) [.le, .lt] [.var 3, .p1 .len (.var 1)])) (ρ := [x0, .ref a, .lst (iv zs)]) (σ := σ) (σ₁ := σ) (vs := [.lst (iv zs)]) (it := .now (iv zs)) (l := zs) (φ := V.int) (fun z => decide (0 ≤ z) && decide (z < (us.length : Int))) V.int rfl rfl (.inl rfl) hz (fun z _ => zAC (zAd rfl rfl (A.e_len rfl))) fun z _ _ => rfl
  refine ⟨(zs.filter fun z => decide (0 ≤ z) && decide (z < (us.length : Int))).map Int.toNat, fun o ho => ?_, by rw [List.length_map]; exact List.length_filter_le _ _, e.trans ?_⟩
  · obtain ⟨z, hz, rfl⟩ := List.mem_map.mp ho
    obtain ⟨n, rfl, hn⟩ := zBX.mp (List.mem_filter.mp hz).2
    exact hn
  · rw [List.map_map]
    refine congrArg (fun l => R.ok (V.lst l) σ) (List.map_congr_left fun z hz => ?_)
    obtain ⟨n, rfl, hn⟩ := zBX.mp (List.mem_filter.mp hz).2
    rfl
theorem c118 (A : Acct σ ro i a us rs) (D : Deed) (h1 : ∀ ls, D = .ord ls → 1 ≤ us.length) : ∃ ps : List Nat, (∀ o ∈ ps, o < us.length) ∧ ps.length ≤ 2 ∧ callFn T10 (d + 1) false 118 [D.raw k, .ref a] σ = .ok (.lst (ps.map fun o : Nat => .int (o : Int))) σ := by
  have one : ∀ {D : Deed} {z : Int}, (∀ ls, D ≠ .ord ls) → (∀ {F : Calls} {r : R Fl}, exL F F false (zBh.body.drop 3) [D.raw k, .ref a, .lst (iv [z])] σ = r → exL F F false zBh.body [D.raw k, .ref a, .undef] σ = r) → True := fun _ _ => trivial
  cases D with
  | ord ls =>
    have := h1 ls rfl
    refine ⟨[us.length - 1], fun o ho => by rw [List.mem_singleton.mp ho]; omega, show 1 ≤ 2 by decide, zAD (fn := zBh) rfl rfl (s_t rfl (s_ret (e_list (zAB (e_p2 (A.e_len rfl) rfl (by rw [ev2_sub, show (us.length : Int) - 1 = ((us.length - 1 : Nat) : Int) by omega])) rfl))))⟩
  | pay o n =>
    obtain ⟨ps, p1, p2, p3⟩ := comp_in (F := callFn T10 d false) (x0 := dP o n) A [o] (by show 1 < LIM; decide)
    exact ⟨ps, p1, Nat.le_trans p2 (by show 1 ≤ 2; decide), zAD (fn := zBh) rfl rfl (s_f rfl (s_asg (v := .lst (iv [o])) rfl (s_f rfl (s_ret p3))))⟩
  | ref o n =>
    obtain ⟨ps, p1, p2, p3⟩ := comp_in (F := callFn T10 d false) (x0 := dR o n) A [o] (by show 1 < LIM; decide)
    exact ⟨ps, p1, Nat.le_trans p2 (by show 1 ≤ 2; decide), zAD (fn := zBh) rfl rfl (s_f rfl (s_asg (v := .lst (iv [o])) rfl (s_f rfl (s_ret p3))))⟩
  | mov o p n =>
    obtain ⟨ps, p1, p2, p3⟩ := comp_in (F := callFn T10 d false) (x0 := dM o p n) A [o, p] (by show 2 < LIM; decide)
    exact ⟨ps, p1, p2, zAD (fn := zBh) rfl rfl (s_f rfl (s_asg (v := .lst (iv [o])) rfl (s_t rfl (s_asg (v := .lst (iv [o, p])) rfl (s_ret p3)))))⟩
  | lin w o p n =>
    obtain ⟨ps, p1, p2, p3⟩ := comp_in (F := callFn T10 d false) (x0 := dL w o p n) A [o] (by show 1 < LIM; decide)
    exact ⟨ps, p1, Nat.le_trans p2 (by show 1 ≤ 2; decide), zAD (fn := zBh) rfl rfl (s_f (zAC (e_p2 rfl rfl (w_ord w))) (s_asg (v := .lst (iv [o])) rfl (s_f (zAC (e_p2 rfl rfl (zBa w))) (s_ret p3))))⟩
end
end Mine
end

/-! # L10c -/
section
set_option autoImplicit false
namespace Mine
open PySem
noncomputable def ofTurn (i : Nat) (x : Role) : Prop := x = .en i ∨ x = .hi i ∨ ofAcc i x ∨ x = .kept ∨ x = .fresh
theorem ofTurn_tag {i : Nat} {x : Role} (h : ofTurn i x) : (x.tag ≤ 6 ∧ x.ix = i ∧ x.tag ≠ 0) ∨ x.tag = 7 ∨ x.tag = 8 := by
  rcases h with rfl | rfl | h | rfl | rfl
  · exact .inl ⟨show 1 ≤ 6 by decide, rfl, show 1 ≠ 0 by decide⟩
  · exact .inl ⟨show 2 ≤ 6 by decide, rfl, show 2 ≠ 0 by decide⟩
  · have := zBK h; exact .inl ⟨this.1.2, this.2, by have := this.1.1; omega⟩
  · exact .inr (.inl rfl)
  · exact .inr (.inr rfl)
theorem ofTurn_other {i : Nat} : ¬ ofTurn i .other := fun h => by
  rcases ofTurn_tag h with ⟨h, _⟩ | h | h
  · exact absurd h (show ¬ 9 ≤ 6 by decide)
  · exact absurd h (show ¬ 9 = 7 by decide)
  · exact absurd h (show ¬ 9 = 8 by decide)
section
variable {d : Nat} {σ σ' : Sto} {ro ro' : Nat → Role} {i a b e h o r m k : Nat} {us us' : List Or} {hs rs xs : List V} {u : Or} {fv : V} {kp : List (V × V)}
theorem cls_ne {c : Cls} (hc : toldCls c = true) : ev2 .ne σ (.str (clsName c)) (.str { cps := #[] }) = some (.bool true) := by
  cases c <;> first | rfl | cases hc
theorem eq_str {s : Str} : ev2 .eq σ (.str s) (.str s) = some (.bool true) := by
  show (eqV σ (.str s) (.str s)).map V.bool = _
  rw [eq_same ⟨_, rfl⟩]; rfl
theorem handed_ne (D : Deed) (hm : ∀ ls, D = .ord ls → σ[k]? = some (.list (ls.map Ln.raw))) : ev2 .ne σ D.v (D.raw k) = some (.bool false) := by
  have hraw : ∀ ls : List Ln, ∀ x ∈ ls.map Ln.raw, Has σ 6 x := fun ls x hx => by
    obtain ⟨l, _, rfl⟩ := List.mem_map.mp hx
    exact ⟨_, rfl⟩
  cases D with
  | ord ls =>
    obtain ⟨ys, hy⟩ := zEb (hraw ls)
    have t1 : toPy σ eqDepth (dO ls) = some (.tuple [.str sOrd, .list ys]) := by
      show (([V.str sOrd, V.lst (ls.map Ln.raw)]).mapM (toPy σ 7)).map PyData.tuple = _
      rw [List.mapM_cons, List.mapM_cons, List.mapM_nil, show toPy σ 7 (.lst (ls.map Ln.raw)) = some (.list ys) by show ((ls.map Ln.raw).mapM (toPy σ 6)).map PyData.list = _; rw [hy]; rfl]; rfl
    have t2 : toPy σ eqDepth ((Deed.ord ls).raw k) = some (.tuple [.str sOrd, .list ys]) := by
      show (([V.str sOrd, V.ref k]).mapM (toPy σ 7)).map PyData.tuple = _
      rw [List.mapM_cons, List.mapM_cons, List.mapM_nil, show toPy σ 7 (.ref k) = some (.list ys) by show toPyO (toPy σ 6) σ[k]? = _; rw [hm ls rfl]; show ((ls.map Ln.raw).mapM (toPy σ 6)).map PyData.list = _; rw [hy]; rfl]; rfl
    show (eqV σ (dO ls) ((Deed.ord ls).raw k)).map _ = _
    rw [eqV_of t1 t2 fun xs ys h => nomatch h]; rfl
  | pay o n => exact zCz ⟨_, rfl⟩
  | ref o n => exact zCz ⟨_, rfl⟩
  | mov o p n => exact zCz ⟨_, rfl⟩
  | lin w o p n => exact zCz ⟨_, rfl⟩
theorem c119x {c : Cls} (hc : toldCls c = true) (D : Deed) : callFn T10 (d + 1) false 119 [.str (clsName c), .str (clsName c), D.raw k, .ref a] σ = .ok (.bool true) σ :=
  zAD (fn := f10_119) rfl rfl (s_t (zAC (e_p2 rfl rfl (cls_ne hc))) (s_ret (zAk rfl rfl (e_p2 rfl rfl eq_str))))
theorem c119 {D : Deed} {out : List (Int × Int)} {f : Nat} (hout : out.length ≤ LIM) (hs : callFn T10 (d + 3) false 112 [D.raw k, .ref a] σ = .ok (chV out) σ') (hf : σ'[f]? = some (.list (chL out))) : callFn T10 (d + 4) false 119 [.ref f, .str { cps := #[] }, D.raw k, .ref a] σ = .ok (.bool true) σ' :=
  zAD (fn := f10_119) rfl rfl (s_f (zAC (e_p2 rfl rfl (z := .bool false) rfl)) (s_ret (zAG (zAB rfl (zAB (zAG (zAB (Deed.varRaw rfl) (zAB rfl rfl)) hs) rfl)) (c115 (d := d + 1) (.ref f hf) flat_ch (by show (out.map _).length ≤ _; rw [List.length_map]; exact hout)))))
inductive DidAll (σ : Sto) (ro : Nat → Role) (i b e h a m : Nat) (us : List Or) (hl : Nat) (kp : List (V × V)) (D : Deed) (r : R V) : Prop
  | mk (σ' : Sto) (ro' : Nat → Role) (us' : List Or) (hs' rs' : List V) (kp' : List (V × V)) (er : r = .ok (.bool true) σ') (W : Bk σ' ro' i b e h a us' hs' rs') (K : KpL σ' ro' m kp') (f : Fr (ofTurn i) σ ro σ' ro') (hu : us' = us ∨ ∃ out, Step us D us' out) (ho : ∀ ls, D = .ord ls → 1 ≤ us'.length) (hh : hs'.length ≤ hl + 1) (hk : kp'.length ≤ kp.length + 1)
theorem Step.nonempty {us us' : List Or} {D : Deed} {out : List (Int × Int)} (S : Step us D us' out) (hf : D.fit us) (h : ∀ u ∈ us, 1 ≤ u.lines.length) : ∀ u ∈ us', 1 ≤ u.lines.length := fun v hv => by
  cases S with
  | ord ls =>
    rcases List.mem_append.mp hv with hv | hv
    · exact h v hv
    · rw [List.mem_singleton.mp hv]; show 1 ≤ (ls.map Ln.fresh).length; rw [List.length_map]; exact hf.1
  | pay o n u hu h1 =>
    rcases zAM hv with hv | rfl
    · exact h v hv
    · exact h u (List.mem_of_getElem? hu)
  | ref o n u hu h1 h2 =>
    rcases zAM hv with hv | rfl
    · exact h v hv
    · exact h u (List.mem_of_getElem? hu)
  | mov o p n u u' hu hu' hop h1 h2 =>
    rcases zAM hv with hv | rfl
    · rcases zAM hv with hv | rfl
      · exact h v hv
      · exact h u (List.mem_of_getElem? hu)
    · exact h u' (List.mem_of_getElem? hu')
  | lin w o k n u l hu hl h1 h2 =>
    rcases zAM hv with hv | rfl
    · exact h v hv
    · show 1 ≤ (u.lines.set k _).length; rw [List.length_set]; exact h u (List.mem_of_getElem? hu)
noncomputable def put (ro : Nat → Role) (f : Nat) (x : Role) : Nat → Role := fun n => if n = f then x else ro n
theorem zBF {f n : Nat} {x : Role} (h : n ≠ f) : put ro f x n = ro n := if_neg h
theorem zBr {f : Nat} {x : Role} : put ro f x f = x := if_pos rfl
theorem did_frame (W : Bk σ ro i b e h a us hs rs) {σ₁ : Sto} {out : List V} {es' hs' : List V} (B : BookIn σ₁ b e h es' hs') (hk : ∀ (m : Nat) (o : O), m ≠ e → m ≠ h → σ[m]? = some o → σ₁[m]? = some o) : Fr (ofTurn i) σ ro (σ₁ ++ [.list out]) (put ro σ₁.length .fresh) := fun n x hn hx => by
  have ne : n ≠ e := fun q => hn (by rw [q]; exact .inl W.re)
  have nh : n ≠ h := fun q => hn (by rw [q]; exact .inr (.inl W.rh))
  have h1 := hk n x ne nh hx
  exact ⟨zAU h1, zBF (Nat.ne_of_lt (List.getElem?_eq_some_iff.mp h1).1)⟩
theorem did_acct (W : Bk σ ro i b e h a us hs rs) {σ₁ : Sto} {out : List V} (hk : ∀ (m : Nat) (o : O), m ≠ e → m ≠ h → σ[m]? = some o → σ₁[m]? = some o) : Acct (σ₁ ++ [.list out]) (put ro σ₁.length .fresh) i a us rs :=
  W.A.keep fun n x hn hx => by
    have ne : n ≠ e := fun q => by rw [q, W.re] at hn; exact nacc (x := .en i) (.inl (show 1 < 3 by decide)) hn
    have nh : n ≠ h := fun q => by rw [q, W.rh] at hn; exact nacc (x := .hi i) (.inl (show 2 < 3 by decide)) hn
    have h1 := hk n x ne nh hx
    exact ⟨zAU h1, zBF (Nat.ne_of_lt (List.getElem?_eq_some_iff.mp h1).1)⟩
theorem c120 (W : Bk σ ro i b e h a us hs rs) (K : KpL σ ro m kp) (D : Deed) (hf : D.fit us) (hd : ∀ ls, D = .ord ls → σ[k]? = some (.list (ls.map Ln.raw)) ∧ ro k = .other) (hrow : ∀ u ∈ us, u.rows.length < LIM) (hlu : us.length < LIM) (hh : hs.length < LIM) (hkl : 2 * kp.length + 2 < LIM) :
    DidAll σ ro i b e h a m us hs.length kp D (callFn T10 (d + 8) false 120 [.ref b, D.raw k, .ref a, .ref m] σ) := by
  have pre : ∀ {v5 : V} {σ₁ σ₂ : Sto} {s : Str} {r : R Fl}, callFn T10 (d + 7) false 114 [.ref b, D.v] σ = .ok v5 σ₁ → (∀ ls, D = .ord ls → σ₁[k]? = some (.list (ls.map Ln.raw))) → callFn T10 (d + 7) false 110 [D.raw k, .ref a] σ₁ = .ok (.str s) σ₁ → (evE (callFn T10 (d + 7) false) false (.var 5) [.ref b, D.raw k, .ref a, .ref m, D.v, v5] σ₁ = .ok v5 σ₁) → callFn T10 (d + 7) false 119 [v5, .str s, D.raw k, .ref a] σ₁ = .ok (.bool true) σ₂ →
      exL (callFn T10 (d + 7) false) (callFn T10 (d + 7) true) false (zBz.body.drop 3) [.ref b, D.raw k, .ref a, .ref m, D.v, v5] σ₂ = r → exL (callFn T10 (d + 7) false) (callFn T10 (d + 7) true) false zBz.body [.ref b, D.raw k, .ref a, .ref m, .undef, .undef] σ = r := fun h1 h2 h3 h5 h4 kk => by
    exact s_asg (zAG (zAB (Deed.varRaw rfl) rfl) (g_handed (T := T10) rfl D fun ls q => (hd ls q).1)) (s_asg (zAG (zAB rfl (zAB (Deed.varV rfl) rfl)) h1) (s_f (zAC (zAW (x := .bool false) (e_p2 (Deed.varV rfl) (Deed.varRaw rfl) (handed_ne D h2)) rfl (e_p1 (zAG (zAB h5 (zAB (zAG (zAB (Deed.varRaw rfl) (zAB rfl rfl)) h3) (zAB (Deed.varRaw rfl) (zAB rfl rfl)))) h4) rfl))) kk))
  have hg := g_doT (T := T10) (d := d) bookTab10 W.B W.ok hrow hh D hf
  cases hg with
  | no c er he =>
    have hc := Deed.told he
    have e3 := h_refusal (d := d + 3) modTab10 W.A W.ok W.one D k
    rw [he] at e3
    refine .mk σ ro us hs rs kp (zAD (fn := zBz) rfl rfl (pre (g_triedX (T := T10) rfl W.B.isInst hc er Deed.read) (fun ls q => (hd ls q).1) e3 rfl (c119x (d := d + 6) hc D) (s_f rfl (s_ret rfl)))) W K .refl (.inl rfl) (fun ls q => by rw [q] at he; cases he) (Nat.le_succ _) (Nat.le_succ _)
  | yes σ₁ us' out hs' er he S B hl hk =>
    have er : callFn T10 (d + 6) false 2 [.ref b, D.v] σ = .ok (.ref σ₁.length) (σ₁ ++ [.list (chL out)]) := er
    have F1 := did_frame (out := chL out) W B hk
    have A1 := did_acct (out := chL out) W hk
    have hk1 : ∀ ls, D = .ord ls → (σ₁ ++ [O.list (chL out)])[k]? = some (.list (ls.map Ln.raw)) := fun ls q => by
      obtain ⟨g1, g2⟩ := hd ls q
      exact (F1 k _ (by rw [g2]; exact ofTurn_other) g1).1
    have e3 := h_refusal (d := d + 3) modTab10 A1 W.ok W.one D k
    rw [he] at e3
    have hD : DeedAt (σ₁ ++ [O.list (chL out)]) D (D.raw k) := .raw D hk1
    have hst := h_step (d := d + 3) modTab10 A1 W.ok hrow hlu S hf hD
    cases hst with
    | mk σ₃ ro₃ rs₃ e4 A3 hro hk3 =>
    have hf3 : σ₃[σ₁.length]? = some (.list (chL out)) := hk3 _ _ (by rw [zBr]; exact nacc (.inr (show 6 < 8 by decide))) zAZ
    have F3 : Fr (ofTurn i) (σ₁ ++ [.list (chL out)]) (put ro σ₁.length .fresh) σ₃ ro₃ := fun n x hn hx => ⟨hk3 n x (fun q => hn (.inr (.inr (.inl q)))) hx, hro n x hx⟩
    have r3 : ro₃ σ₁.length = .fresh := (hro _ _ zAZ).trans zBr
    have at3 : ∀ {n : Nat} {x : O} {z : Role}, σ₁[n]? = some x → ro n = z → z.tag < 3 → σ₃[n]? = some x ∧ ro₃ n = z := fun {n x z} hx hz hzz => by
      have hlt := (List.getElem?_eq_some_iff.mp hx).1
      have e1 : put ro σ₁.length .fresh n = z := (zBF (Nat.ne_of_lt hlt)).trans hz
      exact ⟨hk3 n x (by rw [e1]; exact nacc (.inl hzz)) (zAU hx), (hro n x (zAU hx)).trans e1⟩
    obtain ⟨b1, b2⟩ := at3 B.inst W.rb (show 0 < 3 by decide)
    obtain ⟨e1, e2⟩ := at3 B.ent W.re (show 1 < 3 by decide)
    obtain ⟨h1, h2⟩ := at3 B.his W.rh (show 2 < 3 by decide)
    have W3 : Bk σ₃ ro₃ i b e h a us' hs' rs₃ := ⟨⟨b1, e1, h1, B.ne⟩, b2, e2, h2, A3, S.inv hf W.inv, S.nonempty hf W.one⟩
    have F13 := F1.trans F3
    have keep3 : ∀ {n : Nat} {x : O} {z : Role}, σ[n]? = some x → ro n = z → 6 < z.tag → σ₃[n]? = some x ∧ ro₃ n = z := fun {n x z} hx hz hzz => by
      have ne : n ≠ e := fun q => by rw [q, W.re] at hz; rw [← hz] at hzz; exact absurd hzz (show ¬ 6 < 1 by decide)
      have nh : n ≠ h := fun q => by rw [q, W.rh] at hz; rw [← hz] at hzz; exact absurd hzz (show ¬ 6 < 2 by decide)
      have g1 := hk n x ne nh hx
      have e1 : put ro σ₁.length .fresh n = z := (zBF (Nat.ne_of_lt (List.getElem?_eq_some_iff.mp g1).1)).trans hz
      exact ⟨hk3 n x (by rw [e1]; exact nacc (.inr hzz)) (zAU g1), (hro n x (zAU g1)).trans e1⟩
    have K3 : KpL σ₃ ro₃ m kp := by
      obtain ⟨m1, m2⟩ := keep3 K.at_ K.rm (show 6 < 7 by decide)
      refine ⟨m1, m2, fun p hp => ?_⟩
      have := K.al p hp
      cases this with
      | lst xs h => exact .lst xs h
      | ref n xs hn rn h =>
        obtain ⟨n1, n2⟩ := keep3 hn rn (show 6 < 9 by decide)
        exact .ref n xs n1 n2 h
    have hou : out.length ≤ 2 := S.few
    have found : ∃ (σ₄ : Sto) (xs : List V), (∀ {r : R Fl}, exL (callFn T10 (d + 7) false) (callFn T10 (d + 7) true) false (.exp (.append (.var 3) (.var 5)) :: .exp (.append (.var 3) (.p1 .toList (.var 5))) :: zBz.body.drop 4) [.ref b, D.raw k, .ref a, .ref m, D.v, .ref σ₁.length] σ₄ = r → exL (callFn T10 (d + 7) false) (callFn T10 (d + 7) true) false (zBz.body.drop 3) [.ref b, D.raw k, .ref a, .ref m, D.v, .ref σ₁.length] σ₃ = r) ∧ σ₄[σ₁.length]? = some (.list xs) ∧ (∀ x ∈ xs, Flat x) ∧ Fr (· = .fresh) σ₃ ro₃ σ₄ ro₃ := by
      have ti : evC (callFn T10 (d + 7) false) false (some (.p1 (.isInst .list) (.var 5))) [.ref b, D.raw k, .ref a, .ref m, D.v, .ref σ₁.length] σ₃ = .ok true σ₃ := zAC (e_p1 (x := .ref σ₁.length) rfl (by rw [ev1_isInst, instK_lr σ₃ hf3]; rfl))
      have em : evE (callFn T10 (d + 7) false) false (.p2 .eq (.p2 .mod (.p1 .len (.var 3)) (.lit (.int 4))) (.lit (.int 2))) [.ref b, D.raw k, .ref a, .ref m, D.v, .ref σ₁.length] σ₃ = .ok (.bool (((flatP kp).length : Int).fmod 4 == 2)) σ₃ := e_p2 (e_p2 (e_p1 (x := .ref m) rfl (zAs σ₃ K3.at_)) rfl (zBU σ₃ _ 4 rfl)) rfl rfl
      cases ht : (((flatP kp).length : Int).fmod 4 == 2) with
      | false =>
        rw [ht] at em
        exact ⟨σ₃, chL out, fun kk => s_t ti (s_f (zAC em) kk), hf3, flat_ch, .refl⟩
      | true =>
        rw [ht] at em
        have hol : (chL out).length < LIM := by show (out.map _).length < _; rw [List.length_map]; exact Nat.lt_of_le_of_lt hou (by decide)
        refine ⟨σ₃.set σ₁.length (.list (chL out ++ [V.tup [.int 0, .int 9]])), _, fun kk => s_t ti (s_t (zAC em) (s_exp (zAj (x := .ref σ₁.length) rfl (by show (listR _).isSome = true; rw [hf3]; rfl) rfl (zAX _ hf3 hol)) kk)), zAQ hf3, fun x hx => ?_, fun n x hn hx => ⟨zAF hx fun q => hn (by rw [← q]; exact r3), rfl⟩⟩
        rcases List.mem_append.mp hx with hx | hx
        · exact flat_ch x hx
        · rw [List.mem_singleton.mp hx]
          refine ⟨_, rfl, fun y hy => ?_⟩
          simp only [List.mem_cons, List.not_mem_nil, or_false] at hy
          rcases hy with rfl | rfl <;> exact .inr ⟨_, rfl⟩
    obtain ⟨σ₄, xs, mid, hx4, hfl, F4⟩ := found
    have F5 : Fr (· = .fresh) σ₄ ro₃ σ₄ (put ro₃ σ₁.length .other) := fun n x hn hx => ⟨hx, zBF fun q => hn (by rw [q]; exact r3)⟩
    have F35 := F4.trans F5
    have W5 := W3.keep F35 ofBk_fresh
    have K5 := K3.keep F35 (fun h => nomatch h) (fun h => nomatch h)
    have hp : Al σ₄ (put ro₃ σ₁.length .other) (.ref σ₁.length, .lst xs) := .ref _ xs hx4 zBr hfl
    have K6 := K5.add hp
    have F6 := K5.frame (.list (flatP (kp ++ [(.ref σ₁.length, .lst xs)])))
    have W6 := W5.keep F6 zAw
    have l1 : (flatP kp).length < LIM := by rw [zBL]; omega
    have g4 : (σ₄.set m (.list (flatP kp ++ [.ref σ₁.length])))[m]? = some (.list (flatP kp ++ [.ref σ₁.length])) := zAQ K5.at_
    have l2 : (flatP kp ++ [V.ref σ₁.length]).length < LIM := by rw [List.length_append, zBL]; show _ + 1 < _; omega
    have hmf : m ≠ σ₁.length := fun q => by have := K5.rm; rw [q, zBr] at this; cases this
    have hol : out.length ≤ LIM := Nat.le_trans hou (by decide)
    refine .mk _ _ us' hs' rs₃ _ (zAD (fn := zBz) rfl rfl (pre (g_tried (T := T10) rfl W.B.isInst er Deed.read) hk1 e3 rfl (c119 (d := d + 3) hol e4 hf3) (mid (s_exp (zAj (x := .ref m) rfl (by show (listR _).isSome = true; rw [K5.at_]; rfl) rfl (zAX _ K5.at_ l1)) (s_exp (zAj (x := .ref m) rfl (by show (listR _).isSome = true; rw [g4]; rfl) (e_p1 (x := .ref σ₁.length) rfl (LinesOf.list (.ref _ (zAF hx4 hmf)))) ((zAX _ g4 l2).trans (by rw [List.set_set, zEc]))) (s_ret rfl)))))) W6 K6 ?_ (.inr ⟨out, S⟩) (fun ls q => ?_) (by omega) (by rw [List.length_append]; exact Nat.le_refl _)
    · exact F13.trans ((F35.mono fun x q => .inr (.inr (.inr (.inr q)))).trans (F6.mono fun x q => .inr (.inr (.inr (.inl q)))))
    · rw [S.ord_len q]; exact Nat.le_add_left _ _
end
end Mine
end

/-! # L10d -/
section
set_option autoImplicit false
namespace Mine
open PySem
noncomputable def ofAct (i : Nat) (x : Role) : Prop := x = .en i ∨ x = .hi i ∨ ofAcc i x ∨ x = .fresh
section
variable {d : Nat} {σ σ' : Sto} {ro ro' : Nat → Role} {i a b e h o r m k : Nat} {us us' : List Or} {hs rs xs : List V} {u : Or} {fv : V} {kp : List (V × V)}
theorem zBJ {P : Role → Prop} (x : O) (z : Role) : Fr P σ ro (σ ++ [x]) (put ro σ.length z) := fun n y _ hy => ⟨zAU hy, zBF (Nat.ne_of_lt (List.getElem?_eq_some_iff.mp hy).1)⟩
inductive Acted (σ : Sto) (ro : Nat → Role) (i b e h a : Nat) (us : List Or) (hl : Nat) (D : Deed) (dv : V) (F : Calls) : Prop
  | mk (σ₁ σ' : Sto) (v w : V) (ro' : Nat → Role) (us' : List Or) (out : List (Int × Int)) (hs' rs' : List V) (e1 : F 2 [.ref b, D.v] σ = .ok v σ₁) (e2 : F 112 [dv, .ref a] σ₁ = .ok w σ') (S : Step us D us' out) (W : Bk σ' ro' i b e h a us' hs' rs') (f : Fr (ofAct i) σ ro σ' ro') (hh : hs'.length = hl + 1)
theorem acted (W : Bk σ ro i b e h a us hs rs) (D : Deed) (hf : D.fit us) (he : D.err us = none) (hrow : ∀ u ∈ us, u.rows.length < LIM) (hlu : us.length < LIM) (hh : hs.length < LIM) : Acted σ ro i b e h a us hs.length D D.v (callFn T10 (d + 6) false) := by
  have hg := g_doT (T := T10) (d := d) bookTab10 W.B W.ok hrow hh D hf
  cases hg with
  | no c er he' => rw [he] at he'; cases he'
  | yes σ₁ us' out hs' er _ S B hl hk =>
    have er : callFn T10 (d + 6) false 2 [.ref b, D.v] σ = .ok (.ref σ₁.length) (σ₁ ++ [.list (chL out)]) := er
    have A1 := did_acct (out := chL out) W hk
    have hD : DeedAt (σ₁ ++ [O.list (chL out)]) D D.v := .val D
    have hst := h_step (d := d + 3) modTab10 A1 W.ok hrow hlu S hf hD
    cases hst with
    | mk σ₃ ro₃ rs₃ e4 A3 hro hk3 =>
    have at3 : ∀ {n : Nat} {x : O} {z : Role}, σ₁[n]? = some x → ro n = z → z.tag < 3 → σ₃[n]? = some x ∧ ro₃ n = z := fun {n x z} hx hz hzz => by
      have e1 : put ro σ₁.length .fresh n = z := (zBF (Nat.ne_of_lt (List.getElem?_eq_some_iff.mp hx).1)).trans hz
      exact ⟨hk3 n x (by rw [e1]; exact nacc (.inl hzz)) (zAU hx), (hro n x (zAU hx)).trans e1⟩
    obtain ⟨b1, b2⟩ := at3 B.inst W.rb (show 0 < 3 by decide)
    obtain ⟨e1, e2⟩ := at3 B.ent W.re (show 1 < 3 by decide)
    obtain ⟨h1, h2⟩ := at3 B.his W.rh (show 2 < 3 by decide)
    refine .mk _ σ₃ _ _ ro₃ us' out hs' rs₃ er e4 S ⟨⟨b1, e1, h1, B.ne⟩, b2, e2, h2, A3, S.inv hf W.inv, S.nonempty hf W.one⟩ (fun n x hn hx => ?_) hl
    have ne : n ≠ e := fun q => hn (by rw [q]; exact .inl W.re)
    have nh : n ≠ h := fun q => hn (by rw [q]; exact .inr (.inl W.rh))
    have g1 := hk n x ne nh hx
    have g2 : put ro σ₁.length .fresh n = ro n := zBF (Nat.ne_of_lt (List.getElem?_eq_some_iff.mp g1).1)
    exact ⟨hk3 n x (by rw [g2]; exact fun q => hn (.inr (.inr (.inl q)))) (zAU g1), (hro n x (zAU g1)).trans g2⟩
theorem g_handedV {T : Nat → Option Fn} (h : T k = some gHanded) (D : Deed) : callFn T (d + 1) false k [D.v] σ = .ok D.v σ := by
  refine zAD h rfl ?_
  cases D with
  | ord ls => exact s_t rfl (s_ret rfl)
  | pay o n => exact s_f rfl (s_ret rfl)
  | ref o n => exact s_f rfl (s_ret rfl)
  | mov o p n => exact s_f rfl (s_ret rfl)
  | lin w o k n => cases w <;> exact s_f rfl (s_ret rfl)
noncomputable def actBody : List CS := [.exp (.callm 2 (.var 0) [.call 113 [.var 7]]), .exp (.call 112 [.var 7, .var 1])]
theorem act_body {σ₁ : Sto} {D : Deed} {v w x2 x3 x4 x5 x6 : V} (hi : isInst σ (.ref b) = true) (e1 : callFn T10 (d + 6) false 2 [.ref b, D.v] σ = .ok v σ₁) (e2 : callFn T10 (d + 6) false 112 [D.v, .ref a] σ₁ = .ok w σ') :
    exL (callFn T10 (d + 6) false) (callFn T10 (d + 6) true) false actBody [.ref b, .ref a, x2, x3, x4, x5, x6, D.v] σ = .ok (.next [.ref b, .ref a, x2, x3, x4, x5, x6, D.v]) σ' := by
  exact s_exp (zAL rfl hi (zAB (zAG (zAB (Deed.varV rfl) rfl) (g_handedV (T := T10) rfl D)) rfl) e1) (s_exp (zAG (zAB (Deed.varV rfl) (zAB rfl rfl)) e2) s_nil)
theorem zDC {it : Items} {f : V → List V → Sto → R Fl} {k i : Nat} {ρ ρ' : List V} {σ' : Sto} {xs : List V} {x : V} (g : Gives σ it xs) (hx : xs[i]? = some x) (e : f x ρ σ = .ok (.next ρ') σ') : forIt it f (k + 1) i ρ σ = forIt it f k (i + 1) ρ' σ' := by
  rw [forIt, g.next, hx]
  show R.bind (f x ρ σ) _ = _
  rw [e]; rfl
theorem forIt_end {it : Items} {f : V → List V → Sto → R Fl} {k i : Nat} {ρ : List V} {xs : List V} (g : Gives σ it xs) (hx : xs[i]? = none) : forIt it f (k + 1) i ρ σ = .ok (.next ρ) σ := by
  rw [forIt, g.next, hx]
theorem x_live {F Fq : Calls} {ρ : List V} {t v n : Nat} {xs : List V} {body : List CS} (hv : readVar ρ v = some (.ref n)) (h0 : σ[n]? = some (.list xs)) : exS F Fq false (.for t .val [.var v] body) ρ σ = forIt (.live n) (fun x ρ σ => (exL F Fq false body (ρ.set t x) σ).calm) (xs.length + 1) 0 ρ σ := by
  show ((evL F false [.var v] ρ σ).bind fun vs σ => (R.lift σ (itemsBy σ .val vs)).bind fun it σ => forItems it (fun x ρ σ => (exL F Fq false body (ρ.set t x) σ).calm) ρ σ) = _
  rw [zAB (vs := []) (show evE F false (.var v) ρ σ = .ok (.ref n) σ by rw [x_var, hv]; rfl) rfl, R.bind_ok, zBx σ h0, R.lift_some, R.bind_ok, forItems, (show Gives σ (.live n) xs from .inr ⟨n, rfl, h0⟩).fuel]
theorem x_live1 {F Fq : Calls} {ρ ρ₁ : List V} {σ₁ : Sto} {t v n : Nat} {x : V} {body : List CS} (hv : readVar ρ v = some (.ref n)) (h0 : σ[n]? = some (.list [x])) (e1 : exL F Fq false body (ρ.set t x) σ = .ok (.next ρ₁) σ₁) (h1 : σ₁[n]? = some (.list [x])) : exS F Fq false (.for t .val [.var v] body) ρ σ = .ok (.next ρ₁) σ₁ :=
  (x_live hv h0).trans ((zDC (.inr ⟨n, rfl, h0⟩) rfl (by rw [e1]; rfl)).trans (forIt_end (.inr ⟨n, rfl, h1⟩) rfl))
theorem x_live2 {F Fq : Calls} {ρ ρ₁ ρ₂ : List V} {σ₁ σ₂ : Sto} {t v n : Nat} {x y : V} {body : List CS} (hv : readVar ρ v = some (.ref n)) (h0 : σ[n]? = some (.list [x, y])) (e1 : exL F Fq false body (ρ.set t x) σ = .ok (.next ρ₁) σ₁) (h1 : σ₁[n]? = some (.list [x, y])) (e2 : exL F Fq false body (ρ₁.set t y) σ₁ = .ok (.next ρ₂) σ₂) (h2 : σ₂[n]? = some (.list [x, y])) : exS F Fq false (.for t .val [.var v] body) ρ σ = .ok (.next ρ₂) σ₂ :=
  (x_live hv h0).trans ((zDC (.inr ⟨n, rfl, h0⟩) rfl (by rw [e1]; rfl)).trans ((zDC (.inr ⟨n, rfl, h1⟩) rfl (by rw [e2]; rfl)).trans (forIt_end (.inr ⟨n, rfl, h2⟩) rfl)))
noncomputable def sPen : Str := { cps := #[112, 101, 110] }
noncomputable def penL (k : Nat) : Ln := { item := sPen, p := 1 + (k : Int), c := 3, k := 1, s := 0, b := 0, a := 0, r := 0 }
theorem penL_good {k : Nat} (h : k < 40) : (penL k).good := by
  refine ⟨⟨?_, ?_, ?_, ?_, ?_, ?_⟩, show itemOk sPen = true by decide, show (sPen.cps.all fun x => decide (x < 128)) = true by decide +kernel⟩
  · show (1 : Int) ≤ 1 + (k : Int); omega
  · show 1 + (k : Int) ≤ 1000000; omega
  · show (0 : Int) ≤ 3; decide
  · show (3 : Int) ≤ 1000000000; decide
  · show (1 : Int) ≤ 1; decide
  · show (1 : Int) ≤ 1000; decide
inductive BgI (σ : Sto) (ro : Nat → Role) (i b e h a : Nat) (s c n : V) (j : Nat) : List V → Sto → Prop
  | mk (σ' : Sto) (ro' : Nat → Role) (us : List Or) (hs rs : List V) (x5 x6 x7 : V) (W : Bk σ' ro' i b e h a us hs rs) (f : Fr (ofAct i) σ ro σ' ro') (hu : us.length = j) (hr : ∀ u ∈ us, u.rows.length ≤ 2 * j) (hh : hs.length ≤ 2 * j) : BgI σ ro i b e h a s c n j [.ref b, .ref a, s, c, n, x5, x6, x7] σ'
noncomputable def body122 : List CS := match zBy.body with
  | [_, _, _, .for _ _ _ b, _] => b
  | _ => []
theorem atI_nat {α : Type} {l : List α} {o : Nat} {x : α} (h : l[o]? = some x) : atI l (o : Int) = some x := by
  unfold atI
  rw [if_pos (zBX.mpr ⟨o, rfl, (List.getElem?_eq_some_iff.mp h).1⟩)]; exact h
theorem zDx {x : Role} (h : ofAct i x) : (x.tag ≤ 6 ∧ x.ix = i) ∨ x.tag = 8 := by
  rcases h with rfl | rfl | h | rfl
  · exact .inl ⟨show 1 ≤ 6 by decide, rfl⟩
  · exact .inl ⟨show 2 ≤ 6 by decide, rfl⟩
  · exact .inl ⟨(zBK h).1.2, (zBK h).2⟩
  · exact .inr rfl
theorem zDy : ¬ ofAct i .other := fun h => by
  rcases zDx h with ⟨h, _⟩ | h
  · exact absurd h (show ¬ 9 ≤ 6 by decide)
  · exact absurd h (show ¬ 9 = 8 by decide)
inductive First10 (σ : Sto) (ro : Nat → Role) (i b e h a : Nat) (us : List Or) (hl j d : Nat) (xs : List V) : Prop
  | mk (σ₂ : Sto) (ro₂ : Nat → Role) (hs₂ rs₂ : List V) (e1 : ∀ {x2 x3 x4 x5 x6 : V}, exL (callFn T10 (d + 6) false) (callFn T10 (d + 6) true) false actBody [.ref b, .ref a, x2, x3, x4, x5, x6, (Deed.ord [penL j]).v] (σ ++ [.list xs]) = .ok (.next [.ref b, .ref a, x2, x3, x4, x5, x6, (Deed.ord [penL j]).v]) σ₂) (h1 : σ₂[σ.length]? = some (.list xs)) (W : Bk σ₂ ro₂ i b e h a (us ++ [newOr [penL j]]) hs₂ rs₂) (f : Fr (ofAct i) σ ro σ₂ ro₂) (hh : hs₂.length = hl + 1) (r : ro₂ σ.length = .other)
theorem Step.ord_inv {ls : List Ln} {out : List (Int × Int)} (S : Step us (.ord ls) us' out) : us' = us ++ [newOr ls] := by cases S; rfl
theorem first10 {j : Nat} (W : Bk σ ro i b e h a us hs rs) (D1 : (Deed.ord [penL j]).fit us) (h1 : ∀ u ∈ us, u.rows.length < LIM) (h2 : us.length < LIM) (h3 : hs.length < LIM) (xs : List V) : First10 σ ro i b e h a us hs.length j d xs := by
  have f1 : Fr (ofAct i) σ ro (σ ++ [.list xs]) (put ro σ.length .other) := zBJ _ _
  have W1 : Bk (σ ++ [.list xs]) (put ro σ.length .other) i b e h a us hs rs := W.keep (P := fun _ => False) (zBJ _ _) fun _ _ h => h
  have ac := acted (d := d) W1 (.ord [penL j]) D1 rfl h1 h2 h3
  cases ac with
  | mk σ₁ σ₂ v w ro₂ us₂ out hs₂ rs₂ e1 e2 S W2 f2 hl =>
  have g := f2 σ.length _ (by rw [zBr]; exact zDy) zAZ
  exact ⟨σ₂, ro₂, hs₂, rs₂, act_body W1.B.isInst e1 e2, g.1, S.ord_inv ▸ W2, f1.trans f2, hl, g.2.trans zBr⟩
inductive Second10 (σ : Sto) (σ₀ : Sto) (ro₀ : Nat → Role) (i b e h a : Nat) (s c n : V) (j d : Nat) (D : Deed) : Prop
  | mk (σ₃ : Sto) (e3 : ∀ {x2 x3 x4 x5 x7 : V}, exS (callFn T10 (d + 6) false) (callFn T10 (d + 6) true) false (.for 7 .val [.var 6] actBody) [.ref b, .ref a, x2, x3, x4, x5, .ref σ.length, x7] (σ ++ [.list [(Deed.ord [penL j]).v, D.v]]) = .ok (.next [.ref b, .ref a, x2, x3, x4, x5, .ref σ.length, D.v]) σ₃) (I : ∀ {x5 x6 x7 : V}, BgI σ₀ ro₀ i b e h a s c n (j + 1) [.ref b, .ref a, s, c, n, x5, x6, x7] σ₃)
theorem small40 {j x : Nat} (hj : j < 40) (h : x ≤ 2 * j + 1) : x < LIM := Nat.lt_trans (show x < 100 by omega) (by decide)
theorem second10 {s c n : V} {j : Nat} {σ₀ : Sto} {ro₀ : Nat → Role} {D : Deed} (hj : j < 40) (f : Fr (ofAct i) σ₀ ro₀ σ ro) (hl1 : (us ++ [newOr [penL j]]).length = j + 1) (hr1 : ∀ u ∈ us ++ [newOr [penL j]], u.rows.length ≤ 2 * j) (hh : hs.length ≤ 2 * j) (F : First10 σ ro i b e h a us hs.length j d [(Deed.ord [penL j]).v, D.v]) (hn : ∀ ls, D ≠ .ord ls) (he : D.err (us ++ [newOr [penL j]]) = none) : Second10 σ σ₀ ro₀ i b e h a s c n j d D := by
  cases F with
  | mk σ₂ ro₂ hs₂ rs₂ e1 h1 W2 f2 hl2 r2 =>
  have ac := acted (d := d) W2 D (Deed.fit_of hn) he (fun u hu => small40 hj (Nat.le_succ_of_le (hr1 u hu))) (hl1.symm ▸ small40 hj (by omega)) (hl2.symm ▸ small40 hj (Nat.succ_le_succ hh))
  cases ac with
  | mk σ₁ σ₃ v w ro₃ us₃ out hs₃ rs₃ g1 g2 S W3 f3 hl3 =>
  have k := f3 σ.length _ (by rw [r2]; exact zDy) h1
  exact ⟨σ₃, x_live2 rfl zAZ e1 h1 (act_body W2.B.isInst g1 g2) k.1, .mk σ₃ ro₃ us₃ hs₃ rs₃ _ _ _ W3 (f.trans (f2.trans f3)) ((S.same_len hn).trans hl1) (fun u hu => Nat.le_trans (S.rows hr1 u hu) (by omega)) (hl3.symm ▸ hl2.symm ▸ Nat.add_le_add_right hh 2)⟩
theorem mod3_pos {j : Nat} (hz : (j : Int).fmod 3 = ((2 : Nat) : Int)) : 1 ≤ j := by
  cases j with
  | zero => exact absurd hz (by decide)
  | succ j => omega
theorem errDel {j : Nat} {us : List Or} (h : us[j]? = some (newOr [penL j])) : (Deed.lin .del (j : Int) 0 (1 + (j : Int).fdiv 2)).err us = none := by
  show errU .del 0 _ (atI _ (j : Int)) = none
  rw [atI_nat h]
  show errN (1 + (j : Int).fdiv 2) (1 + (j : Int) - 0 + 0) = none
  unfold errN
  rw [Int.fdiv_eq_ediv_of_nonneg _ (by decide), if_neg (by omega), if_neg (by omega)]
theorem errPay10 {j : Nat} {us : List Or} (h1 : 1 ≤ j) (h : us[j]? = some (newOr [penL j])) : (Deed.pay (j : Int) (5 * (j : Int))).err us = none := by
  show errP1 _ (atI _ (j : Int)) = none
  rw [atI_nat h]
  show (if 5 * (j : Int) < 1 then some Cls.NoNumber else none) = none
  rw [if_neg (by omega)]
inductive Turn10 (σ σ₀ : Sto) (ro₀ : Nat → Role) (i b e h a : Nat) (s c n : V) (j d : Nat) (ρ : List V) : Prop
  | mk (ρ' : List V) (σ' : Sto) (er : exL (callFn T10 (d + 6) false) (callFn T10 (d + 6) true) false body122 (ρ.set 5 (.int j)) σ = .ok (.next ρ') σ') (I : BgI σ₀ ro₀ i b e h a s c n (j + 1) ρ' σ')
theorem begin_mk {F Fq : Calls} {x7 x6 s c n : V} {j : Nat} {r : R Fl} (kk : exL F Fq false (body122.drop 1) [.ref b, .ref a, s, c, n, .int j, .ref σ.length, x7] (σ ++ [.list [(Deed.ord [penL j]).v]]) = r) : exL F Fq false body122 [.ref b, .ref a, s, c, n, .int j, x6, x7] σ = r :=
  s_asg (v := .ref σ.length) (σ' := σ ++ [O.list [(Deed.ord [penL j]).v]]) rfl kk
theorem begin_app {F Fq : Calls} {x7 s c n v x : V} {y : CE} {dv : V} {rest : List CS} {r : R Fl} (hx : evE F false y [.ref b, .ref a, s, c, n, x, .ref σ.length, x7] (σ ++ [.list [v]]) = .ok dv (σ ++ [.list [v]])) (kk : exL F Fq false rest [.ref b, .ref a, s, c, n, x, .ref σ.length, x7] (σ ++ [.list [v, dv]]) = r) :
    exL F Fq false (.exp (.append (.var 6) y) :: rest) [.ref b, .ref a, s, c, n, x, .ref σ.length, x7] (σ ++ [.list [v]]) = r :=
  s_exp (zAj (x := .ref σ.length) rfl (by show (listR _).isSome = true; rw [zAZ]; rfl) hx (zAX _ zAZ (show 1 < LIM by decide))) (by rw [zCF]; exact kk)
theorem zDJ {F : Calls} {s c n x6 x7 : V} {j z : Nat} (hz : (j : Int).fmod 3 = (z : Int)) (σ : Sto) (q : Int) : evC F false (some (.p2 .eq (.p2 .mod (.var 5) (.lit (.int 3))) (.lit (.int q)))) [.ref b, .ref a, s, c, n, .int j, x6, x7] σ = .ok ((z : Int) == q) σ := zAC (e_p2 (e_p2 rfl rfl (by rw [zBU σ _ 3 rfl, hz])) rfl rfl)
theorem begin_turn {s c n : V} {j : Nat} {ρ : List V} {σ₀ : Sto} {ro₀ : Nat → Role} (hj : j < 40) (I : BgI σ₀ ro₀ i b e h a s c n j ρ σ) : Turn10 σ σ₀ ro₀ i b e h a s c n j d ρ := by
  cases I with
  | mk _ ro us hs rs x5 x6 x7 W f hu hr hh =>
  have first := first10 (d := d) W (j := j) ⟨by show 1 ≤ 1; decide, by show 1 ≤ 20; decide, fun l hl => by rw [List.mem_singleton.mp hl]; exact penL_good hj, hu ▸ hj⟩ (fun u hu => small40 hj (Nat.le_succ_of_le (hr u hu))) (hu ▸ small40 hj (by omega)) (small40 hj (Nat.le_succ_of_le hh))
  have hlast : (us ++ [newOr [penL j]])[j]? = some (newOr [penL j]) := by rw [List.getElem?_append_right (Nat.le_of_eq hu), hu, Nat.sub_self]; rfl
  have hr1 : ∀ u ∈ us ++ [newOr [penL j]], u.rows.length ≤ 2 * j := fun u hm => (List.mem_append.mp hm).elim (hr u) fun hm => List.mem_singleton.mp hm ▸ Nat.zero_le _
  have hlen1 : (us ++ [newOr [penL j]]).length = j + 1 := by rw [List.length_append, hu]; rfl
  obtain ⟨z, hz, hz3⟩ := zDp (j : Int) (m := 3) (by decide)
  have hz : (j : Int).fmod 3 = (z : Int) := hz
  match z, hz3, hz with
  | 0, _, hz =>
    cases first [(Deed.ord [penL j]).v] with
    | mk σ₂ ro₂ hs₂ rs₂ e1 h1 W2 f2 hl2 r2 =>
    exact ⟨_, σ₂, begin_mk (s_f (zDJ hz _ 1) (s_f (zDJ hz _ 2) (zBp (x_live1 rfl zAZ e1 h1) s_nil))), .mk σ₂ ro₂ _ hs₂ rs₂ _ _ _ W2 (f.trans f2) hlen1 (fun u hu => Nat.le_trans (hr1 u hu) (Nat.mul_le_mul_left 2 (Nat.le_succ j))) (hl2.symm ▸ Nat.le_succ_of_le (Nat.succ_le_succ hh))⟩
  | 1, _, hz =>
    cases second10 hj f hlen1 hr1 hh (first _) (D := .lin .del (j : Int) 0 (1 + (j : Int).fdiv 2)) (fun _ h => nomatch h) (errDel hlast) with
    | mk σ₃ e3 I3 =>
    exact ⟨_, σ₃, begin_mk (s_t (zDJ hz _ 1) (begin_app (e_tup (zAB rfl (zAB rfl (zAB rfl (zAB (e_p2 rfl (e_p2 rfl rfl (zBH _ _ 2 rfl)) rfl) rfl))))) (s_f (zDJ hz _ 2) (zBp e3 s_nil)))), I3⟩
  | 2, _, hz =>
    cases second10 hj f hlen1 hr1 hh (first _) (D := .pay (j : Int) (5 * (j : Int))) (fun _ h => nomatch h) (errPay10 (mod3_pos hz) hlast) with
    | mk σ₃ e3 I3 =>
    exact ⟨_, σ₃, begin_mk (s_f (zDJ hz _ 1) (s_t (zDJ hz _ 2) (begin_app (e_tup (zAB rfl (zAB rfl (zAB (e_p2 rfl rfl (zAh _ 5 j (.inl rfl))) rfl)))) (zBp e3 s_nil)))), I3⟩
  | z + 3, hz3, _ => exact absurd hz3 (by omega)
inductive Begun10 (σ : Sto) (ro : Nat → Role) (i b e h a : Nat) (r : R V) : Prop
  | mk (σ' : Sto) (ro' : Nat → Role) (us : List Or) (hs rs : List V) (er : r = .ok (.ref b) σ') (W : Bk σ' ro' i b e h a us hs rs) (f : Fr (ofAct i) σ ro σ' ro') (hu : us.length < 40) (hr : ∀ u ∈ us, u.rows.length ≤ 80) (hh : hs.length ≤ 80)
theorem c122 (W : Bk σ ro i b e h a [] [] rs) (l : List Int) : Begun10 σ ro i b e h a (callFn T10 (d + 7) false 122 [.ref b, .ref a, .lst (iv l)] σ) := by
  have pre : ∃ n : Nat, n < 40 ∧ ∀ {r : R Fl}, exL (callFn T10 (d + 6) false) (callFn T10 (d + 6) true) false (zBy.body.drop 3) [.ref b, .ref a, .lst (iv l), .int (gI l 0), .int n, .undef, .undef, .undef] σ = r → exL (callFn T10 (d + 6) false) (callFn T10 (d + 6) true) false zBy.body [.ref b, .ref a, .lst (iv l), .undef, .undef, .undef, .undef, .undef] σ = r := by
    have p1 : ∀ {r : R Fl}, exL (callFn T10 (d + 6) false) (callFn T10 (d + 6) true) false (zBy.body.drop 2) [.ref b, .ref a, .lst (iv l), .int (gI l 0), .int 0, .undef, .undef, .undef] σ = r → exL (callFn T10 (d + 6) false) (callFn T10 (d + 6) true) false zBy.body [.ref b, .ref a, .lst (iv l), .undef, .undef, .undef, .undef, .undef] σ = r := fun kk =>
      s_asg (zAG rfl (h_cell modTab10 l 0)) (s_asg rfl kk)
    cases ht : (((gI l 0 * 48271).fmod 10133).fmod 6 == 1) with
    | false => exact ⟨0, by decide, fun kk => p1 (s_f (zAC (t := false) (e_p2 (zAy (c := gI l 0) rfl rfl rfl rfl rfl) rfl (by rw [zBM, ht]))) kk)⟩
    | true =>
      obtain ⟨n, hn, hn2⟩ := zDp ((gI l 0 * 48271).fmod 10139) (m := 40) (by decide)
      have hn : ((gI l 0 * 48271).fmod 10139).fmod 40 = (n : Int) := hn
      exact ⟨n, hn2, fun kk => p1 (s_t (zAC (t := true) (e_p2 (zAy (c := gI l 0) rfl rfl rfl rfl rfl) rfl (by rw [zBM, ht]))) (s_asg (v := .int n) (by rw [← hn]; exact zAy (c := gI l 0) rfl rfl rfl rfl rfl) kk))⟩
  obtain ⟨n, hn, pre⟩ := pre
  obtain ⟨ρ', σ', e, I⟩ := zCt (F := callFn T10 (d + 6) false) (Fq := callFn T10 (d + 6) true) (i := 5) (k := .range1) (src := [.var 4]) (body := body122) (ρ := [.ref b, .ref a, .lst (iv l), .int (gI l 0), .int n, .undef, .undef, .undef]) (vs := [.int n]) (σ := σ) (σ₁ := σ) (it := .now (rangeL 0 n)) (xs := rangeL 0 n)
    (BgI σ ro i b e h a (.lst (iv l)) (.int (gI l 0)) (.int n)) rfl (zAS _ (by rw [Int.natAbs_natCast]; exact Nat.le_trans (Nat.le_of_lt hn) (by decide))) (fun _ _ _ _ => .inl rfl) (.mk σ ro [] [] rs _ _ _ W .refl rfl (fun u hu => nomatch hu) (Nat.zero_le _)) fun j x ρ σ' hx I => by
      obtain ⟨rfl, hj⟩ := zBe hx
      obtain ⟨ρ', σ', er, I⟩ := begin_turn (by omega) I
      exact ⟨ρ', σ', er, I⟩
  rw [zDw] at I
  cases I with
  | mk _ ro' us hs rs x5 x6 x7 W' f hu hr hh =>
  exact .mk σ' ro' us hs rs (zAD (fn := zBy) rfl rfl (pre (zBp e rfl))) W' f (by omega) (fun u hm => Nat.le_trans (hr u hm) (by omega)) (by omega)
end
end Mine
end

/-! # L10e -/
section
set_option autoImplicit false
namespace Mine
open PySem
section
variable {d : Nat} {σ σ' : Sto} {ro ro' : Nat → Role} {i j a b e h o r m k : Nat} {us us' : List Or} {hs rs xs : List V} {u : Or} {fv : V} {kp : List (V × V)}
theorem zCq {x y : Nat} (h : x ≤ y) (hy : y < LIM) : x < LIM := Nat.lt_of_le_of_lt h hy
theorem half_lt {j n : Nat} (h : j < n / 2) : 2 * j + 1 < n := by omega
theorem half_lt' {t n : Nat} (h : 2 * t + 1 < n) (hn : n ≤ 63) : t ≤ 31 := by omega
theorem kp_lim {x p k : Nat} (h : x ≤ k + 1) (hp : p ≤ 2) (hk : 2 * k + 10 < LIM) : 2 * (x + p) + 2 < LIM :=
  zCq (Nat.add_le_add_right (Nat.mul_le_mul_left 2 (Nat.add_le_add h hp)) 2) (Nat.lt_of_le_of_lt (show 2 * k + 8 ≤ 2 * k + 10 from Nat.add_le_add_left (by decide) _) hk)
theorem kp_next {x y p k : Nat} (h : x ≤ k + 1) (hp : p ≤ 2) (hy : y = x + p) : y ≤ k + 3 := hy.symm ▸ (show x + p ≤ k + 1 + 2 from Nat.add_le_add h hp)
theorem ofBk_turn (hij : i ≠ j) : ∀ x, ofBk j x → ¬ ofTurn i x := fun x hx q => by
  have h1 := ofBk_tag hx
  rcases ofTurn_tag q with ⟨_, h2, _⟩ | h2 | h2
  · exact hij (h2.symm.trans h1.2)
  · rw [h2] at h1; exact absurd h1.1 (by decide)
  · rw [h2] at h1; exact absurd h1.1 (by decide)
inductive Turned10 (σ : Sto) (ro : Nat → Role) (i b e h a m : Nat) (us : List Or) (hl : Nat) (kp : List (V × V)) (c c2 : Int) (F : Calls) : Prop
  | mk (σ₁ σ₂ σ₃ : Sto) (ro' : Nat → Role) (dv ps : V) (us' : List Or) (hs' rs' : List V) (kp' : List (V × V)) (hv : ∀ ρ : List V, ∀ n, ρ[n]? = some dv → readVar ρ n = some dv) (e1 : F 109 [.int c, .int c2, .ref a] σ = .ok dv σ₁) (e2 : F 120 [.ref b, dv, .ref a, .ref m] σ₁ = .ok (.bool true) σ₂) (e3 : F 118 [dv, .ref a] σ₂ = .ok ps σ₂) (e4 : F 117 [.ref b, .ref a, ps, .ref m] σ₂ = .ok (.bool true) σ₃)
      (W : Bk σ₃ ro' i b e h a us' hs' rs') (K : KpL σ₃ ro' m kp') (f : Fr (ofTurn i) σ ro σ₃ ro') (hu : us'.length ≤ us.length ∨ us'.length ≤ 4) (hr : ∀ R, (∀ u ∈ us, u.rows.length ≤ R) → ∀ u ∈ us', u.rows.length ≤ R + 1) (hh : hs'.length ≤ hl + 1) (hk : kp'.length ≤ kp.length + 3)
theorem turn_book (W : Bk σ ro i b e h a us hs rs) (K : KpL σ ro m kp) (c c2 : Int) (hrow : ∀ u ∈ us, u.rows.length < LIM) (hlu : us.length < LIM) (hh : hs.length < LIM) (hkl : 2 * kp.length + 10 < LIM) : Turned10 σ ro i b e h a m us hs.length kp c c2 (callFn T10 (d + 8) false) := by
  have hdr := h_deed (d := d + 4) modTab10 W.A W.ok c c2
  have one : ∃ (D : Deed) (k : Nat) (σ₁ : Sto) (ro₁ : Nat → Role), callFn T10 (d + 8) false 109 [.int c, .int c2, .ref a] σ = .ok (D.raw k) σ₁ ∧ D.fit us ∧ (∀ ls, D = .ord ls → us.length < 4 ∧ σ₁[k]? = some (.list (ls.map Ln.raw)) ∧ ro₁ k = .other) ∧ Bk σ₁ ro₁ i b e h a us hs rs ∧ KpL σ₁ ro₁ m kp ∧ Fr (ofTurn i) σ ro σ₁ ro₁ := by
    cases hdr with
    | ord ls hf h4 er =>
      exact ⟨.ord ls, σ.length, _, put ro σ.length .other, er, hf, fun ls' q => by cases q; exact ⟨h4, zAZ, zBr⟩, W.keep (P := fun _ => False) (zBJ _ _) (fun _ _ h => h), K.keep (P := fun _ => False) (zBJ _ _) (fun h => h) (fun h => h), zBJ _ _⟩
    | oth D hn er =>
      refine ⟨D, 0, σ, ro, ?_, ?_, fun ls q => (hn ls q).elim, W, K, .refl⟩
      · rw [er, Deed.raw_of hn]
      · exact Deed.fit_of hn
  obtain ⟨D, k, σ₁, ro₁, e1, hf, hD, W1, K1, f1⟩ := one
  have h2 := c120 (d := d) W1 K1 D hf (fun ls q => (hD ls q).2) hrow hlu hh (Nat.lt_of_le_of_lt (Nat.add_le_add_left (show 2 ≤ 10 by decide) _) hkl)
  cases h2 with
  | mk σ₂ ro₂ us₂ hs₂ rs₂ kp₂ e2 W2 K2 f2 hu2 ho2 hh2 hk2 =>
  obtain ⟨ps, p1, p2, p3⟩ := c118 (d := d + 7) (k := k) W2.A D ho2
  have h4 := c117 (d := d + 4) W2 K2 p1 (kp_lim hk2 p2 hkl)
  cases h4 with
  | mk σ₃ kp₃ e4 f3 K3 hl3 =>
  refine .mk σ₁ σ₂ σ₃ ro₂ (D.raw k) _ us₂ hs₂ rs₂ kp₃ (fun ρ n hn => Deed.readRaw hn) e1 e2 p3 e4 (W2.keep f3 zAw) K3 (f1.trans (f2.trans (f3.mono fun x q => .inr (.inr (.inr (.inl q)))))) ?_ (fun R hR => ?_) hh2 (kp_next hk2 p2 hl3)
  · rcases hu2 with rfl | ⟨out, S⟩
    · exact .inl (Nat.le_refl _)
    · rcases D.ord_or with hn | ⟨ls, hq⟩
      · exact .inl (Nat.le_of_eq (S.same_len hn))
      · exact .inr (by rw [S.ord_len hq]; exact (hD ls hq).1)
  · rcases hu2 with rfl | ⟨out, S⟩
    · exact fun u hu => Nat.le_succ_of_le (hR u hu)
    · exact S.rows hR
inductive Two (σ : Sto) (ro : Nat → Role) (i b a t : Nat) : Prop
  | mk (e h : Nat) (us : List Or) (hs rs : List V) (W : Bk σ ro i b e h a us hs rs) (hu : us.length ≤ 40) (hr : ∀ u ∈ us, u.rows.length ≤ 80 + t) (hh : hs.length ≤ 80 + t)
theorem Two.keep {P : Role → Prop} {t : Nat} (x : Two σ ro i b a t) (f : Fr P σ ro σ' ro') (hp : ∀ x, ofBk i x → ¬ P x) : Two σ' ro' i b a t := by
  cases x with
  | mk e h us hs rs W hu hr hh => exact .mk e h us hs rs (W.keep f hp) hu hr hh
theorem Two.next {t : Nat} (x : Two σ ro i b a t) : Two σ ro i b a (t + 1) := by
  cases x with
  | mk e h us hs rs W hu hr hh => exact .mk e h us hs rs W hu (fun u hm => Nat.le_succ_of_le (hr u hm)) (Nat.le_succ_of_le hh)
inductive I10 (s : V) (b0 b1 : Nat) (t : Nat) : List V → Sto → Prop
  | mk (σ : Sto) (ro : Nat → Role) (kp : List (V × V)) (x4 x5 x6 : V) (B0 : Two σ ro 0 b0 0 t) (B1 : Two σ ro 1 b1 1 t) (K : KpL σ ro 2 kp) (hk : kp.length ≤ 3 * t) : I10 s b0 b1 t [s, .lst [.ref 0, .ref 1], .ref 2, .lst [.ref b0, .ref b1], x4, x5, x6] σ
noncomputable def body10 : List CS := match zDE.body with
  | [_, _, _, .for _ _ _ b, _, _] => b
  | _ => []
theorem e_even {F : Calls} {ρ : List V} {l : List Int} {k : Nat} (h0 : readVar ρ 0 = some (.lst (iv l))) (h4 : readVar ρ 4 = some (.int (k : Int))) (hk : 2 * k < l.length) : evE F false (.p2 .index (.var 0) (.p2 .mul (.lit (.int 2)) (.var 4))) ρ σ = .ok (.int (gI l (2 * k))) σ :=
  e_p2 (by rw [x_var, h0]; rfl) (e_p2 rfl (by rw [x_var, h4]; rfl) (by rw [zAh σ 2 k (.inl rfl), show (2 * (k : Int)) = ((2 * k : Nat) : Int) from rfl])) (zEa σ hk)
theorem e_odd {F : Calls} {ρ : List V} {l : List Int} {k : Nat} (h0 : readVar ρ 0 = some (.lst (iv l))) (h4 : readVar ρ 4 = some (.int (k : Int))) (hk : 2 * k + 1 < l.length) : evE F false (.p2 .index (.var 0) (.p2 .add (.p2 .mul (.lit (.int 2)) (.var 4)) (.lit (.int 1)))) ρ σ = .ok (.int (gI l (2 * k + 1))) σ :=
  e_p2 (by rw [x_var, h0]; rfl) (e_p2 (e_p2 rfl (by rw [x_var, h4]; rfl) (zAh σ 2 k (.inl rfl))) rfl (by rw [ev2_add, show (2 * (k : Int) + 1) = ((2 * k + 1 : Nat) : Int) from rfl])) (zEa σ hk)
theorem turn_at {l : List Int} {t b0 b1 bi : Nat} {ii : Int} {x5 x6 : V} (hj : 2 * t + 1 < l.length) (hl : l.length ≤ 63) (hi : (((gI l (2 * t) * 48271).fmod 10103).fmod 4 == 0) = (ii == 1)) (hii : ev1 .toInt σ (.bool (ii == 1)) = some (.int ii)) (ha : ∀ σ, ev2 .index σ (.lst [.ref 0, .ref 1]) (.int ii) = some (.ref a)) (hb : ∀ σ, ev2 .index σ (.lst [.ref b0, .ref b1]) (.int ii) = some (.ref bi)) (B : Two σ ro i bi a t) (K : KpL σ ro 2 kp) (hk : kp.length ≤ 3 * t) :
    ∃ (ρ' : List V) (σ' : Sto) (ro' : Nat → Role) (kp' : List (V × V)) (y5 y6 : V), exL (callFn T10 (d + 8) false) (callFn T10 (d + 8) true) false body10 [.lst (iv l), .lst [.ref 0, .ref 1], .ref 2, .lst [.ref b0, .ref b1], .int t, x5, x6] σ = .ok (.next [.lst (iv l), .lst [.ref 0, .ref 1], .ref 2, .lst [.ref b0, .ref b1], .int t, y5, y6]) σ' ∧ Two σ' ro' i bi a (t + 1) ∧ KpL σ' ro' 2 kp' ∧ Fr (ofTurn i) σ ro σ' ro' ∧ kp'.length ≤ 3 * (t + 1) := by
  have ht := half_lt' hj hl
  have h80 : 80 + t < LIM := zCq (Nat.add_le_add_left ht 80) (by decide)
  cases B with
  | mk e h us hs rs W hu hr hh =>
  have tb := turn_book (d := d) W K (gI l (2 * t)) (gI l (2 * t + 1)) (fun u hm => zCq (hr u hm) h80) (zCq hu (by decide)) (zCq hh h80) (zCq (Nat.add_le_add_right (Nat.mul_le_mul_left 2 (Nat.le_trans hk (Nat.mul_le_mul_left 3 ht))) 10) (by decide))
  cases tb with
  | mk σ₁ σ₂ σ₃ ro' dv ps us' hs' rs' kp' hv e1 e2 e3 e4 W' K' f hu' hr' hh' hk' =>
  have v6 : ∀ {F : Calls} {σ : Sto}, evE F false (.var 6) [.lst (iv l), .lst [.ref 0, .ref 1], .ref 2, .lst [.ref b0, .ref b1], .int t, .int ii, dv] σ = .ok dv σ := fun {F σ} => by rw [x_var, hv _ 6 rfl]; rfl
  have ia : ∀ {F : Calls} {σ : Sto} {x6 : V}, evE F false (.p2 .index (.var 1) (.var 5)) [.lst (iv l), .lst [.ref 0, .ref 1], .ref 2, .lst [.ref b0, .ref b1], .int t, .int ii, x6] σ = .ok (.ref a) σ := fun {F σ x6} => e_p2 rfl rfl (ha σ)
  have ib : ∀ {F : Calls} {σ : Sto} {x6 : V}, evE F false (.p2 .index (.var 3) (.var 5)) [.lst (iv l), .lst [.ref 0, .ref 1], .ref 2, .lst [.ref b0, .ref b1], .int t, .int ii, x6] σ = .ok (.ref bi) σ := fun {F σ x6} => e_p2 rfl rfl (hb σ)
  refine ⟨[], σ₃, ro', kp', .int ii, dv, s_asg (v := .int ii) (e_p1 (e_p2 (z := .bool (ii == 1)) (zAy (c := gI l (2 * t)) (e_even rfl rfl (Nat.lt_of_succ_lt hj)) rfl rfl rfl rfl) rfl (by rw [zBM, hi])) hii) (s_asg (zAG (zAB (e_even rfl rfl (Nat.lt_of_succ_lt hj)) (zAB (e_odd rfl rfl hj) (zAB ia rfl))) e1) (s_f (zAC (e_p1 (zAG (zAB ib (zAB v6 (zAB ia (zAB rfl rfl)))) e2) rfl)) (s_f (zAC (e_p1 (zAG (zAB ib (zAB ia (zAB (zAG (zAB v6 (zAB ia rfl)) e3) (zAB rfl rfl)))) e4) rfl)) s_nil))), .mk e h us' hs' rs' W' (hu'.elim (fun h => Nat.le_trans h hu) fun h => Nat.le_trans h (by decide)) (hr' (80 + t) hr) (Nat.le_trans hh' (Nat.succ_le_succ hh)), K', f, Nat.le_trans hk' (Nat.add_le_add_right hk 3)⟩
theorem turn10 {l : List Int} {t b0 b1 : Nat} {ρ : List V} (hj : 2 * t + 1 < l.length) (hl : l.length ≤ 63) (I : I10 (.lst (iv l)) b0 b1 t ρ σ) : ∃ ρ' σ', exL (callFn T10 (d + 8) false) (callFn T10 (d + 8) true) false body10 (ρ.set 4 (.int t)) σ = .ok (.next ρ') σ' ∧ I10 (.lst (iv l)) b0 b1 (t + 1) ρ' σ' := by
  cases I with
  | mk _ ro kp x4 x5 x6 B0 B1 K hk =>
  cases ht : (((gI l (2 * t) * 48271).fmod 10103).fmod 4 == 0) with
  | false =>
    obtain ⟨_, σ', ro', kp', y5, y6, e, B0', K', f, hk'⟩ := turn_at (d := d) (ii := 0) (x5 := x5) (x6 := x6) hj hl ht rfl (fun _ => rfl) (fun _ => rfl) B0 K hk
    exact ⟨_, σ', e, .mk σ' ro' kp' _ _ _ B0' (B1.keep f (ofBk_turn (by decide))).next K' hk'⟩
  | true =>
    obtain ⟨_, σ', ro', kp', y5, y6, e, B1', K', f, hk'⟩ := turn_at (d := d) (ii := 1) (x5 := x5) (x6 := x6) hj hl ht rfl (fun _ => rfl) (fun _ => rfl) B1 K hk
    exact ⟨_, σ', e, .mk σ' ro' kp' _ _ _ (B0.keep f (ofBk_turn (by decide))).next B1' K' hk'⟩
inductive E10 (s : V) (b0 b1 t : Nat) (j : Nat) : List V → Sto → Prop
  | mk (σ : Sto) (ro : Nat → Role) (kp : List (V × V)) (x4 x5 x6 : V) (B0 : Two σ ro 0 b0 0 t) (B1 : Two σ ro 1 b1 1 t) (K : KpL σ ro 2 kp) (hk : kp.length ≤ 3 * t + 40 * j) : E10 s b0 b1 t j [s, .lst [.ref 0, .ref 1], .ref 2, .lst [.ref b0, .ref b1], x4, x5, x6] σ
noncomputable def last10 : List CS := match zDE.body with
  | [_, _, _, _, .for _ _ _ b, _] => b
  | _ => []
theorem end_at {l : List Int} {t b0 b1 bi n : Nat} {ii : Int} {x4 x6 : V} (hn : n ≤ 100) (ha : ∀ σ, ev2 .index σ (.lst [.ref 0, .ref 1]) (.int ii) = some (.ref a)) (hb : ∀ σ, ev2 .index σ (.lst [.ref b0, .ref b1]) (.int ii) = some (.ref bi)) (B : Two σ ro i bi a t) (K : KpL σ ro 2 kp) (hk : kp.length ≤ 3 * n + 40) :
    ∃ (σ' : Sto) (kp' : List (V × V)), exL (callFn T10 (d + 8) false) (callFn T10 (d + 8) true) false last10 [.lst (iv l), .lst [.ref 0, .ref 1], .ref 2, .lst [.ref b0, .ref b1], x4, .int ii, x6] σ = .ok (.next [.lst (iv l), .lst [.ref 0, .ref 1], .ref 2, .lst [.ref b0, .ref b1], x4, .int ii, x6]) σ' ∧ KpL σ' ro 2 kp' ∧ Fr (· = .kept) σ ro σ' ro ∧ kp'.length ≤ kp.length + 40 := by
  cases B with
  | mk e h us hs rs W hu hr hh =>
  have h4 := c117 (d := d + 4) (ps := List.range us.length) W K (fun o ho => List.mem_range.mp ho) (by rw [List.length_range]; exact zCq (Nat.add_le_add_right (Nat.mul_le_mul_left 2 (Nat.add_le_add (Nat.le_trans hk (Nat.add_le_add_right (Nat.mul_le_mul_left 3 hn) 40)) hu)) 2) (by decide))
  cases h4 with
  | mk σ₃ kp₃ e4 f3 K3 hl3 =>
  rw [List.length_range] at hl3
  have ia : ∀ {F : Calls}, evE F false (.p2 .index (.var 1) (.var 5)) [.lst (iv l), .lst [.ref 0, .ref 1], .ref 2, .lst [.ref b0, .ref b1], x4, .int ii, x6] σ = .ok (.ref a) σ := e_p2 rfl rfl (ha σ)
  have ib : ∀ {F : Calls}, evE F false (.p2 .index (.var 3) (.var 5)) [.lst (iv l), .lst [.ref 0, .ref 1], .ref 2, .lst [.ref b0, .ref b1], x4, .int ii, x6] σ = .ok (.ref bi) σ := e_p2 rfl rfl (hb σ)
  have ec := zBn (F := callFn T10 (d + 8) false) (elt := .var 7) (k := .range1) (src := [.p1 .len (.p2 .index (.var 1) (.var 5))]) (cond := none) (ρ := [.lst (iv l), .lst [.ref 0, .ref 1], .ref 2, .lst [.ref b0, .ref b1], x4, .int ii, x6]) (vs := [.int us.length]) (σ := σ) (σ₁ := σ) (it := .now (rangeL 0 us.length)) (l := List.range us.length) (φ := fun o : Nat => .int (o : Int)) (fun _ => true) (fun o : Nat => .int (o : Int))
    (zAB (e_p1 ia (by rw [zAs σ W.A.ord, W.A.len])) rfl) (zAS σ (by rw [Int.natAbs_natCast]; exact Nat.le_trans hu (by decide))) (.inl (by unfold rangeL; rw [Int.sub_zero, Int.toNat_natCast]; exact congrArg Items.now (List.map_congr_left fun o _ => by rw [Int.zero_add]))) (by rw [List.length_range]; exact zCq hu (by decide)) (fun _ _ => rfl) (fun o _ _ => rfl)
  rw [zBg] at ec
  exact ⟨σ₃, kp₃, s_f (zAC (e_p1 (zAG (zAB ib (zAB ia (zAB ec (zAB rfl rfl)))) e4) rfl)) s_nil, K3, f3, hl3.symm ▸ Nat.add_le_add_left hu _⟩
theorem nact_acc1 : ¬ ofAct 0 (.acc 1) := fun h => by
  rcases zDx h with ⟨_, h⟩ | h
  · exact absurd h (show ¬ 1 = 0 by decide)
  · exact absurd h (show ¬ 3 = 8 by decide)
theorem nact_kept : ¬ ofAct 0 .kept := fun h => by
  rcases zDx h with ⟨h, _⟩ | h
  · exact absurd h (show ¬ 7 ≤ 6 by decide)
  · exact absurd h (show ¬ 7 = 8 by decide)
noncomputable def ro10 : Nat → Role
  | 0 => .acc 0
  | 1 => .acc 1
  | 2 => .kept
  | 3 => .bk 0
  | 4 => .en 0
  | 5 => .hi 0
  | _ => .other
theorem law10 (l : List Int) (hl : l.length ≤ 63) : ∃ σ, callFn T10 (d + 9) false 123 [.lst (iv l)] [] = .ok (.bool true) σ := by
  have hl2 : l.length / 2 ≤ 63 := Nat.le_trans (Nat.div_le_self _ _) hl
  have hn : (l.length : Int).fdiv 2 = ((l.length / 2 : Nat) : Int) := by rw [Int.fdiv_eq_ediv_of_nonneg _ (by decide)]; rfl
  generalize hσ : newBook [O.list [], O.list [], O.list []] = σ₀
  have W0 : Bk σ₀ ro10 0 3 4 5 0 [] [] [] := by
    rw [← hσ]
    exact ⟨newBook_in (σ := [O.list [], O.list [], O.list []]), rfl, rfl, rfl, ⟨rfl, rfl, rfl, (fun o u hu => by cases hu)⟩, (fun u hu => nomatch hu), (fun u hu => nomatch hu)⟩
  have hb := c122 (d := d + 1) W0 l
  cases hb with
  | mk σ₁ ro₁ us hs rs eb W1 f1 hu hr hh =>
  obtain ⟨a1, a2⟩ := f1 1 (.list []) nact_acc1 (by rw [← hσ]; rfl)
  obtain ⟨k1, k2⟩ := f1 2 (.list []) nact_kept (by rw [← hσ]; rfl)
  have hB1 : BookIn (newBook σ₁) σ₁.length (σ₁.length + 1) (σ₁.length + 2) [] [] := newBook_in
  let ro₂ : Nat → Role := put (put (put ro₁ σ₁.length (.bk 1)) (σ₁.length + 1) (.en 1)) (σ₁.length + 2) (.hi 1)
  have f2 : Fr (fun _ => False) σ₁ ro₁ (newBook σ₁) ro₂ := fun n x _ hx => by
    have hlt := (List.getElem?_eq_some_iff.mp hx).1
    exact ⟨by unfold newBook; rw [List.getElem?_append_left hlt]; exact hx, by show put (put (put _ _ _) _ _) _ _ n = _; rw [zBF (Nat.ne_of_lt (Nat.lt_add_right 2 hlt)), zBF (Nat.ne_of_lt (Nat.lt_add_right 1 hlt)), zBF (Nat.ne_of_lt hlt)]⟩
  have W2 : Bk (newBook σ₁) ro₂ 0 3 4 5 0 us hs rs := W1.keep f2 fun _ _ h => h
  obtain ⟨c1, c2⟩ := f2 1 _ (fun h => h) a1
  obtain ⟨m1, m2⟩ := f2 2 _ (fun h => h) k1
  have V2 : Bk (newBook σ₁) ro₂ 1 σ₁.length (σ₁.length + 1) (σ₁.length + 2) 1 [] [] [] := by
    refine ⟨hB1, ?_, ?_, ?_, ⟨c1, c2.trans a2, rfl, (fun o u hu => by cases hu)⟩, (fun u hu => nomatch hu), (fun u hu => nomatch hu)⟩
    · show put (put (put _ _ _) _ _) _ _ _ = _; rw [zBF (Nat.ne_of_lt (Nat.lt_add_of_pos_right (by decide))), zBF (Nat.ne_of_lt (Nat.lt_succ_self _)), zBr]
    · show put (put (put _ _ _) _ _) _ _ _ = _; rw [zBF (Nat.ne_of_lt (Nat.lt_succ_self _)), zBr]
    · show put (put (put _ _ _) _ _) _ _ _ = _; rw [zBr]
  have K2 : KpL (newBook σ₁) ro₂ 2 [] := ⟨m1, m2.trans k2, fun p hp => nomatch hp⟩
  obtain ⟨ρ', σ', e, I⟩ := zCt (F := callFn T10 (d + 8) false) (Fq := callFn T10 (d + 8) true) (i := 4) (k := .range1) (src := [.p2 .fdiv (.p1 .len (.var 0)) (.lit (.int 2))]) (body := body10)
    (ρ := [.lst (iv l), .lst [.ref 0, .ref 1], .ref 2, .lst [.ref 3, .ref σ₁.length], .undef, .undef, .undef]) (vs := [.int ((l.length / 2 : Nat) : Int)]) (σ := newBook σ₁) (σ₁ := newBook σ₁) (it := .now (rangeL 0 ((l.length / 2 : Nat) : Int))) (xs := rangeL 0 ((l.length / 2 : Nat) : Int))
    (I10 (.lst (iv l)) 3 σ₁.length) (zAB (e_p2 (e_p1 rfl (zAa _ (iv l))) rfl (by rw [iv_len, zBH _ _ 2 rfl, hn])) rfl) (zAS _ (by rw [Int.natAbs_natCast]; exact Nat.le_trans hl2 (by decide))) (fun _ _ _ _ => .inl rfl)
    (.mk _ ro₂ [] _ _ _ (.mk 4 5 us hs rs W2 (Nat.le_of_lt hu) (fun u hm => hr u hm) hh) (.mk _ _ [] [] [] V2 (Nat.zero_le _) (fun u hu => nomatch hu) (Nat.zero_le _)) K2 (Nat.zero_le _))
    fun j x ρ σ hx I => by
      obtain ⟨rfl, hj⟩ := zBe hx
      exact turn10 (half_lt hj) hl I
  rw [zDw] at I
  cases I with
  | mk _ ro₃ kp x4 x5 x6 B0 B1 K hk =>
  obtain ⟨ρ'', σ'', e', I'⟩ := zCt (F := callFn T10 (d + 8) false) (Fq := callFn T10 (d + 8) true) (i := 5) (k := .range1) (src := [.lit (.int 2)]) (body := last10) (ρ := [.lst (iv l), .lst [.ref 0, .ref 1], .ref 2, .lst [.ref 3, .ref σ₁.length], x4, x5, x6]) (vs := [.int 2]) (σ := σ') (σ₁ := σ') (it := .now (rangeL 0 2)) (xs := rangeL 0 2)
    (E10 (.lst (iv l)) 3 σ₁.length (l.length / 2)) rfl rfl (fun _ _ _ _ => .inl rfl) (.mk σ' ro₃ kp _ _ _ B0 B1 K hk) fun j x ρ σ hx I => by
      obtain ⟨rfl, hj⟩ := range_at hx
      have hj2 : j < 2 := hj
      cases I with
      | mk _ ro kp y4 y5 y6 B0 B1 K hk =>
      match j, hj2 with
      | 0, _ =>
        obtain ⟨σ', kp', e, K', f, hk'⟩ := end_at (d := d) (l := l) (x4 := y4) (x6 := y6) (ii := 0 + ((0 : Nat) : Int)) (n := l.length / 2) (Nat.le_trans hl2 (by decide)) (fun _ => rfl) (fun _ => rfl) B0 K (Nat.le_trans hk (Nat.add_le_add_left (by decide) _))
        exact ⟨_, σ', e, .mk σ' ro kp' _ _ _ (B0.keep f zAw) (B1.keep f zAw) K' (Nat.le_trans hk' (Nat.add_le_add_right hk 40))⟩
      | 1, _ =>
        obtain ⟨σ', kp', e, K', f, hk'⟩ := end_at (d := d) (l := l) (x4 := y4) (x6 := y6) (ii := 0 + ((1 : Nat) : Int)) (n := l.length / 2) (Nat.le_trans hl2 (by decide)) (fun _ => rfl) (fun _ => rfl) B1 K hk
        exact ⟨_, σ', e, .mk σ' ro kp' _ _ _ (B0.keep f zAw) (B1.keep f zAw) K' (Nat.le_trans hk' (Nat.le_trans (Nat.add_le_add_right hk 40) (Nat.le_of_eq (Nat.add_assoc _ 40 40))))⟩
  have I' : E10 (.lst (iv l)) 3 σ₁.length (l.length / 2) 2 ρ'' σ'' := I'
  cases I' with
  | mk _ ro₄ kp₄ y4 y5 y6 B0' B1' K4 hk4 =>
  refine ⟨σ'', zAD (fn := zDE) rfl rfl (s_asg (v := .lst [.ref 0, .ref 1]) (σ' := [O.list [], O.list []]) rfl (s_asg (v := .ref 2) (σ' := [O.list [], O.list [], O.list []]) rfl (s_asg (v := .lst [.ref 3, .ref σ₁.length]) (σ' := newBook σ₁) ?_ (zBp (rest := zDE.body.drop 4) e (zBp (rest := zDE.body.drop 5) e' (s_ret (zAG rfl (c121 (d := d + 7) K4 (Nat.le_of_lt (zCq (Nat.le_trans hk4 (Nat.add_le_add_right (Nat.mul_le_mul_left 3 hl2) _)) (by decide)))))))))))⟩
  refine e_list (zAB (zAG (zAB (b_new bookTab10) (zAB rfl (zAB rfl rfl))) ?_) (zAB (b_new bookTab10) rfl))
  rw [hσ]; exact eb
end
end Mine
end

/-! # CutG -/
section
set_option autoImplicit false
open PySem PySem.W PyProof.Rows
namespace Mine
noncomputable def pRows : List (Str × Int) := [("order", 2), ("deliver", 4), ("back", 4), ("swap", 4), ("credit", 4), ("pay", 3), ("refund", 3), ("move", 4)]
noncomputable def pEsT (P : Params) (ts : List (Nat × Nat)) : List DictEntry := (pRows.zip ts).map fun q => ⟨PyData.keyHash P q.1.1, .str q.1.1 q.2.1, .int q.1.2 q.2.2⟩
noncomputable def pObjT (P : Params) (ts : List (Nat × Nat)) : Obj := { cls := .type "dict", data := .dict (pEsT P ts).toArray 8 }
noncomputable def linedRows : List Str := ["deliver", "back", "swap", "credit"]
noncomputable def linedObj (ts : List Nat) : Obj := { cls := .type "tuple", data := .seq ((linedRows.zip ts).map fun q => Value.str q.1 q.2).toArray }
noncomputable def mroAt (h : Heap) (x : Str) : Option (Addr × List Value) := match h.nsMap mainGlobals x with
  | some (.ref a) => (h.get? a).bind fun o => match o.data with
    | .cls cd => some (a, cd.mro)
    | _ => none
  | _ => none
theorem left_of_cut {p q : Program} {loose : List Str} {Xt : Shared → Bool} {α : Type} {Yf : Shared → α} {Ya : World → α} {N : Nat} {m₀ : Nat} {ann : Option Value} {n M : Nat} {sc : World → OsState → Shared} {th : Thread}
    (e : opening p = plainProg p.main.scope.names) (hN : Nat.ble 600 N = true) (f : ∀ s, fenceModules? p s = some s)
    (size : ∀ w : World, ((boot_heap w.params).isNs mainGlobals && (Array.mk [] : Array GenState).size == 0, (boot_heap w.params).objs.size, (boot_heap w.params).nsMap mainGlobals "__annotations__") = (true, m₀, ann))
    (run : ∀ (w : World) (os : OsState) (r : Shared), topRun treeTable p w m₀ ann M (sc w os) th = some r → topRun treeTable p w m₀ ann (n + M) ⟨boot_heap w.params, Array.mk [], boot_drawn, boot_toks, os⟩ (topStub p) = some r) (le : Nat.ble (n + M) N = true)
    (looks : ∀ w : World, (fun os => (topRun treeTable p w m₀ ann M (sc w os) th).map fun s₁ => ((staticsOk (importedModules p.main.body) (boot_heap w.params) s₁.heap && namesBound p s₁.heap && gensDone s₁ && laidKept (boot_heap w.params) s₁.heap),
        openSeen q loose (importedModules p.main.body) Xt true s₁, Yf s₁)) = fun _ => some (true, openGood q loose, Ya w)) : LeftO p q loose Xt Yf Ya N := fun w => by
  obtain ⟨⟨h, gs, d, k, os⟩, e1, e'⟩ := Option.map_eq_some_iff.mp (boot_open e hN f w)
  obtain ⟨rfl, rfl, rfl, rfl⟩ : h = boot_heap w.params ∧ gs = Array.mk [] ∧ d = boot_drawn ∧ k = boot_toks := by simpa using e'
  obtain ⟨z1, z2, z3⟩ : _ ∧ _ ∧ _ := by simpa only [Prod.mk.injEq] using size w
  obtain ⟨s₁, r0, l0⟩ := Option.map_eq_some_iff.mp (congrFun (looks w) os)
  obtain ⟨l1, l2, l3⟩ : _ ∧ _ ∧ _ := by simpa only [Prod.mk.injEq] using l0
  have r := topRun_mono (N - (n + M)) _ _ _ _ (run w os s₁ r0)
  rw [show n + M + (N - (n + M)) = N by have := Nat.le_of_ble_eq_true le; omega] at r
  have t : topFrom treeTable p w N ⟨boot_heap w.params, Array.mk [], boot_drawn, boot_toks, os⟩ = some s₁ := by
    unfold topFrom
    dsimp only
    rw [z1, z2, z3, r]
    show (match staticsOk (importedModules p.main.body) (boot_heap w.params) s₁.heap && namesBound p s₁.heap && gensDone s₁ && laidKept (boot_heap w.params) s₁.heap with | true => _ | false => _) = _
    rw [l1]
  unfold openEnds
  rw [e1]
  show (topFrom treeTable p w N ⟨boot_heap w.params, Array.mk [], boot_drawn, boot_toks, os⟩).map _ = _
  rw [t]
  show some (openSeen q loose (importedModules p.main.body) Xt true s₁, Yf s₁) = _
  rw [l2, l3]
section
variable {p : Program} {w : World} {m₀ : Nat} {ann : Option Value} {env : Env} {q : Pos} {b : List Stmt}
theorem cut_first {n₀ nb n N i : Nat} {s₀ s' r : Shared} {c : Code} {pos pb p' : Pos} (hc : c = .body b env)
    (pre : (topGo treeTable p w m₀ ann n₀ s₀ (topStub p)).map (·.2) = some ⟨denote treeTable c, c, pos, [topFrame q]⟩)
    (blk : ((topGo treeTable p w m₀ ann n₀ s₀ (topStub p)).bind fun x => segRun treeTable p w m₀ ann 1 nb x.1 (blockOf b env c pos [topFrame q])).map (fun y => (y.1, y.2.2)) = some (.next, c, pb))
    (g : (((topGo treeTable p w m₀ ann n₀ s₀ (topStub p)).bind fun x => segRun treeTable p w m₀ ann 1 nb x.1 (blockOf b env c pos [topFrame q])).bind fun y => segRun treeTable p w m₀ ann 1 n y.2.1 (piecesOf ((b.take i).drop 0) env c pb [topFrame q])) = some (.next, s', c, p'))
    (k : topRun treeTable p w m₀ ann N s' (restOf (b.drop i) env c p' [topFrame q]) = some r) : topRun treeTable p w m₀ ann (n₀ + (nb + (n + N))) s₀ (topStub p) = some r := by
  obtain ⟨⟨sa, ta⟩, a1, a2⟩ := Option.map_eq_some_iff.mp pre
  have a2 : ta = _ := a2
  subst a2
  rw [a1] at blk g
  obtain ⟨⟨f1, sb, cb, pb'⟩, b1, b2⟩ := Option.map_eq_some_iff.mp blk
  cases b2
  have b1 : segRun treeTable p w m₀ ann 1 nb sa (blockOf b env c pos [topFrame q]) = some (.next, sb, c, pb) := b1
  have g : ((segRun treeTable p w m₀ ann 1 nb sa (blockOf b env c pos [topFrame q])).bind fun y => segRun treeTable p w m₀ ann 1 n y.2.1 (piecesOf ((b.take i).drop 0) env c pb [topFrame q])) = _ := g
  rw [b1] at g
  have g : segRun treeTable p w m₀ ann 1 n sb (piecesOf (b.take i) env c pb [topFrame q]) = some (.next, s', c, p') := g
  refine go_top a1 ?_
  have := piece_block b1 (k := by
    have := piece_app g k
    rwa [List.take_append_drop] at this)
  rwa [hc] at this ⊢
theorem zDq {n N i j : Nat} {s s' r : Shared} {c : Code} {pos p' : Pos} (hij : i ≤ j) (g : segRun treeTable p w m₀ ann 1 n s (piecesOf ((b.take j).drop i) env c pos [topFrame q]) = some (.next, s', c, p'))
    (k : topRun treeTable p w m₀ ann N s' (restOf (b.drop j) env c p' [topFrame q]) = some r) : topRun treeTable p w m₀ ann (n + N) s (restOf (b.drop i) env c pos [topFrame q]) = some r := by
  have e : b.drop i = (b.take j).drop i ++ b.drop j := by
    rw [List.drop_take]
    have : b.drop j = (b.drop i).drop (j - i) := by rw [List.drop_drop]; congr 1; omega
    rw [this, List.take_append_drop]
  rw [e]
  exact piece_app g k
end
end Mine
end

/-! # LinkB -/
section
set_option autoImplicit false
namespace Mine
open PySem PySem.W PyProof.Rows
inductive Says (P : Params) (pa la : Addr) (pt : List (Nat × Nat)) (lt : List Nat) (ms : List (Str × Addr × List Value)) (h : Heap) : Prop
  | mk (mg : Str → Option Value) (N : h.Ns mainGlobals mg) (e1 : mg ("PARTS" : Str) = some (.ref pa)) (e2 : h.get? pa = some (pObjT P pt)) (e3 : mg ("LINED" : Str) = some (.ref la)) (e4 : h.get? la = some (linedObj lt))
      (e5 : ∀ q ∈ ms, mg q.1 = some (.ref q.2.1) ∧ ∃ o cd, h.get? q.2.1 = some o ∧ o.data = .cls cd ∧ cd.mro = q.2.2)
theorem mroAt_some {h : Heap} {x : Str} {a : Addr} {m : List Value} (e : mroAt h x = some (a, m)) : h.nsMap mainGlobals x = some (.ref a) ∧ ∃ o cd, h.get? a = some o ∧ o.data = .cls cd ∧ cd.mro = m := by
  unfold mroAt at e
  split at e
  · rename_i a' ha
    obtain ⟨o, ho, e⟩ := Option.bind_eq_some_iff.mp e
    split at e
    · rename_i cd hd
      cases e
      exact ⟨ha, o, cd, ho, hd, rfl⟩
    · cases e
  · cases e
theorem says_of {P : Params} {pa la : Addr} {pt : List (Nat × Nat)} {lt : List Nat} {ms : List (Str × Addr × List Value)} {h : Heap}
    (e : (h.isNs mainGlobals, h.nsMap mainGlobals "PARTS", h.get? pa, h.nsMap mainGlobals "LINED", h.get? la, ms.map fun q => mroAt h q.1) = (true, some (.ref pa), some (pObjT P pt), some (.ref la), some (linedObj lt), ms.map fun q => some q.2)) : Says P pa la pt lt ms h := by
  simp only [Prod.mk.injEq] at e
  obtain ⟨h0, h1, h2, h3, h4, h5⟩ := e
  refine .mk _ (.of_isNs h0) h1 h2 h3 h4 fun q hq => ?_
  obtain ⟨x, a, m⟩ := q
  exact mroAt_some (List.map_inj_left.mp h5 _ hq)
theorem Says.keeps {P : Params} {pa la : Addr} {pt : List (Nat × Nat)} {lt : List Nat} {ms : List (Str × Addr × List Value)} {h h' : Heap} (s : Says P pa la pt lt ms h) (k : ∀ b o, h.get? b = some o → h'.get? b = some o) : Says P pa la pt lt ms h' := by
  obtain ⟨mg, ⟨o, es, ep, a, b⟩, e1, e2, e3, e4, e5⟩ := s
  exact .mk mg ⟨o, es, ep, k _ _ a, b⟩ e1 (k _ _ e2) e3 (k _ _ e4) fun q hq => by
    obtain ⟨h1, o, cd, h2, h3⟩ := e5 q hq
    exact ⟨h1, o, cd, k _ _ h2, h3⟩
theorem partsT_find (P : Params) (x : Str) (ts : List (Nat × Nat)) (hl : ts.length = 8) : ∃ t, ((pEsT P ts).find? fun e => Value.isStrOf x e.key).map (·.val) = ((partsTable.find? fun p => p.1 == x).map fun p => Value.int p.2 t) := by
  have key : ∀ (l : List ((Str × Int) × (Nat × Nat))), ∃ t, ((l.map fun q => (⟨PyData.keyHash P q.1.1, .str q.1.1 q.2.1, .int q.1.2 q.2.2⟩ : DictEntry)).find? fun e => Value.isStrOf x e.key).map (·.val) = (((l.map fun q => q.1).find? fun p => p.1 == x).map fun p => Value.int p.2 t) := by
    intro l
    induction l with
    | nil => exact ⟨0, rfl⟩
    | cons q l ih =>
      rw [List.map_cons, List.map_cons, List.find?_cons, List.find?_cons]
      have hq : Value.isStrOf x (Value.str q.1.1 q.2.1) = (q.1.1 == x) := rfl
      simp only [hq]
      cases h : (q.1.1 == x) with
      | true => exact ⟨q.2.2, rfl⟩
      | false => exact ih
  have := key (pRows.zip ts)
  rwa [show ((pRows.zip ts).map fun q => q.1) = partsTable from List.map_fst_zip (by rw [hl]; decide)] at this
theorem partsT_at {S : Stat} {dA : Addr} {ts : List (Nat × Nat)} (hl : ts.length = 8) (hp : S.parts = .ref dA) (hd : (dA == sysModules) = false) (ho : S.hb.get? dA = some (pObjT S.w.params ts)) : PartsAt S S.hb := fun _ => by
  refine ⟨dA, fun x => ((pEsT S.w.params ts).find? fun e => Value.isStrOf x e.key).map (·.val), hp, hd, ⟨_, (pEsT S.w.params ts).toArray, 8, ho, ⟨rfl, rfl, rfl⟩, rfl, fun e he => ?_, fun k => ?_⟩, fun x => partsT_find _ x ts hl⟩
  · have he : e ∈ pEsT S.w.params ts := by simpa using he
    obtain ⟨q, _, rfl⟩ := List.mem_map.mp he
    exact ⟨_, beq_self_eq_true _, rfl⟩
  · show ((pEsT S.w.params ts).toArray.find? _).map _ = _
    rw [List.find?_toArray]; rfl
section
variable {p : Program} {loose : List Str} {mean : ExcName → Option Value} {mg mb : Str → Option Value} {S : Stat}
theorem excCl_of (T : Top p loose mean mg mb S.hb) {x : Str} {c : Cls} {a : Addr} {bm : List Value} (hs : specOf p x = some ("ValueError.__new__", bmV)) (hg : mg x = some (.ref a)) (hm : ∃ o cd, S.hb.get? a = some o ∧ o.data = .cls cd ∧ cd.mro = .ref a :: bm)
    (hcl : S.cl c = .ref a) (hkn : ∀ d ∈ S.kn, (Value.ref a :: bm).contains (S.cl d) = c.sub d) : ExcCl S c := by
  obtain ⟨C, O, _⟩ := T.ownAt hs
  obtain ⟨hb, bm', N, nm, q, bs, hdct, sn, sub, ab, col, dd, k0, k1, k2, k3, k5, mN, hC, hN, hi, OT⟩ := O.own
  rw [hg] at hb
  cases hb
  obtain ⟨o, cd, h1, h2, h3⟩ := hm
  rw [hC] at h1
  cases h1
  cases h2
  obtain rfl : bm' = bm := by injection h3
  exact .mk a bm' N nm q bs hdct sn sub ab col dd k0 k1 k2 k3 k5 mN hcl hC hN hi OT hkn
theorem lined_at {la : Addr} {lt : List Nat} (hl : lt.length = 4) (ho : S.hb.get? la = some (linedObj lt)) : VR S [] [] S.hb (.tup [.str { cps := #[100, 101, 108, 105, 118, 101, 114] }, .str { cps := #[98, 97, 99, 107] }, .str { cps := #[115, 119, 97, 112] }, .str { cps := #[99, 114, 101, 100, 105, 116] }]) (.ref la) := by
  match lt, hl with
  | [a, b, c, d], _ =>
    rw [VR]
    refine ⟨la, _, _, rfl, ⟨(fun h => nomatch h), (fun h => nomatch h)⟩, ho, ?_, by decide⟩
    have s : ∀ {x : Str} {t : Nat}, x.length ≤ LIM → PyData.strOk x = true → VR S [] [] S.hb (.str x) (.str x t) := fun h1 h2 => by rw [VR]; exact ⟨⟨_, rfl⟩, h1, h2⟩
    show VRs S [] [] S.hb _ [_, _, _, _]
    simp only [VRs]
    exact ⟨s (by decide) (by decide +kernel), s (by decide) (by decide +kernel), s (by decide) (by decide +kernel), s (by decide) (by decide +kernel), trivial⟩
end
end Mine
end

/-! # LinkC -/
section
set_option autoImplicit false
namespace Mine
open PySem PySem.W PyProof.Rows
noncomputable def linedV : V := .tup [.str { cps := #[100, 101, 108, 105, 118, 101, 114] }, .str { cps := #[98, 97, 99, 107] }, .str { cps := #[115, 119, 97, 112] }, .str { cps := #[99, 114, 101, 100, 105, 116] }]
inductive ConstOk (v : Program) (x : Str) : V → Prop
  | int (i : Int) (h : valOf v x = some (.int i)) : ConstOk v x (.int i)
  | str (y : Str) (h : valOf v x = some (.str y)) (hl : y.length ≤ LIM) (hk : PyData.strOk y = true) : ConstOk v x (.str y)
structure Ex where
  name : Str
  c : Cls
  a : Addr
  bm : List Value
structure BookLaw (v : Program) (loose : List Str) (C : Ctx) (tM tF : List (Nat × Fn)) (base : List (Str × V)) (ex : List Ex) (cl : Cls → Value) (kn : List Cls) (cb : ClsRec) : Prop where
  k1 : tabF C (recsOf v) = some tF
  k2 : fnsOk C (recsOf v) = true
  k3 : ((recsOf v).map (·.name)).Nodup
  k4 : freeOk v loose C = true
  hc : C.consts = base ++ [(("PARTS" : Str), .parts), (("LINED" : Str), linedV)]
  hb : ∀ q ∈ base, ConstOk v q.1 q.2
  hx : C.excs = ex.map fun q => (q.name, q.c)
  hs : ∀ q ∈ ex, specOf v q.name = some ("ValueError.__new__", bmV)
  hcl : ∀ q ∈ ex, cl q.c = .ref q.a
  hkn : ∀ q ∈ ex, q.c ∈ kn ∧ ∀ d ∈ kn, (Value.ref q.a :: q.bm).contains (cl d) = q.c.sub d
  m1 : cb ∈ plainsOf v loose
  m2 : cb.name = ("Book" : Str)
  m3 : methsOk C cb.meths = true
  m4 : (cb.meths.map (·.name)).Nodup
  m5 : tabM C cb.meths = some tM
  m6 : C.meths.lookup ("__init__" : Str) = some 0
  m7 : attrName 0 ∈ cb.withCmp.quiet ∧ attrName 1 ∈ cb.withCmp.quiet
  at0 : C.attrs = attrNames
  cln : Clean C
theorem book_walk {v p : Program} {loose : List Str} {w : World} {s₁ : Shared} {mean : ExcName → Option Value} {mg mb : Str → Option Value} {C : Ctx} {tM tF : List (Nat × Fn)} {base : List (Str × V)} {ex : List Ex} {cl : Cls → Value} {kn : List Cls} {cb : ClsRec} {pa la : Addr} {pt : List (Nat × Nat)} {lt : List Nat} {a fa : Addr} {ns : List Int} {d k : Nat}
    (BL : BookLaw v loose C tM tF base ex cl kn cb) (T : Top v loose mean mg mb s₁.heap) (TE : TopE v loose mg s₁.heap) (Y : Says w.params pa la pt lt (ex.map fun q => (q.name, q.a, .ref q.a :: q.bm)) s₁.heap) (hpt : pt.length = 8) (hlt : lt.length = 4) (hd : (pa == sysModules) = false)
    (hk : C.fns.find? (fun r => r.2 == k) = some (("law" : Str), k)) (hmg : mg ("law" : Str) = some (.ref fa)) (W : Well w.params s₁.heap (.ref a) (ofPy (.list (ns.map PyData.int)))) (hlen : ns.length ≤ 63) (hd1 : d ≤ 100)
    (hres : ∃ σ', callFn (fun k => (tM ++ tF).lookup k) d false k [.lst (ns.map V.int)] [] = .ok (.bool true) σ') :
    codeAny (model p w) callerA (.call (.ref fa) ⟨[.ref a], []⟩) (fun r s' => r = .ok (.ret (.bool true)) ∧ (∀ b o, s₁.heap.get? b = some o → s'.heap.get? b = some o) ∧ s'.os = s₁.os ∧ s'.gens = s₁.gens) s₁ := by
  obtain ⟨mg', N', e1, e2, e3, e4, e5⟩ := Y
  obtain rfl : mg' = mg := by rw [N'.eq_nsMap, T.g.eq_nsMap]
  obtain ⟨Cb, N, mN, hCb, P⟩ := TE cb BL.m1
  rw [BL.m2] at hCb
  have key : ∀ S : Stat, S.hb = s₁.heap → S.fn = fnAddr C mg' mN → S.hasParts = true → S.parts = .ref pa → S.prog = p → S.w = w → S.cl = cl → S.kn = kn → S.book = Cb → codeAny (model S.prog S.w) callerA (.call (.ref (S.fn k)) ⟨[.ref a], []⟩) (fun r s' => r = .ok (.ret (.bool true)) ∧ (∀ b o, s₁.heap.get? b = some o → s'.heap.get? b = some o) ∧ s'.os = s₁.os ∧ s'.gens = s₁.gens) s₁ := by
    intro S h1 h2 h3 h4 h5 h6 h7 h8 h9
    have TS : Top v loose mean mg' mb S.hb := h1 ▸ T
    have PS : PlainAt S.hb cb.withCmp Cb N mN := h1 ▸ P
    have hc : ∀ x u, C.consts.lookup x = some u → ∃ w, mg' x = some w ∧ VR S [] [] S.hb u w := fun x u h => by
      have hm := zAJ h
      rw [BL.hc] at hm
      rcases List.mem_append.mp hm with hm | hm
      · have := BL.hb _ hm
        cases this with
        | int i hv =>
          obtain ⟨u, e, r⟩ := T.const _ _ hv
          have := r S.hb
          cases this
          exact ⟨_, e, by rw [VR]; exact ⟨_, rfl⟩⟩
        | str y hv hl hk =>
          obtain ⟨u, e, r⟩ := T.const _ _ hv
          have := r S.hb
          cases this
          exact ⟨_, e, by rw [VR]; exact ⟨⟨_, rfl⟩, hl, hk⟩⟩
      · rcases List.mem_cons.mp hm with e | hm
        · cases e; exact ⟨_, e1, by rw [VR]; exact ⟨h3, h4.symm⟩⟩
        · cases List.mem_singleton.mp hm
          exact ⟨_, e3, lined_at hlt (h1 ▸ e4)⟩
    have hex : ∀ x c, C.excs.lookup x = some c → ∃ q ∈ ex, q.name = x ∧ q.c = c := fun x c h => by
      have hm := zAJ h
      rw [BL.hx] at hm
      obtain ⟨q, hq, e⟩ := List.mem_map.mp hm
      cases e
      exact ⟨q, hq, rfl, rfl⟩
    have fa0 : ∀ k fn, (tM ++ tF).lookup k = some fn → FnAt S C k fn := fun k fn h => by
      rcases List.mem_append.mp (zEY h) with hm | hm
      · exact methAt_of PS BL.m3 h2 BL.m4 BL.m5 k fn hm
      · exact fnAt_of TS BL.k2 h2 BL.k3 BL.k1 k fn hm
    have fs := facts_of (tab := tM ++ tF) TS BL.k2 h2 BL.k4 hc (fun _ => by rw [h9]; exact hCb) (.inr ⟨BL.at0, book_of PS h9 BL.m3 h2 BL.m6 BL.m7⟩)
      (fun x c h => by obtain ⟨q, hq, rfl, rfl⟩ := hex x c h; rw [h7, BL.hcl q hq]; exact .inl (e5 _ (List.mem_map_of_mem hq)).1)
      (fun x c h => by
        obtain ⟨q, hq, rfl, rfl⟩ := hex x c h
        have h5 := e5 _ (List.mem_map_of_mem hq)
        refine ⟨by rw [h8]; exact (BL.hkn q hq).1, fun _ => excCl_of TS (BL.hs q hq) h5.1 (h1 ▸ h5.2) (by rw [h7]; exact BL.hcl q hq) (by rw [h7, h8]; exact (BL.hkn q hq).2)⟩)
      (partsT_at hpt h4 hd (by rw [h1, h6]; exact e2)) (by rw [h4]; simp) fa0
    exact law_call fs BL.cln fa0 h1 hd1 (VR_script (P := w.params) (h1 ▸ W) (by simp only [LIM]; omega)) hres
  have := key ⟨p, w, s₁.heap, cl, Cb, .ref pa, true, fnAddr C mg' mN, kn⟩ rfl rfl rfl rfl rfl rfl rfl rfl rfl
  have ha : fnAddr C mg' mN k = fa := by unfold fnAddr; rw [hk]; simp only [hmg, refOf]
  simp only [ha] at this
  exact this
end Mine
end

/-! # Cut10 -/
section
open PySem PySem.W PyProof.Rows
set_option Elab.async false
set_option maxRecDepth 100000
set_option autoImplicit false
namespace Mine
noncomputable def pw10 : Program := PySem.Challenge.pw_uf040020_10
noncomputable def topS (i : Nat) : Stmt := (pw10.main.body)[i]?.getD (.Pass ⟨0,0,0,0⟩)
noncomputable def methS (i j : Nat) : Stmt := match topS i with
  | .ClassDef _ _ _ b _ _ _ _ _ _ _ => b[j]?.getD (.Pass ⟨0,0,0,0⟩)
  | s => s
noncomputable def sParams : Stmt → Arguments
  | .FunctionDef _ a _ _ _ _ _ _ _ _ => a
  | _ => ⟨[],[],none,[],[],none,[]⟩
noncomputable def sBody : Stmt → List Stmt
  | .FunctionDef _ _ b _ _ _ _ _ _ _ => b
  | _ => []
noncomputable def sScope : Stmt → Scope
  | .FunctionDef _ _ _ _ _ _ sc _ _ _ => sc
  | _ => pw10.main.scope
noncomputable def ky (P : Params) (c : Array Nat) (t : Nat) (v : Value) : DictEntry := ⟨PyData.keyHash P ⟨c⟩,.str ⟨c⟩ t,v⟩
noncomputable def fo (c : Value) (a b : Array Nat) (S : Stmt) (g : Addr) (pm cd : Value) : Obj := { cls := c,dict := none,data := .func { name := ⟨a⟩,qualname := ⟨b⟩,params := sParams S,body := .stmts (sBody S),scope := sScope S,globals := g,closure := [],defaults := .none,kwdefaults := .none,doc := .none,pyModule := pm,annotations := none,code := cd,closureTuple := .none,builtins := 0 },slots := #[] }
noncomputable def ob (c : Value) (d : Data) : Obj := { cls := c,dict := none,data := d,slots := #[] }
noncomputable def o10_3_0 (P : Params) : Obj := { cls := (.type "dict"),dict := none,data := (.dict #[(ky P #[95,95,110,97,109,101,95,95] 165 (.str ⟨#[111,114,100,101,114,102,108,111,119,46,101,114,114,111,114,115]⟩ 194)),(ky P #[95,95,100,111,99,95,95] 166 .none),(ky P #[95,95,112,97,99,107,97,103,101,95,95] 167 .none),(ky P #[95,95,108,111,97,100,101,114,95,95] 168 (.builtin "__main__.__loader__#opaque")),(ky P #[95,95,115,112,101,99,95,95] 169 .none),(ky P #[95,95,97,110,110,111,116,97,116,105,111,110,115,95,95] 170 (.ref 6)),(ky P #[95,95,98,117,105,108,116,105,110,115,95,95] 171 (.ref 4)),(ky P #[95,95,102,105,108,101,95,95] 173 (.str ⟨#[47,99,108,97,105,109,47,99,117,116,46,112,121]⟩ 172)),(ky P #[95,95,99,97,99,104,101,100,95,95] 174 .none),(ky P #[95,119,97,108,108] 193 (.ref 21)),(ky P #[70,108,111,119,69,114,114,111,114] 213 (.ref 31)),(ky P #[78,111,68,101,101,100] 229 (.ref 44)),(ky P #[78,111,76,105,110,101,115] 245 (.ref 56))] 13),slots := #[] }
noncomputable def o10_12_0 (P : Params) : Obj := { cls := .none,dict := none,data := (.fields #[(.int (1) 0),(.int (0) 0),(.ref 20),(.int (5) 0),(.int (0) 0),(.ref 27),(.int (7) 0),(.int (0) 0),(.ref 40),(.int (9) 0),(.int (0) 0),(.ref 52)]),slots := #[] }
noncomputable def zCh (P : Params) : Obj := { cls := (.type "code"),dict := none,data := (.fields #[(.str ⟨#[60,109,111,100,117,108,101,62]⟩ 182),(.str ⟨#[60,109,111,100,117,108,101,62]⟩ 183),(.str ⟨#[47,99,108,97,105,109,47,99,117,116,46,112,121]⟩ 184),(.int (1) 0),(.int (0) 0),(.int (0) 0),(.int (0) 0),(.int (0) 0),(.ref 11),(.bool false),(.int (181) 0),(.ref 12),.none,.none,.none,.none,(.int (185) 0),(.int (1) 0),(.str ⟨#[47,99,108,97,105,109,47,99,117,116,46,112,121]⟩ 186)]),slots := #[] }
noncomputable def zCg (P : Params) : Obj := { cls := (.type "frame"),dict := none,data := .plain,slots := #[(some (.ref 13)),(some (.ref 3)),(some (.ref 3)),none,(some (.str ⟨#[95,95,109,97,105,110,95,95]⟩ 164)),none,(some (.ref 0))] }
noncomputable def zCf (P : Params) : Obj := ob (.type "tuple") (.seq #[(.str ⟨#[107]⟩ 190)] 0)
noncomputable def zCe (P : Params) : Obj := fo .none #[95,119,97,108,108] #[95,119,97,108,108] (topS 0) 0 .none .none
noncomputable def zCd (P : Params) : Obj := { cls := (.type "code"),dict := none,data := (.fields #[(.str ⟨#[95,119,97,108,108]⟩ 187),(.str ⟨#[95,119,97,108,108]⟩ 188),(.str ⟨#[47,99,108,97,105,109,47,99,117,116,46,112,121]⟩ 189),(.int (1) 0),(.int (1) 0),(.int (0) 0),(.int (0) 0),(.int (3) 0),(.ref 15),(.bool true),(.int (181) 0),(.ref 16),.none,(.ref 17),(.ref 18),(.ref 19),(.int (191) 0),(.int (1) 0),(.str ⟨#[47,99,108,97,105,109,47,99,117,116,46,112,121]⟩ 192)]),slots := #[] }
noncomputable def zCc (P : Params) : Obj := fo (.type "function") #[95,119,97,108,108] #[95,119,97,108,108] (topS 0) 3 (.str ⟨#[95,95,109,97,105,110,95,95]⟩ 164) (.ref 20)
noncomputable def zCb (P : Params) : Obj := ob (.type "tuple") (.seq #[(.type "ValueError")] 0)
noncomputable def zAE (P : Params) : Obj := ob (.type "builtin_function_or_method") (.fields #[(.builtin "type.__prepare__"),(.type "type")])
noncomputable def zCa (P : Params) : Obj := { cls := (.type "dict"),dict := none,data := (.dict #[(ky P #[95,95,109,111,100,117,108,101,95,95] 203 (.str ⟨#[111,114,100,101,114,102,108,111,119,46,101,114,114,111,114,115]⟩ 194)),(ky P #[95,95,113,117,97,108,110,97,109,101,95,95] 205 (.str ⟨#[70,108,111,119,69,114,114,111,114]⟩ 204)),(ky P #[95,95,102,105,114,115,116,108,105,110,101,110,111,95,95] 207 (.int (5) 206)),(ky P #[95,95,115,116,97,116,105,99,95,97,116,116,114,105,98,117,116,101,115,95,95] 208 (.ref 29))] 4),slots := #[] }
noncomputable def zCZ (P : Params) : Obj := { cls := (.type "code"),dict := none,data := (.fields #[(.str ⟨#[70,108,111,119,69,114,114,111,114]⟩ 198),(.str ⟨#[70,108,111,119,69,114,114,111,114]⟩ 199),(.str ⟨#[47,99,108,97,105,109,47,99,117,116,46,112,121]⟩ 200),(.int (5) 0),(.int (0) 0),(.int (0) 0),(.int (0) 0),(.int (0) 0),(.ref 25),(.bool false),(.int (181) 0),(.ref 26),.none,.none,.none,.none,(.int (201) 0),(.int (5) 0),(.str ⟨#[47,99,108,97,105,109,47,99,117,116,46,112,121]⟩ 202)]),slots := #[] }
noncomputable def zCY (P : Params) : Obj := { cls := (.type "frame"),dict := none,data := .plain,slots := #[(some (.ref 27)),(some (.ref 3)),(some (.ref 24)),none,(some (.str ⟨#[111,114,100,101,114,102,108,111,119,46,101,114,114,111,114,115]⟩ 194)),none,(some (.ref 0))] }
noncomputable def zCX (P : Params) : Obj := { cls := (.type "dict"),dict := none,data := (.dict #[(ky P #[95,95,109,111,100,117,108,101,95,95] 203 (.str ⟨#[111,114,100,101,114,102,108,111,119,46,101,114,114,111,114,115]⟩ 194)),(ky P #[95,95,102,105,114,115,116,108,105,110,101,110,111,95,95] 207 (.int (5) 206)),(ky P #[95,95,115,116,97,116,105,99,95,97,116,116,114,105,98,117,116,101,115,95,95] 208 (.ref 29)),(ky P #[95,95,119,101,97,107,114,101,102,95,95] 210 (.ref 32)),(ky P #[95,95,100,111,99,95,95] 211 .none)] 3),slots := #[] }
noncomputable def o10_31_0 (P : Params) : Obj := { cls := (.type "type"),dict := none,data := (.cls { name := ⟨#[70,108,111,119,69,114,114,111,114]⟩,bases := [(.type "ValueError")],mro := [(.ref 31),(.type "ValueError"),(.type "Exception"),(.type "BaseException"),(.type "object")],ns := 30,qualname := ⟨#[70,108,111,119,69,114,114,111,114]⟩,hasDict := true,slotNames := [],subclasses := [(.ref 44),(.ref 56)],abstract := false,collection := none,hasDel := false }),slots := #[(some (.ref 22)),none,(some (.str ⟨#[70,108,111,119,69,114,114,111,114]⟩ 196)),(some (.str ⟨#[70,108,111,119,69,114,114,111,114]⟩ 204)),(some (.builtin "ValueError.__new__")),(some (.bool true))] }
noncomputable def zCW (P : Params) : Obj := ob (.type "getset_descriptor") (.fields #[(.str ⟨#[95,95,119,101,97,107,114,101,102,95,95]⟩ 209),(.ref 31),(.builtin "ExceptionGroup.__weakref__"),.none])
noncomputable def zCV (P : Params) : Obj := ob (.type "super") (.fields #[(.ref 31),(.ref 31),(.ref 31)])
noncomputable def zCU (P : Params) : Obj := ob (.type "builtin_function_or_method") (.fields #[(.builtin "object.__init_subclass__"),(.ref 31)])
noncomputable def zAI (P : Params) : Obj := ob (.type "tuple") (.seq #[(.ref 31)] 0)
noncomputable def zCT (P : Params) : Obj := { cls := (.type "dict"),dict := none,data := (.dict #[(ky P #[95,95,109,111,100,117,108,101,95,95] 221 (.str ⟨#[111,114,100,101,114,102,108,111,119,46,101,114,114,111,114,115]⟩ 194)),(ky P #[95,95,113,117,97,108,110,97,109,101,95,95] 223 (.str ⟨#[78,111,68,101,101,100]⟩ 222)),(ky P #[95,95,102,105,114,115,116,108,105,110,101,110,111,95,95] 225 (.int (7) 224)),(ky P #[95,95,115,116,97,116,105,99,95,97,116,116,114,105,98,117,116,101,115,95,95] 226 (.ref 42))] 4),slots := #[] }
noncomputable def zCS (P : Params) : Obj := { cls := (.type "code"),dict := none,data := (.fields #[(.str ⟨#[78,111,68,101,101,100]⟩ 216),(.str ⟨#[78,111,68,101,101,100]⟩ 217),(.str ⟨#[47,99,108,97,105,109,47,99,117,116,46,112,121]⟩ 218),(.int (7) 0),(.int (0) 0),(.int (0) 0),(.int (0) 0),(.int (0) 0),(.ref 38),(.bool false),(.int (181) 0),(.ref 39),.none,.none,.none,.none,(.int (219) 0),(.int (7) 0),(.str ⟨#[47,99,108,97,105,109,47,99,117,116,46,112,121]⟩ 220)]),slots := #[] }
noncomputable def zCR (P : Params) : Obj := { cls := (.type "frame"),dict := none,data := .plain,slots := #[(some (.ref 40)),(some (.ref 3)),(some (.ref 37)),none,(some (.str ⟨#[111,114,100,101,114,102,108,111,119,46,101,114,114,111,114,115]⟩ 194)),none,(some (.ref 0))] }
noncomputable def zCQ (P : Params) : Obj := { cls := (.type "dict"),dict := none,data := (.dict #[(ky P #[95,95,109,111,100,117,108,101,95,95] 221 (.str ⟨#[111,114,100,101,114,102,108,111,119,46,101,114,114,111,114,115]⟩ 194)),(ky P #[95,95,102,105,114,115,116,108,105,110,101,110,111,95,95] 225 (.int (7) 224)),(ky P #[95,95,115,116,97,116,105,99,95,97,116,116,114,105,98,117,116,101,115,95,95] 226 (.ref 42)),(ky P #[95,95,100,111,99,95,95] 227 .none)] 2),slots := #[] }
noncomputable def zCP (P : Params) : Obj := { cls := (.type "type"),dict := none,data := (.cls { name := ⟨#[78,111,68,101,101,100]⟩,bases := [(.ref 31)],mro := [(.ref 44),(.ref 31),(.type "ValueError"),(.type "Exception"),(.type "BaseException"),(.type "object")],ns := 43,qualname := ⟨#[78,111,68,101,101,100]⟩,hasDict := true,slotNames := [],subclasses := [],abstract := false,collection := none,hasDel := false }),slots := #[(some (.ref 35)),none,(some (.str ⟨#[78,111,68,101,101,100]⟩ 214)),(some (.str ⟨#[78,111,68,101,101,100]⟩ 222)),(some (.builtin "ValueError.__new__")),(some (.bool true))] }
noncomputable def zCO (P : Params) : Obj := ob (.type "super") (.fields #[(.ref 44),(.ref 44),(.ref 44)])
noncomputable def zCN (P : Params) : Obj := ob (.type "builtin_function_or_method") (.fields #[(.builtin "object.__init_subclass__"),(.ref 44)])
noncomputable def zCM (P : Params) : Obj := { cls := (.type "dict"),dict := none,data := (.dict #[(ky P #[95,95,109,111,100,117,108,101,95,95] 237 (.str ⟨#[111,114,100,101,114,102,108,111,119,46,101,114,114,111,114,115]⟩ 194)),(ky P #[95,95,113,117,97,108,110,97,109,101,95,95] 239 (.str ⟨#[78,111,76,105,110,101,115]⟩ 238)),(ky P #[95,95,102,105,114,115,116,108,105,110,101,110,111,95,95] 241 (.int (9) 240)),(ky P #[95,95,115,116,97,116,105,99,95,97,116,116,114,105,98,117,116,101,115,95,95] 242 (.ref 54))] 4),slots := #[] }
noncomputable def zCL (P : Params) : Obj := { cls := (.type "code"),dict := none,data := (.fields #[(.str ⟨#[78,111,76,105,110,101,115]⟩ 232),(.str ⟨#[78,111,76,105,110,101,115]⟩ 233),(.str ⟨#[47,99,108,97,105,109,47,99,117,116,46,112,121]⟩ 234),(.int (9) 0),(.int (0) 0),(.int (0) 0),(.int (0) 0),(.int (0) 0),(.ref 50),(.bool false),(.int (181) 0),(.ref 51),.none,.none,.none,.none,(.int (235) 0),(.int (9) 0),(.str ⟨#[47,99,108,97,105,109,47,99,117,116,46,112,121]⟩ 236)]),slots := #[] }
noncomputable def zCK (P : Params) : Obj := { cls := (.type "frame"),dict := none,data := .plain,slots := #[(some (.ref 52)),(some (.ref 3)),(some (.ref 49)),none,(some (.str ⟨#[111,114,100,101,114,102,108,111,119,46,101,114,114,111,114,115]⟩ 194)),none,(some (.ref 0))] }
noncomputable def zCJ (P : Params) : Obj := { cls := (.type "dict"),dict := none,data := (.dict #[(ky P #[95,95,109,111,100,117,108,101,95,95] 237 (.str ⟨#[111,114,100,101,114,102,108,111,119,46,101,114,114,111,114,115]⟩ 194)),(ky P #[95,95,102,105,114,115,116,108,105,110,101,110,111,95,95] 241 (.int (9) 240)),(ky P #[95,95,115,116,97,116,105,99,95,97,116,116,114,105,98,117,116,101,115,95,95] 242 (.ref 54)),(ky P #[95,95,100,111,99,95,95] 243 .none)] 2),slots := #[] }
noncomputable def zCI (P : Params) : Obj := { cls := (.type "type"),dict := none,data := (.cls { name := ⟨#[78,111,76,105,110,101,115]⟩,bases := [(.ref 31)],mro := [(.ref 56),(.ref 31),(.type "ValueError"),(.type "Exception"),(.type "BaseException"),(.type "object")],ns := 55,qualname := ⟨#[78,111,76,105,110,101,115]⟩,hasDict := true,slotNames := [],subclasses := [],abstract := false,collection := none,hasDel := false }),slots := #[(some (.ref 47)),none,(some (.str ⟨#[78,111,76,105,110,101,115]⟩ 230)),(some (.str ⟨#[78,111,76,105,110,101,115]⟩ 238)),(some (.builtin "ValueError.__new__")),(some (.bool true))] }
noncomputable def zCH (P : Params) : Obj := ob (.type "super") (.fields #[(.ref 56),(.ref 56),(.ref 56)])
noncomputable def zCG (P : Params) : Obj := ob (.type "builtin_function_or_method") (.fields #[(.builtin "object.__init_subclass__"),(.ref 56)])
noncomputable def h10_0 (P : Params) : Heap := ⟨⟨[boot_o_0 P,boot_o_1 P,boot_o_2 P,o10_3_0 P,boot_o_4 P,boot_o_5 P,boot_o_6 P,boot_o_7 P,boot_o_8 P,boot_o_9 P,boot_o_10 P,boot_o_7 P,o10_12_0 P,zCh P,zCg P,boot_o_7 P,boot_o_8 P,zCf P,boot_o_7 P,zCe P,zCd P,zCc P,zCb P,zAE P,zCa P,boot_o_7 P,boot_o_8 P,zCZ P,zCY P,boot_o_7 P,zCX P,o10_31_0 P,zCW P,zCV P,zCU P,zAI P,zAE P,zCT P,boot_o_7 P,boot_o_8 P,zCS P,zCR P,boot_o_7 P,zCQ P,zCP P,zCO P,zCN P,zAI P,zAE P,zCM P,boot_o_7 P,boot_o_8 P,zCL P,zCK P,boot_o_7 P,zCJ P,zCI P,zCH P,zCG P]⟩,{ registered := [],finalised := [],alive := [],known := 0,ids := [],orphanDicts := [],counting := false,cnt := #[],zero := [],soft := 0,below := false,collecting := false }⟩
noncomputable def s10_0 (w : World) (os : OsState) : Shared := ⟨h10_0 w.params,#[],⟨0,0,0,0⟩,246,os⟩
noncomputable def o10_3_1 (P : Params) : Obj := { cls := (.type "dict"),dict := none,data := (.dict #[(ky P #[95,95,110,97,109,101,95,95] 165 (.str ⟨#[111,114,100,101,114,102,108,111,119,46,101,114,114,111,114,115]⟩ 194)),(ky P #[95,95,100,111,99,95,95] 166 .none),(ky P #[95,95,112,97,99,107,97,103,101,95,95] 167 .none),(ky P #[95,95,108,111,97,100,101,114,95,95] 168 (.builtin "__main__.__loader__#opaque")),(ky P #[95,95,115,112,101,99,95,95] 169 .none),(ky P #[95,95,97,110,110,111,116,97,116,105,111,110,115,95,95] 170 (.ref 6)),(ky P #[95,95,98,117,105,108,116,105,110,115,95,95] 171 (.ref 4)),(ky P #[95,95,102,105,108,101,95,95] 173 (.str ⟨#[47,99,108,97,105,109,47,99,117,116,46,112,121]⟩ 172)),(ky P #[95,95,99,97,99,104,101,100,95,95] 174 .none),(ky P #[95,119,97,108,108] 193 (.ref 21)),(ky P #[70,108,111,119,69,114,114,111,114] 213 (.ref 31)),(ky P #[78,111,68,101,101,100] 229 (.ref 44)),(ky P #[78,111,76,105,110,101,115] 245 (.ref 56)),(ky P #[78,111,73,116,101,109] 261 (.ref 68)),(ky P #[78,111,78,117,109,98,101,114] 277 (.ref 80)),(ky P #[70,117,108,108,66,111,111,107] 293 (.ref 92)),(ky P #[78,111,79,114,100,101,114] 309 (.ref 104))] 17),slots := #[] }
noncomputable def o10_12_1 (P : Params) : Obj := { cls := .none,dict := none,data := (.fields #[(.int (1) 0),(.int (0) 0),(.ref 20),(.int (5) 0),(.int (0) 0),(.ref 27),(.int (7) 0),(.int (0) 0),(.ref 40),(.int (9) 0),(.int (0) 0),(.ref 52),(.int (11) 0),(.int (0) 0),(.ref 64),(.int (13) 0),(.int (0) 0),(.ref 76),(.int (15) 0),(.int (0) 0),(.ref 88),(.int (17) 0),(.int (0) 0),(.ref 100)]),slots := #[] }
noncomputable def o10_31_1 (P : Params) : Obj := { cls := (.type "type"),dict := none,data := (.cls { name := ⟨#[70,108,111,119,69,114,114,111,114]⟩,bases := [(.type "ValueError")],mro := [(.ref 31),(.type "ValueError"),(.type "Exception"),(.type "BaseException"),(.type "object")],ns := 30,qualname := ⟨#[70,108,111,119,69,114,114,111,114]⟩,hasDict := true,slotNames := [],subclasses := [(.ref 44),(.ref 56),(.ref 68),(.ref 80),(.ref 92),(.ref 104)],abstract := false,collection := none,hasDel := false }),slots := #[(some (.ref 22)),none,(some (.str ⟨#[70,108,111,119,69,114,114,111,114]⟩ 196)),(some (.str ⟨#[70,108,111,119,69,114,114,111,114]⟩ 204)),(some (.builtin "ValueError.__new__")),(some (.bool true))] }
noncomputable def zDo (P : Params) : Obj := { cls := (.type "dict"),dict := none,data := (.dict #[(ky P #[95,95,109,111,100,117,108,101,95,95] 253 (.str ⟨#[111,114,100,101,114,102,108,111,119,46,101,114,114,111,114,115]⟩ 194)),(ky P #[95,95,113,117,97,108,110,97,109,101,95,95] 255 (.str ⟨#[78,111,73,116,101,109]⟩ 254)),(ky P #[95,95,102,105,114,115,116,108,105,110,101,110,111,95,95] 257 (.int (11) 256)),(ky P #[95,95,115,116,97,116,105,99,95,97,116,116,114,105,98,117,116,101,115,95,95] 258 (.ref 66))] 4),slots := #[] }
noncomputable def zDn (P : Params) : Obj := { cls := (.type "code"),dict := none,data := (.fields #[(.str ⟨#[78,111,73,116,101,109]⟩ 248),(.str ⟨#[78,111,73,116,101,109]⟩ 249),(.str ⟨#[47,99,108,97,105,109,47,99,117,116,46,112,121]⟩ 250),(.int (11) 0),(.int (0) 0),(.int (0) 0),(.int (0) 0),(.int (0) 0),(.ref 62),(.bool false),(.int (181) 0),(.ref 63),.none,.none,.none,.none,(.int (251) 0),(.int (11) 0),(.str ⟨#[47,99,108,97,105,109,47,99,117,116,46,112,121]⟩ 252)]),slots := #[] }
noncomputable def zDm (P : Params) : Obj := { cls := (.type "frame"),dict := none,data := .plain,slots := #[(some (.ref 64)),(some (.ref 3)),(some (.ref 61)),none,(some (.str ⟨#[111,114,100,101,114,102,108,111,119,46,101,114,114,111,114,115]⟩ 194)),none,(some (.ref 0))] }
noncomputable def zDl (P : Params) : Obj := { cls := (.type "dict"),dict := none,data := (.dict #[(ky P #[95,95,109,111,100,117,108,101,95,95] 253 (.str ⟨#[111,114,100,101,114,102,108,111,119,46,101,114,114,111,114,115]⟩ 194)),(ky P #[95,95,102,105,114,115,116,108,105,110,101,110,111,95,95] 257 (.int (11) 256)),(ky P #[95,95,115,116,97,116,105,99,95,97,116,116,114,105,98,117,116,101,115,95,95] 258 (.ref 66)),(ky P #[95,95,100,111,99,95,95] 259 .none)] 2),slots := #[] }
noncomputable def zDk (P : Params) : Obj := { cls := (.type "type"),dict := none,data := (.cls { name := ⟨#[78,111,73,116,101,109]⟩,bases := [(.ref 31)],mro := [(.ref 68),(.ref 31),(.type "ValueError"),(.type "Exception"),(.type "BaseException"),(.type "object")],ns := 67,qualname := ⟨#[78,111,73,116,101,109]⟩,hasDict := true,slotNames := [],subclasses := [],abstract := false,collection := none,hasDel := false }),slots := #[(some (.ref 59)),none,(some (.str ⟨#[78,111,73,116,101,109]⟩ 246)),(some (.str ⟨#[78,111,73,116,101,109]⟩ 254)),(some (.builtin "ValueError.__new__")),(some (.bool true))] }
noncomputable def zDj (P : Params) : Obj := ob (.type "super") (.fields #[(.ref 68),(.ref 68),(.ref 68)])
noncomputable def zDi (P : Params) : Obj := ob (.type "builtin_function_or_method") (.fields #[(.builtin "object.__init_subclass__"),(.ref 68)])
noncomputable def zDh (P : Params) : Obj := { cls := (.type "dict"),dict := none,data := (.dict #[(ky P #[95,95,109,111,100,117,108,101,95,95] 269 (.str ⟨#[111,114,100,101,114,102,108,111,119,46,101,114,114,111,114,115]⟩ 194)),(ky P #[95,95,113,117,97,108,110,97,109,101,95,95] 271 (.str ⟨#[78,111,78,117,109,98,101,114]⟩ 270)),(ky P #[95,95,102,105,114,115,116,108,105,110,101,110,111,95,95] 273 (.int (13) 272)),(ky P #[95,95,115,116,97,116,105,99,95,97,116,116,114,105,98,117,116,101,115,95,95] 274 (.ref 78))] 4),slots := #[] }
noncomputable def zDg (P : Params) : Obj := { cls := (.type "code"),dict := none,data := (.fields #[(.str ⟨#[78,111,78,117,109,98,101,114]⟩ 264),(.str ⟨#[78,111,78,117,109,98,101,114]⟩ 265),(.str ⟨#[47,99,108,97,105,109,47,99,117,116,46,112,121]⟩ 266),(.int (13) 0),(.int (0) 0),(.int (0) 0),(.int (0) 0),(.int (0) 0),(.ref 74),(.bool false),(.int (181) 0),(.ref 75),.none,.none,.none,.none,(.int (267) 0),(.int (13) 0),(.str ⟨#[47,99,108,97,105,109,47,99,117,116,46,112,121]⟩ 268)]),slots := #[] }
noncomputable def zDf (P : Params) : Obj := { cls := (.type "frame"),dict := none,data := .plain,slots := #[(some (.ref 76)),(some (.ref 3)),(some (.ref 73)),none,(some (.str ⟨#[111,114,100,101,114,102,108,111,119,46,101,114,114,111,114,115]⟩ 194)),none,(some (.ref 0))] }
noncomputable def zDe (P : Params) : Obj := { cls := (.type "dict"),dict := none,data := (.dict #[(ky P #[95,95,109,111,100,117,108,101,95,95] 269 (.str ⟨#[111,114,100,101,114,102,108,111,119,46,101,114,114,111,114,115]⟩ 194)),(ky P #[95,95,102,105,114,115,116,108,105,110,101,110,111,95,95] 273 (.int (13) 272)),(ky P #[95,95,115,116,97,116,105,99,95,97,116,116,114,105,98,117,116,101,115,95,95] 274 (.ref 78)),(ky P #[95,95,100,111,99,95,95] 275 .none)] 2),slots := #[] }
noncomputable def zDd (P : Params) : Obj := { cls := (.type "type"),dict := none,data := (.cls { name := ⟨#[78,111,78,117,109,98,101,114]⟩,bases := [(.ref 31)],mro := [(.ref 80),(.ref 31),(.type "ValueError"),(.type "Exception"),(.type "BaseException"),(.type "object")],ns := 79,qualname := ⟨#[78,111,78,117,109,98,101,114]⟩,hasDict := true,slotNames := [],subclasses := [],abstract := false,collection := none,hasDel := false }),slots := #[(some (.ref 71)),none,(some (.str ⟨#[78,111,78,117,109,98,101,114]⟩ 262)),(some (.str ⟨#[78,111,78,117,109,98,101,114]⟩ 270)),(some (.builtin "ValueError.__new__")),(some (.bool true))] }
noncomputable def zDc (P : Params) : Obj := ob (.type "super") (.fields #[(.ref 80),(.ref 80),(.ref 80)])
noncomputable def zDb (P : Params) : Obj := ob (.type "builtin_function_or_method") (.fields #[(.builtin "object.__init_subclass__"),(.ref 80)])
noncomputable def zDa (P : Params) : Obj := { cls := (.type "dict"),dict := none,data := (.dict #[(ky P #[95,95,109,111,100,117,108,101,95,95] 285 (.str ⟨#[111,114,100,101,114,102,108,111,119,46,101,114,114,111,114,115]⟩ 194)),(ky P #[95,95,113,117,97,108,110,97,109,101,95,95] 287 (.str ⟨#[70,117,108,108,66,111,111,107]⟩ 286)),(ky P #[95,95,102,105,114,115,116,108,105,110,101,110,111,95,95] 289 (.int (15) 288)),(ky P #[95,95,115,116,97,116,105,99,95,97,116,116,114,105,98,117,116,101,115,95,95] 290 (.ref 90))] 4),slots := #[] }
noncomputable def zDZ (P : Params) : Obj := { cls := (.type "code"),dict := none,data := (.fields #[(.str ⟨#[70,117,108,108,66,111,111,107]⟩ 280),(.str ⟨#[70,117,108,108,66,111,111,107]⟩ 281),(.str ⟨#[47,99,108,97,105,109,47,99,117,116,46,112,121]⟩ 282),(.int (15) 0),(.int (0) 0),(.int (0) 0),(.int (0) 0),(.int (0) 0),(.ref 86),(.bool false),(.int (181) 0),(.ref 87),.none,.none,.none,.none,(.int (283) 0),(.int (15) 0),(.str ⟨#[47,99,108,97,105,109,47,99,117,116,46,112,121]⟩ 284)]),slots := #[] }
noncomputable def zDY (P : Params) : Obj := { cls := (.type "frame"),dict := none,data := .plain,slots := #[(some (.ref 88)),(some (.ref 3)),(some (.ref 85)),none,(some (.str ⟨#[111,114,100,101,114,102,108,111,119,46,101,114,114,111,114,115]⟩ 194)),none,(some (.ref 0))] }
noncomputable def zDX (P : Params) : Obj := { cls := (.type "dict"),dict := none,data := (.dict #[(ky P #[95,95,109,111,100,117,108,101,95,95] 285 (.str ⟨#[111,114,100,101,114,102,108,111,119,46,101,114,114,111,114,115]⟩ 194)),(ky P #[95,95,102,105,114,115,116,108,105,110,101,110,111,95,95] 289 (.int (15) 288)),(ky P #[95,95,115,116,97,116,105,99,95,97,116,116,114,105,98,117,116,101,115,95,95] 290 (.ref 90)),(ky P #[95,95,100,111,99,95,95] 291 .none)] 2),slots := #[] }
noncomputable def zDW (P : Params) : Obj := { cls := (.type "type"),dict := none,data := (.cls { name := ⟨#[70,117,108,108,66,111,111,107]⟩,bases := [(.ref 31)],mro := [(.ref 92),(.ref 31),(.type "ValueError"),(.type "Exception"),(.type "BaseException"),(.type "object")],ns := 91,qualname := ⟨#[70,117,108,108,66,111,111,107]⟩,hasDict := true,slotNames := [],subclasses := [],abstract := false,collection := none,hasDel := false }),slots := #[(some (.ref 83)),none,(some (.str ⟨#[70,117,108,108,66,111,111,107]⟩ 278)),(some (.str ⟨#[70,117,108,108,66,111,111,107]⟩ 286)),(some (.builtin "ValueError.__new__")),(some (.bool true))] }
noncomputable def zDV (P : Params) : Obj := ob (.type "super") (.fields #[(.ref 92),(.ref 92),(.ref 92)])
noncomputable def zDU (P : Params) : Obj := ob (.type "builtin_function_or_method") (.fields #[(.builtin "object.__init_subclass__"),(.ref 92)])
noncomputable def zDT (P : Params) : Obj := { cls := (.type "dict"),dict := none,data := (.dict #[(ky P #[95,95,109,111,100,117,108,101,95,95] 301 (.str ⟨#[111,114,100,101,114,102,108,111,119,46,101,114,114,111,114,115]⟩ 194)),(ky P #[95,95,113,117,97,108,110,97,109,101,95,95] 303 (.str ⟨#[78,111,79,114,100,101,114]⟩ 302)),(ky P #[95,95,102,105,114,115,116,108,105,110,101,110,111,95,95] 305 (.int (17) 304)),(ky P #[95,95,115,116,97,116,105,99,95,97,116,116,114,105,98,117,116,101,115,95,95] 306 (.ref 102))] 4),slots := #[] }
noncomputable def zCn (P : Params) : Obj := { cls := (.type "code"),dict := none,data := (.fields #[(.str ⟨#[78,111,79,114,100,101,114]⟩ 296),(.str ⟨#[78,111,79,114,100,101,114]⟩ 297),(.str ⟨#[47,99,108,97,105,109,47,99,117,116,46,112,121]⟩ 298),(.int (17) 0),(.int (0) 0),(.int (0) 0),(.int (0) 0),(.int (0) 0),(.ref 98),(.bool false),(.int (181) 0),(.ref 99),.none,.none,.none,.none,(.int (299) 0),(.int (17) 0),(.str ⟨#[47,99,108,97,105,109,47,99,117,116,46,112,121]⟩ 300)]),slots := #[] }
noncomputable def zCm (P : Params) : Obj := { cls := (.type "frame"),dict := none,data := .plain,slots := #[(some (.ref 100)),(some (.ref 3)),(some (.ref 97)),none,(some (.str ⟨#[111,114,100,101,114,102,108,111,119,46,101,114,114,111,114,115]⟩ 194)),none,(some (.ref 0))] }
noncomputable def zCl (P : Params) : Obj := { cls := (.type "dict"),dict := none,data := (.dict #[(ky P #[95,95,109,111,100,117,108,101,95,95] 301 (.str ⟨#[111,114,100,101,114,102,108,111,119,46,101,114,114,111,114,115]⟩ 194)),(ky P #[95,95,102,105,114,115,116,108,105,110,101,110,111,95,95] 305 (.int (17) 304)),(ky P #[95,95,115,116,97,116,105,99,95,97,116,116,114,105,98,117,116,101,115,95,95] 306 (.ref 102)),(ky P #[95,95,100,111,99,95,95] 307 .none)] 2),slots := #[] }
noncomputable def zCk (P : Params) : Obj := { cls := (.type "type"),dict := none,data := (.cls { name := ⟨#[78,111,79,114,100,101,114]⟩,bases := [(.ref 31)],mro := [(.ref 104),(.ref 31),(.type "ValueError"),(.type "Exception"),(.type "BaseException"),(.type "object")],ns := 103,qualname := ⟨#[78,111,79,114,100,101,114]⟩,hasDict := true,slotNames := [],subclasses := [],abstract := false,collection := none,hasDel := false }),slots := #[(some (.ref 95)),none,(some (.str ⟨#[78,111,79,114,100,101,114]⟩ 294)),(some (.str ⟨#[78,111,79,114,100,101,114]⟩ 302)),(some (.builtin "ValueError.__new__")),(some (.bool true))] }
noncomputable def zCj (P : Params) : Obj := ob (.type "super") (.fields #[(.ref 104),(.ref 104),(.ref 104)])
noncomputable def zCi (P : Params) : Obj := ob (.type "builtin_function_or_method") (.fields #[(.builtin "object.__init_subclass__"),(.ref 104)])
noncomputable def h10_1 (P : Params) : Heap := ⟨⟨[boot_o_0 P,boot_o_1 P,boot_o_2 P,o10_3_1 P,boot_o_4 P,boot_o_5 P,boot_o_6 P,boot_o_7 P,boot_o_8 P,boot_o_9 P,boot_o_10 P,boot_o_7 P,o10_12_1 P,zCh P,zCg P,boot_o_7 P,boot_o_8 P,zCf P,boot_o_7 P,zCe P,zCd P,zCc P,zCb P,zAE P,zCa P,boot_o_7 P,boot_o_8 P,zCZ P,zCY P,boot_o_7 P,zCX P,o10_31_1 P,zCW P,zCV P,zCU P,zAI P,zAE P,zCT P,boot_o_7 P,boot_o_8 P,zCS P,zCR P,boot_o_7 P,zCQ P,zCP P,zCO P,zCN P,zAI P,zAE P,zCM P,boot_o_7 P,boot_o_8 P,zCL P,zCK P,boot_o_7 P,zCJ P,zCI P,zCH P,zCG P,zAI P,zAE P,zDo P,boot_o_7 P,boot_o_8 P,zDn P,zDm P,boot_o_7 P,zDl P,zDk P,zDj P,zDi P,zAI P,zAE P,zDh P,boot_o_7 P,boot_o_8 P,zDg P,zDf P,boot_o_7 P,zDe P,zDd P,zDc P,zDb P,zAI P,zAE P,zDa P,boot_o_7 P,boot_o_8 P,zDZ P,zDY P,boot_o_7 P,zDX P,zDW P,zDV P,zDU P,zAI P,zAE P,zDT P,boot_o_7 P,boot_o_8 P,zCn P,zCm P,boot_o_7 P,zCl P,zCk P,zCj P,zCi P]⟩,{ registered := [],finalised := [],alive := [],known := 0,ids := [],orphanDicts := [],counting := false,cnt := #[],zero := [],soft := 0,below := false,collecting := false }⟩
noncomputable def s10_1 (w : World) (os : OsState) : Shared := ⟨h10_1 w.params,#[],⟨0,0,0,0⟩,310,os⟩
noncomputable def o10_3_2 (P : Params) : Obj := { cls := (.type "dict"),dict := none,data := (.dict #[(ky P #[95,95,110,97,109,101,95,95] 165 (.str ⟨#[111,114,100,101,114,102,108,111,119,46,101,114,114,111,114,115]⟩ 194)),(ky P #[95,95,100,111,99,95,95] 166 .none),(ky P #[95,95,112,97,99,107,97,103,101,95,95] 167 .none),(ky P #[95,95,108,111,97,100,101,114,95,95] 168 (.builtin "__main__.__loader__#opaque")),(ky P #[95,95,115,112,101,99,95,95] 169 .none),(ky P #[95,95,97,110,110,111,116,97,116,105,111,110,115,95,95] 170 (.ref 6)),(ky P #[95,95,98,117,105,108,116,105,110,115,95,95] 171 (.ref 4)),(ky P #[95,95,102,105,108,101,95,95] 173 (.str ⟨#[47,99,108,97,105,109,47,99,117,116,46,112,121]⟩ 172)),(ky P #[95,95,99,97,99,104,101,100,95,95] 174 .none),(ky P #[95,119,97,108,108] 193 (.ref 21)),(ky P #[70,108,111,119,69,114,114,111,114] 213 (.ref 31)),(ky P #[78,111,68,101,101,100] 229 (.ref 44)),(ky P #[78,111,76,105,110,101,115] 245 (.ref 56)),(ky P #[78,111,73,116,101,109] 261 (.ref 68)),(ky P #[78,111,78,117,109,98,101,114] 277 (.ref 80)),(ky P #[70,117,108,108,66,111,111,107] 293 (.ref 92)),(ky P #[78,111,79,114,100,101,114] 309 (.ref 104)),(ky P #[83,97,109,101,79,114,100,101,114] 325 (.ref 116)),(ky P #[78,111,76,105,110,101] 341 (.ref 128)),(ky P #[84,111,111,77,117,99,104] 357 (.ref 140))] 20),slots := #[] }
noncomputable def o10_12_2 (P : Params) : Obj := { cls := .none,dict := none,data := (.fields #[(.int (1) 0),(.int (0) 0),(.ref 20),(.int (5) 0),(.int (0) 0),(.ref 27),(.int (7) 0),(.int (0) 0),(.ref 40),(.int (9) 0),(.int (0) 0),(.ref 52),(.int (11) 0),(.int (0) 0),(.ref 64),(.int (13) 0),(.int (0) 0),(.ref 76),(.int (15) 0),(.int (0) 0),(.ref 88),(.int (17) 0),(.int (0) 0),(.ref 100),(.int (19) 0),(.int (0) 0),(.ref 112),(.int (21) 0),(.int (0) 0),(.ref 124),(.int (23) 0),(.int (0) 0),(.ref 136)]),slots := #[] }
noncomputable def o10_31_2 (P : Params) : Obj := { cls := (.type "type"),dict := none,data := (.cls { name := ⟨#[70,108,111,119,69,114,114,111,114]⟩,bases := [(.type "ValueError")],mro := [(.ref 31),(.type "ValueError"),(.type "Exception"),(.type "BaseException"),(.type "object")],ns := 30,qualname := ⟨#[70,108,111,119,69,114,114,111,114]⟩,hasDict := true,slotNames := [],subclasses := [(.ref 44),(.ref 56),(.ref 68),(.ref 80),(.ref 92),(.ref 104),(.ref 116),(.ref 128),(.ref 140)],abstract := false,collection := none,hasDel := false }),slots := #[(some (.ref 22)),none,(some (.str ⟨#[70,108,111,119,69,114,114,111,114]⟩ 196)),(some (.str ⟨#[70,108,111,119,69,114,114,111,114]⟩ 204)),(some (.builtin "ValueError.__new__")),(some (.bool true))] }
noncomputable def zET (P : Params) : Obj := { cls := (.type "dict"),dict := none,data := (.dict #[(ky P #[95,95,109,111,100,117,108,101,95,95] 317 (.str ⟨#[111,114,100,101,114,102,108,111,119,46,101,114,114,111,114,115]⟩ 194)),(ky P #[95,95,113,117,97,108,110,97,109,101,95,95] 319 (.str ⟨#[83,97,109,101,79,114,100,101,114]⟩ 318)),(ky P #[95,95,102,105,114,115,116,108,105,110,101,110,111,95,95] 321 (.int (19) 320)),(ky P #[95,95,115,116,97,116,105,99,95,97,116,116,114,105,98,117,116,101,115,95,95] 322 (.ref 114))] 4),slots := #[] }
noncomputable def zES (P : Params) : Obj := { cls := (.type "code"),dict := none,data := (.fields #[(.str ⟨#[83,97,109,101,79,114,100,101,114]⟩ 312),(.str ⟨#[83,97,109,101,79,114,100,101,114]⟩ 313),(.str ⟨#[47,99,108,97,105,109,47,99,117,116,46,112,121]⟩ 314),(.int (19) 0),(.int (0) 0),(.int (0) 0),(.int (0) 0),(.int (0) 0),(.ref 110),(.bool false),(.int (181) 0),(.ref 111),.none,.none,.none,.none,(.int (315) 0),(.int (19) 0),(.str ⟨#[47,99,108,97,105,109,47,99,117,116,46,112,121]⟩ 316)]),slots := #[] }
noncomputable def zER (P : Params) : Obj := { cls := (.type "frame"),dict := none,data := .plain,slots := #[(some (.ref 112)),(some (.ref 3)),(some (.ref 109)),none,(some (.str ⟨#[111,114,100,101,114,102,108,111,119,46,101,114,114,111,114,115]⟩ 194)),none,(some (.ref 0))] }
noncomputable def zEQ (P : Params) : Obj := { cls := (.type "dict"),dict := none,data := (.dict #[(ky P #[95,95,109,111,100,117,108,101,95,95] 317 (.str ⟨#[111,114,100,101,114,102,108,111,119,46,101,114,114,111,114,115]⟩ 194)),(ky P #[95,95,102,105,114,115,116,108,105,110,101,110,111,95,95] 321 (.int (19) 320)),(ky P #[95,95,115,116,97,116,105,99,95,97,116,116,114,105,98,117,116,101,115,95,95] 322 (.ref 114)),(ky P #[95,95,100,111,99,95,95] 323 .none)] 2),slots := #[] }
noncomputable def zEP (P : Params) : Obj := { cls := (.type "type"),dict := none,data := (.cls { name := ⟨#[83,97,109,101,79,114,100,101,114]⟩,bases := [(.ref 31)],mro := [(.ref 116),(.ref 31),(.type "ValueError"),(.type "Exception"),(.type "BaseException"),(.type "object")],ns := 115,qualname := ⟨#[83,97,109,101,79,114,100,101,114]⟩,hasDict := true,slotNames := [],subclasses := [],abstract := false,collection := none,hasDel := false }),slots := #[(some (.ref 107)),none,(some (.str ⟨#[83,97,109,101,79,114,100,101,114]⟩ 310)),(some (.str ⟨#[83,97,109,101,79,114,100,101,114]⟩ 318)),(some (.builtin "ValueError.__new__")),(some (.bool true))] }
noncomputable def zEO (P : Params) : Obj := ob (.type "super") (.fields #[(.ref 116),(.ref 116),(.ref 116)])
noncomputable def zEN (P : Params) : Obj := ob (.type "builtin_function_or_method") (.fields #[(.builtin "object.__init_subclass__"),(.ref 116)])
noncomputable def zEM (P : Params) : Obj := { cls := (.type "dict"),dict := none,data := (.dict #[(ky P #[95,95,109,111,100,117,108,101,95,95] 333 (.str ⟨#[111,114,100,101,114,102,108,111,119,46,101,114,114,111,114,115]⟩ 194)),(ky P #[95,95,113,117,97,108,110,97,109,101,95,95] 335 (.str ⟨#[78,111,76,105,110,101]⟩ 334)),(ky P #[95,95,102,105,114,115,116,108,105,110,101,110,111,95,95] 337 (.int (21) 336)),(ky P #[95,95,115,116,97,116,105,99,95,97,116,116,114,105,98,117,116,101,115,95,95] 338 (.ref 126))] 4),slots := #[] }
noncomputable def zEL (P : Params) : Obj := { cls := (.type "code"),dict := none,data := (.fields #[(.str ⟨#[78,111,76,105,110,101]⟩ 328),(.str ⟨#[78,111,76,105,110,101]⟩ 329),(.str ⟨#[47,99,108,97,105,109,47,99,117,116,46,112,121]⟩ 330),(.int (21) 0),(.int (0) 0),(.int (0) 0),(.int (0) 0),(.int (0) 0),(.ref 122),(.bool false),(.int (181) 0),(.ref 123),.none,.none,.none,.none,(.int (331) 0),(.int (21) 0),(.str ⟨#[47,99,108,97,105,109,47,99,117,116,46,112,121]⟩ 332)]),slots := #[] }
noncomputable def zEK (P : Params) : Obj := { cls := (.type "frame"),dict := none,data := .plain,slots := #[(some (.ref 124)),(some (.ref 3)),(some (.ref 121)),none,(some (.str ⟨#[111,114,100,101,114,102,108,111,119,46,101,114,114,111,114,115]⟩ 194)),none,(some (.ref 0))] }
noncomputable def zEJ (P : Params) : Obj := { cls := (.type "dict"),dict := none,data := (.dict #[(ky P #[95,95,109,111,100,117,108,101,95,95] 333 (.str ⟨#[111,114,100,101,114,102,108,111,119,46,101,114,114,111,114,115]⟩ 194)),(ky P #[95,95,102,105,114,115,116,108,105,110,101,110,111,95,95] 337 (.int (21) 336)),(ky P #[95,95,115,116,97,116,105,99,95,97,116,116,114,105,98,117,116,101,115,95,95] 338 (.ref 126)),(ky P #[95,95,100,111,99,95,95] 339 .none)] 2),slots := #[] }
noncomputable def zEI (P : Params) : Obj := { cls := (.type "type"),dict := none,data := (.cls { name := ⟨#[78,111,76,105,110,101]⟩,bases := [(.ref 31)],mro := [(.ref 128),(.ref 31),(.type "ValueError"),(.type "Exception"),(.type "BaseException"),(.type "object")],ns := 127,qualname := ⟨#[78,111,76,105,110,101]⟩,hasDict := true,slotNames := [],subclasses := [],abstract := false,collection := none,hasDel := false }),slots := #[(some (.ref 119)),none,(some (.str ⟨#[78,111,76,105,110,101]⟩ 326)),(some (.str ⟨#[78,111,76,105,110,101]⟩ 334)),(some (.builtin "ValueError.__new__")),(some (.bool true))] }
noncomputable def zEH (P : Params) : Obj := ob (.type "super") (.fields #[(.ref 128),(.ref 128),(.ref 128)])
noncomputable def zEG (P : Params) : Obj := ob (.type "builtin_function_or_method") (.fields #[(.builtin "object.__init_subclass__"),(.ref 128)])
noncomputable def zEF (P : Params) : Obj := { cls := (.type "dict"),dict := none,data := (.dict #[(ky P #[95,95,109,111,100,117,108,101,95,95] 349 (.str ⟨#[111,114,100,101,114,102,108,111,119,46,101,114,114,111,114,115]⟩ 194)),(ky P #[95,95,113,117,97,108,110,97,109,101,95,95] 351 (.str ⟨#[84,111,111,77,117,99,104]⟩ 350)),(ky P #[95,95,102,105,114,115,116,108,105,110,101,110,111,95,95] 353 (.int (23) 352)),(ky P #[95,95,115,116,97,116,105,99,95,97,116,116,114,105,98,117,116,101,115,95,95] 354 (.ref 138))] 4),slots := #[] }
noncomputable def zEE (P : Params) : Obj := { cls := (.type "code"),dict := none,data := (.fields #[(.str ⟨#[84,111,111,77,117,99,104]⟩ 344),(.str ⟨#[84,111,111,77,117,99,104]⟩ 345),(.str ⟨#[47,99,108,97,105,109,47,99,117,116,46,112,121]⟩ 346),(.int (23) 0),(.int (0) 0),(.int (0) 0),(.int (0) 0),(.int (0) 0),(.ref 134),(.bool false),(.int (181) 0),(.ref 135),.none,.none,.none,.none,(.int (347) 0),(.int (23) 0),(.str ⟨#[47,99,108,97,105,109,47,99,117,116,46,112,121]⟩ 348)]),slots := #[] }
noncomputable def zED (P : Params) : Obj := { cls := (.type "frame"),dict := none,data := .plain,slots := #[(some (.ref 136)),(some (.ref 3)),(some (.ref 133)),none,(some (.str ⟨#[111,114,100,101,114,102,108,111,119,46,101,114,114,111,114,115]⟩ 194)),none,(some (.ref 0))] }
noncomputable def zEC (P : Params) : Obj := { cls := (.type "dict"),dict := none,data := (.dict #[(ky P #[95,95,109,111,100,117,108,101,95,95] 349 (.str ⟨#[111,114,100,101,114,102,108,111,119,46,101,114,114,111,114,115]⟩ 194)),(ky P #[95,95,102,105,114,115,116,108,105,110,101,110,111,95,95] 353 (.int (23) 352)),(ky P #[95,95,115,116,97,116,105,99,95,97,116,116,114,105,98,117,116,101,115,95,95] 354 (.ref 138)),(ky P #[95,95,100,111,99,95,95] 355 .none)] 2),slots := #[] }
noncomputable def zEB (P : Params) : Obj := { cls := (.type "type"),dict := none,data := (.cls { name := ⟨#[84,111,111,77,117,99,104]⟩,bases := [(.ref 31)],mro := [(.ref 140),(.ref 31),(.type "ValueError"),(.type "Exception"),(.type "BaseException"),(.type "object")],ns := 139,qualname := ⟨#[84,111,111,77,117,99,104]⟩,hasDict := true,slotNames := [],subclasses := [],abstract := false,collection := none,hasDel := false }),slots := #[(some (.ref 131)),none,(some (.str ⟨#[84,111,111,77,117,99,104]⟩ 342)),(some (.str ⟨#[84,111,111,77,117,99,104]⟩ 350)),(some (.builtin "ValueError.__new__")),(some (.bool true))] }
noncomputable def zEA (P : Params) : Obj := ob (.type "super") (.fields #[(.ref 140),(.ref 140),(.ref 140)])
noncomputable def zDz (P : Params) : Obj := ob (.type "builtin_function_or_method") (.fields #[(.builtin "object.__init_subclass__"),(.ref 140)])
noncomputable def h10_2 (P : Params) : Heap := ⟨⟨[boot_o_0 P,boot_o_1 P,boot_o_2 P,o10_3_2 P,boot_o_4 P,boot_o_5 P,boot_o_6 P,boot_o_7 P,boot_o_8 P,boot_o_9 P,boot_o_10 P,boot_o_7 P,o10_12_2 P,zCh P,zCg P,boot_o_7 P,boot_o_8 P,zCf P,boot_o_7 P,zCe P,zCd P,zCc P,zCb P,zAE P,zCa P,boot_o_7 P,boot_o_8 P,zCZ P,zCY P,boot_o_7 P,zCX P,o10_31_2 P,zCW P,zCV P,zCU P,zAI P,zAE P,zCT P,boot_o_7 P,boot_o_8 P,zCS P,zCR P,boot_o_7 P,zCQ P,zCP P,zCO P,zCN P,zAI P,zAE P,zCM P,boot_o_7 P,boot_o_8 P,zCL P,zCK P,boot_o_7 P,zCJ P,zCI P,zCH P,zCG P,zAI P,zAE P,zDo P,boot_o_7 P,boot_o_8 P,zDn P,zDm P,boot_o_7 P,zDl P,zDk P,zDj P,zDi P,zAI P,zAE P,zDh P,boot_o_7 P,boot_o_8 P,zDg P,zDf P,boot_o_7 P,zDe P,zDd P,zDc P,zDb P,zAI P,zAE P,zDa P,boot_o_7 P,boot_o_8 P,zDZ P,zDY P,boot_o_7 P,zDX P,zDW P,zDV P,zDU P,zAI P,zAE P,zDT P,boot_o_7 P,boot_o_8 P,zCn P,zCm P,boot_o_7 P,zCl P,zCk P,zCj P,zCi P,zAI P,zAE P,zET P,boot_o_7 P,boot_o_8 P,zES P,zER P,boot_o_7 P,zEQ P,zEP P,zEO P,zEN P,zAI P,zAE P,zEM P,boot_o_7 P,boot_o_8 P,zEL P,zEK P,boot_o_7 P,zEJ P,zEI P,zEH P,zEG P,zAI P,zAE P,zEF P,boot_o_7 P,boot_o_8 P,zEE P,zED P,boot_o_7 P,zEC P,zEB P,zEA P,zDz P]⟩,{ registered := [],finalised := [],alive := [],known := 0,ids := [],orphanDicts := [],counting := false,cnt := #[],zero := [],soft := 0,below := false,collecting := false }⟩
noncomputable def s10_2 (w : World) (os : OsState) : Shared := ⟨h10_2 w.params,#[],⟨0,0,0,0⟩,358,os⟩
noncomputable def o10_3_3 (P : Params) : Obj := { cls := (.type "dict"),dict := none,data := (.dict #[(ky P #[95,95,110,97,109,101,95,95] 165 (.str ⟨#[111,114,100,101,114,102,108,111,119,46,98,111,111,107]⟩ 430)),(ky P #[95,95,100,111,99,95,95] 166 .none),(ky P #[95,95,112,97,99,107,97,103,101,95,95] 167 .none),(ky P #[95,95,108,111,97,100,101,114,95,95] 168 (.builtin "__main__.__loader__#opaque")),(ky P #[95,95,115,112,101,99,95,95] 169 .none),(ky P #[95,95,97,110,110,111,116,97,116,105,111,110,115,95,95] 170 (.ref 6)),(ky P #[95,95,98,117,105,108,116,105,110,115,95,95] 171 (.ref 4)),(ky P #[95,95,102,105,108,101,95,95] 173 (.str ⟨#[47,99,108,97,105,109,47,99,117,116,46,112,121]⟩ 172)),(ky P #[95,95,99,97,99,104,101,100,95,95] 174 .none),(ky P #[95,119,97,108,108] 193 (.ref 21)),(ky P #[70,108,111,119,69,114,114,111,114] 213 (.ref 31)),(ky P #[78,111,68,101,101,100] 229 (.ref 44)),(ky P #[78,111,76,105,110,101,115] 245 (.ref 56)),(ky P #[78,111,73,116,101,109] 261 (.ref 68)),(ky P #[78,111,78,117,109,98,101,114] 277 (.ref 80)),(ky P #[70,117,108,108,66,111,111,107] 293 (.ref 92)),(ky P #[78,111,79,114,100,101,114] 309 (.ref 104)),(ky P #[83,97,109,101,79,114,100,101,114] 325 (.ref 116)),(ky P #[78,111,76,105,110,101] 341 (.ref 128)),(ky P #[84,111,111,77,117,99,104] 357 (.ref 140)),(ky P #[76,69,84,84,69,82,83] 361 (.str ⟨#[97,98,99,100,101,102,103,104,105,106,107,108,109,110,111,112,113,114,115,116,117,118,119,120,121,122]⟩ 360)),(ky P #[77,79,83,84,95,83,73,71,78,83] 363 (.int (12) 362)),(ky P #[77,79,83,84,95,76,73,78,69,83] 365 (.int (20) 364)),(ky P #[77,79,83,84,95,80,73,69,67,69,83] 367 (.int (1000000) 366)),(ky P #[77,79,83,84,95,67,69,78,84,83] 369 (.int (1000000000) 368)),(ky P #[77,79,83,84,95,80,65,67,75] 371 (.int (1000) 370)),(ky P #[119,111,114,116,104] 380 (.ref 149)),(ky P #[105,115,95,105,116,101,109] 386 (.ref 154)),(ky P #[99,104,101,99,107,95,108,105,110,101,115] 394 (.ref 161)),(ky P #[98,101,103,117,110] 401 (.ref 168)),(ky P #[99,104,97,114,103,101] 408 (.ref 175)),(ky P #[109,111,115,116,95,111,102] 416 (.ref 182)),(ky P #[98,101,104,105,110,100] 429 (.ref 189)),(ky P #[77,79,83,84,95,79,82,68,69,82,83] 433 (.int (40) 432)),(ky P #[80,65,82,84,83] 458 (.ref 190))] 35),slots := #[] }
noncomputable def o10_12_3 (P : Params) : Obj := { cls := .none,dict := none,data := (.fields #[(.int (1) 0),(.int (0) 0),(.ref 20),(.int (5) 0),(.int (0) 0),(.ref 27),(.int (7) 0),(.int (0) 0),(.ref 40),(.int (9) 0),(.int (0) 0),(.ref 52),(.int (11) 0),(.int (0) 0),(.ref 64),(.int (13) 0),(.int (0) 0),(.ref 76),(.int (15) 0),(.int (0) 0),(.ref 88),(.int (17) 0),(.int (0) 0),(.ref 100),(.int (19) 0),(.int (0) 0),(.ref 112),(.int (21) 0),(.int (0) 0),(.ref 124),(.int (23) 0),(.int (0) 0),(.ref 136),(.int (32) 0),(.int (0) 0),(.ref 148),(.int (34) 0),(.int (0) 0),(.ref 153),(.int (38) 0),(.int (0) 0),(.ref 160),(.int (46) 0),(.int (0) 0),(.ref 167),(.int (48) 0),(.int (0) 0),(.ref 174),(.int (50) 0),(.int (0) 0),(.ref 181),(.int (56) 0),(.int (0) 0),(.ref 188)]),slots := #[] }
noncomputable def o10_145_3 (P : Params) : Obj := ob (.type "tuple") (.seq #[(.str ⟨#[112,105,101,99,101,115]⟩ 375),(.str ⟨#[99,101,110,116,115]⟩ 376),(.str ⟨#[112,97,99,107]⟩ 377)] 0)
noncomputable def o10_147_3 (P : Params) : Obj := fo .none #[119,111,114,116,104] #[119,111,114,116,104] (topS 19) 0 .none .none
noncomputable def o10_148_3 (P : Params) : Obj := { cls := (.type "code"),dict := none,data := (.fields #[(.str ⟨#[119,111,114,116,104]⟩ 372),(.str ⟨#[119,111,114,116,104]⟩ 373),(.str ⟨#[47,99,108,97,105,109,47,99,117,116,46,112,121]⟩ 374),(.int (32) 0),(.int (3) 0),(.int (0) 0),(.int (0) 0),(.int (3) 0),(.ref 143),(.bool true),(.int (181) 0),(.ref 144),.none,(.ref 145),(.ref 146),(.ref 147),(.int (378) 0),(.int (32) 0),(.str ⟨#[47,99,108,97,105,109,47,99,117,116,46,112,121]⟩ 379)]),slots := #[] }
noncomputable def o10_149_3 (P : Params) : Obj := fo (.type "function") #[119,111,114,116,104] #[119,111,114,116,104] (topS 19) 3 (.str ⟨#[111,114,100,101,114,102,108,111,119,46,108,105,110,101,115]⟩ 358) (.ref 148)
noncomputable def o10_152_3 (P : Params) : Obj := fo .none #[105,115,95,105,116,101,109] #[105,115,95,105,116,101,109] (topS 20) 0 .none .none
noncomputable def o10_153_3 (P : Params) : Obj := { cls := (.type "code"),dict := none,data := (.fields #[(.str ⟨#[105,115,95,105,116,101,109]⟩ 381),(.str ⟨#[105,115,95,105,116,101,109]⟩ 382),(.str ⟨#[47,99,108,97,105,109,47,99,117,116,46,112,121]⟩ 383),(.int (34) 0),(.int (1) 0),(.int (0) 0),(.int (0) 0),(.int (3) 0),(.ref 150),(.bool true),(.int (181) 0),(.ref 151),.none,.none,.none,(.ref 152),(.int (384) 0),(.int (34) 0),(.str ⟨#[47,99,108,97,105,109,47,99,117,116,46,112,121]⟩ 385)]),slots := #[] }
noncomputable def o10_154_3 (P : Params) : Obj := fo (.type "function") #[105,115,95,105,116,101,109] #[105,115,95,105,116,101,109] (topS 20) 3 (.str ⟨#[111,114,100,101,114,102,108,111,119,46,108,105,110,101,115]⟩ 358) (.ref 153)
noncomputable def o10_157_3 (P : Params) : Obj := ob (.type "tuple") (.seq #[(.str ⟨#[108,105,110,101,115]⟩ 390),(.str ⟨#[108,105,110,101]⟩ 391)] 0)
noncomputable def o10_159_3 (P : Params) : Obj := fo .none #[99,104,101,99,107,95,108,105,110,101,115] #[99,104,101,99,107,95,108,105,110,101,115] (topS 21) 0 .none .none
noncomputable def o10_160_3 (P : Params) : Obj := { cls := (.type "code"),dict := none,data := (.fields #[(.str ⟨#[99,104,101,99,107,95,108,105,110,101,115]⟩ 387),(.str ⟨#[99,104,101,99,107,95,108,105,110,101,115]⟩ 388),(.str ⟨#[47,99,108,97,105,109,47,99,117,116,46,112,121]⟩ 389),(.int (38) 0),(.int (1) 0),(.int (0) 0),(.int (0) 0),(.int (3) 0),(.ref 155),(.bool true),(.int (181) 0),(.ref 156),.none,(.ref 157),(.ref 158),(.ref 159),(.int (392) 0),(.int (38) 0),(.str ⟨#[47,99,108,97,105,109,47,99,117,116,46,112,121]⟩ 393)]),slots := #[] }
noncomputable def o10_161_3 (P : Params) : Obj := fo (.type "function") #[99,104,101,99,107,95,108,105,110,101,115] #[99,104,101,99,107,95,108,105,110,101,115] (topS 21) 3 (.str ⟨#[111,114,100,101,114,102,108,111,119,46,108,105,110,101,115]⟩ 358) (.ref 160)
noncomputable def o10_164_3 (P : Params) : Obj := ob (.type "tuple") (.seq #[(.str ⟨#[108,105,110,101]⟩ 398)] 0)
noncomputable def o10_166_3 (P : Params) : Obj := fo .none #[98,101,103,117,110] #[98,101,103,117,110] (topS 22) 0 .none .none
noncomputable def o10_167_3 (P : Params) : Obj := { cls := (.type "code"),dict := none,data := (.fields #[(.str ⟨#[98,101,103,117,110]⟩ 395),(.str ⟨#[98,101,103,117,110]⟩ 396),(.str ⟨#[47,99,108,97,105,109,47,99,117,116,46,112,121]⟩ 397),(.int (46) 0),(.int (1) 0),(.int (0) 0),(.int (0) 0),(.int (3) 0),(.ref 162),(.bool true),(.int (181) 0),(.ref 163),.none,(.ref 164),(.ref 165),(.ref 166),(.int (399) 0),(.int (46) 0),(.str ⟨#[47,99,108,97,105,109,47,99,117,116,46,112,121]⟩ 400)]),slots := #[] }
noncomputable def o10_168_3 (P : Params) : Obj := fo (.type "function") #[98,101,103,117,110] #[98,101,103,117,110] (topS 22) 3 (.str ⟨#[111,114,100,101,114,102,108,111,119,46,108,105,110,101,115]⟩ 358) (.ref 167)
noncomputable def o10_171_3 (P : Params) : Obj := ob (.type "tuple") (.seq #[(.str ⟨#[108,105,110,101]⟩ 405)] 0)
noncomputable def o10_173_3 (P : Params) : Obj := fo .none #[99,104,97,114,103,101] #[99,104,97,114,103,101] (topS 23) 0 .none .none
noncomputable def o10_174_3 (P : Params) : Obj := { cls := (.type "code"),dict := none,data := (.fields #[(.str ⟨#[99,104,97,114,103,101]⟩ 402),(.str ⟨#[99,104,97,114,103,101]⟩ 403),(.str ⟨#[47,99,108,97,105,109,47,99,117,116,46,112,121]⟩ 404),(.int (48) 0),(.int (1) 0),(.int (0) 0),(.int (0) 0),(.int (3) 0),(.ref 169),(.bool true),(.int (181) 0),(.ref 170),.none,(.ref 171),(.ref 172),(.ref 173),(.int (406) 0),(.int (48) 0),(.str ⟨#[47,99,108,97,105,109,47,99,117,116,46,112,121]⟩ 407)]),slots := #[] }
noncomputable def o10_175_3 (P : Params) : Obj := fo (.type "function") #[99,104,97,114,103,101] #[99,104,97,114,103,101] (topS 23) 3 (.str ⟨#[111,114,100,101,114,102,108,111,119,46,108,105,110,101,115]⟩ 358) (.ref 174)
noncomputable def o10_178_3 (P : Params) : Obj := ob (.type "tuple") (.seq #[(.str ⟨#[119,111,114,100]⟩ 412),(.str ⟨#[108,105,110,101]⟩ 413)] 0)
noncomputable def o10_180_3 (P : Params) : Obj := fo .none #[109,111,115,116,95,111,102] #[109,111,115,116,95,111,102] (topS 24) 0 .none .none
noncomputable def o10_181_3 (P : Params) : Obj := { cls := (.type "code"),dict := none,data := (.fields #[(.str ⟨#[109,111,115,116,95,111,102]⟩ 409),(.str ⟨#[109,111,115,116,95,111,102]⟩ 410),(.str ⟨#[47,99,108,97,105,109,47,99,117,116,46,112,121]⟩ 411),(.int (50) 0),(.int (2) 0),(.int (0) 0),(.int (0) 0),(.int (3) 0),(.ref 176),(.bool true),(.int (181) 0),(.ref 177),.none,(.ref 178),(.ref 179),(.ref 180),(.int (414) 0),(.int (50) 0),(.str ⟨#[47,99,108,97,105,109,47,99,117,116,46,112,121]⟩ 415)]),slots := #[] }
noncomputable def o10_182_3 (P : Params) : Obj := fo (.type "function") #[109,111,115,116,95,111,102] #[109,111,115,116,95,111,102] (topS 24) 3 (.str ⟨#[111,114,100,101,114,102,108,111,119,46,108,105,110,101,115]⟩ 358) (.ref 181)
noncomputable def o10_185_3 (P : Params) : Obj := ob (.type "tuple") (.seq #[(.str ⟨#[119,111,114,100]⟩ 420),(.str ⟨#[108,105,110,101]⟩ 421),(.str ⟨#[109,97,110,121]⟩ 422),(.str ⟨#[115,101,110,116]⟩ 423),(.str ⟨#[104,111,109,101]⟩ 424),(.str ⟨#[97,103,97,105,110]⟩ 425),(.str ⟨#[99,114,101,100,105,116,101,100]⟩ 426)] 0)
noncomputable def o10_187_3 (P : Params) : Obj := fo .none #[98,101,104,105,110,100] #[98,101,104,105,110,100] (topS 25) 0 .none .none
noncomputable def o10_188_3 (P : Params) : Obj := { cls := (.type "code"),dict := none,data := (.fields #[(.str ⟨#[98,101,104,105,110,100]⟩ 417),(.str ⟨#[98,101,104,105,110,100]⟩ 418),(.str ⟨#[47,99,108,97,105,109,47,99,117,116,46,112,121]⟩ 419),(.int (56) 0),(.int (3) 0),(.int (0) 0),(.int (0) 0),(.int (3) 0),(.ref 183),(.bool true),(.int (181) 0),(.ref 184),.none,(.ref 185),(.ref 186),(.ref 187),(.int (427) 0),(.int (56) 0),(.str ⟨#[47,99,108,97,105,109,47,99,117,116,46,112,121]⟩ 428)]),slots := #[] }
noncomputable def o10_189_3 (P : Params) : Obj := fo (.type "function") #[98,101,104,105,110,100] #[98,101,104,105,110,100] (topS 25) 3 (.str ⟨#[111,114,100,101,114,102,108,111,119,46,108,105,110,101,115]⟩ 358) (.ref 188)
noncomputable def o10_190_3 (P : Params) : Obj := { cls := (.type "dict"),dict := none,data := (.dict #[(ky P #[111,114,100,101,114] 434 (.int (2) 435)),(ky P #[100,101,108,105,118,101,114] 436 (.int (4) 437)),(ky P #[98,97,99,107] 438 (.int (4) 439)),(ky P #[115,119,97,112] 440 (.int (4) 441)),(ky P #[99,114,101,100,105,116] 442 (.int (4) 443)),(ky P #[112,97,121] 444 (.int (3) 445)),(ky P #[114,101,102,117,110,100] 446 (.int (3) 447)),(ky P #[109,111,118,101] 448 (.int (4) 449))] 8),slots := #[] }
noncomputable def h10_3 (P : Params) : Heap := ⟨⟨[boot_o_0 P,boot_o_1 P,boot_o_2 P,o10_3_3 P,boot_o_4 P,boot_o_5 P,boot_o_6 P,boot_o_7 P,boot_o_8 P,boot_o_9 P,boot_o_10 P,boot_o_7 P,o10_12_3 P,zCh P,zCg P,boot_o_7 P,boot_o_8 P,zCf P,boot_o_7 P,zCe P,zCd P,zCc P,zCb P,zAE P,zCa P,boot_o_7 P,boot_o_8 P,zCZ P,zCY P,boot_o_7 P,zCX P,o10_31_2 P,zCW P,zCV P,zCU P,zAI P,zAE P,zCT P,boot_o_7 P,boot_o_8 P,zCS P,zCR P,boot_o_7 P,zCQ P,zCP P,zCO P,zCN P,zAI P,zAE P,zCM P,boot_o_7 P,boot_o_8 P,zCL P,zCK P,boot_o_7 P,zCJ P,zCI P,zCH P,zCG P,zAI P,zAE P,zDo P,boot_o_7 P,boot_o_8 P,zDn P,zDm P,boot_o_7 P,zDl P,zDk P,zDj P,zDi P,zAI P,zAE P,zDh P,boot_o_7 P,boot_o_8 P,zDg P,zDf P,boot_o_7 P,zDe P,zDd P,zDc P,zDb P,zAI P,zAE P,zDa P,boot_o_7 P,boot_o_8 P,zDZ P,zDY P,boot_o_7 P,zDX P,zDW P,zDV P,zDU P,zAI P,zAE P,zDT P,boot_o_7 P,boot_o_8 P,zCn P,zCm P,boot_o_7 P,zCl P,zCk P,zCj P,zCi P,zAI P,zAE P,zET P,boot_o_7 P,boot_o_8 P,zES P,zER P,boot_o_7 P,zEQ P,zEP P,zEO P,zEN P,zAI P,zAE P,zEM P,boot_o_7 P,boot_o_8 P,zEL P,zEK P,boot_o_7 P,zEJ P,zEI P,zEH P,zEG P,zAI P,zAE P,zEF P,boot_o_7 P,boot_o_8 P,zEE P,zED P,boot_o_7 P,zEC P,zEB P,zEA P,zDz P,boot_o_7 P,boot_o_8 P,o10_145_3 P,boot_o_7 P,o10_147_3 P,o10_148_3 P,o10_149_3 P,boot_o_7 P,boot_o_8 P,o10_152_3 P,o10_153_3 P,o10_154_3 P,boot_o_7 P,boot_o_8 P,o10_157_3 P,boot_o_7 P,o10_159_3 P,o10_160_3 P,o10_161_3 P,boot_o_7 P,boot_o_8 P,o10_164_3 P,boot_o_7 P,o10_166_3 P,o10_167_3 P,o10_168_3 P,boot_o_7 P,boot_o_8 P,o10_171_3 P,boot_o_7 P,o10_173_3 P,o10_174_3 P,o10_175_3 P,boot_o_7 P,boot_o_8 P,o10_178_3 P,boot_o_7 P,o10_180_3 P,o10_181_3 P,o10_182_3 P,boot_o_7 P,boot_o_8 P,o10_185_3 P,boot_o_7 P,o10_187_3 P,o10_188_3 P,o10_189_3 P,o10_190_3 P]⟩,{ registered := [],finalised := [],alive := [],known := 0,ids := [],orphanDicts := [],counting := false,cnt := #[],zero := [],soft := 0,below := false,collecting := false }⟩
noncomputable def s10_3 (w : World) (os : OsState) : Shared := ⟨h10_3 w.params,#[],⟨0,0,0,0⟩,459,os⟩
noncomputable def o10_3_4 (P : Params) : Obj := { cls := (.type "dict"),dict := none,data := (.dict #[(ky P #[95,95,110,97,109,101,95,95] 165 (.str ⟨#[111,114,100,101,114,102,108,111,119,46,98,111,111,107]⟩ 430)),(ky P #[95,95,100,111,99,95,95] 166 .none),(ky P #[95,95,112,97,99,107,97,103,101,95,95] 167 .none),(ky P #[95,95,108,111,97,100,101,114,95,95] 168 (.builtin "__main__.__loader__#opaque")),(ky P #[95,95,115,112,101,99,95,95] 169 .none),(ky P #[95,95,97,110,110,111,116,97,116,105,111,110,115,95,95] 170 (.ref 6)),(ky P #[95,95,98,117,105,108,116,105,110,115,95,95] 171 (.ref 4)),(ky P #[95,95,102,105,108,101,95,95] 173 (.str ⟨#[47,99,108,97,105,109,47,99,117,116,46,112,121]⟩ 172)),(ky P #[95,95,99,97,99,104,101,100,95,95] 174 .none),(ky P #[95,119,97,108,108] 193 (.ref 21)),(ky P #[70,108,111,119,69,114,114,111,114] 213 (.ref 31)),(ky P #[78,111,68,101,101,100] 229 (.ref 44)),(ky P #[78,111,76,105,110,101,115] 245 (.ref 56)),(ky P #[78,111,73,116,101,109] 261 (.ref 68)),(ky P #[78,111,78,117,109,98,101,114] 277 (.ref 80)),(ky P #[70,117,108,108,66,111,111,107] 293 (.ref 92)),(ky P #[78,111,79,114,100,101,114] 309 (.ref 104)),(ky P #[83,97,109,101,79,114,100,101,114] 325 (.ref 116)),(ky P #[78,111,76,105,110,101] 341 (.ref 128)),(ky P #[84,111,111,77,117,99,104] 357 (.ref 140)),(ky P #[76,69,84,84,69,82,83] 361 (.str ⟨#[97,98,99,100,101,102,103,104,105,106,107,108,109,110,111,112,113,114,115,116,117,118,119,120,121,122]⟩ 360)),(ky P #[77,79,83,84,95,83,73,71,78,83] 363 (.int (12) 362)),(ky P #[77,79,83,84,95,76,73,78,69,83] 365 (.int (20) 364)),(ky P #[77,79,83,84,95,80,73,69,67,69,83] 367 (.int (1000000) 366)),(ky P #[77,79,83,84,95,67,69,78,84,83] 369 (.int (1000000000) 368)),(ky P #[77,79,83,84,95,80,65,67,75] 371 (.int (1000) 370)),(ky P #[119,111,114,116,104] 380 (.ref 149)),(ky P #[105,115,95,105,116,101,109] 386 (.ref 154)),(ky P #[99,104,101,99,107,95,108,105,110,101,115] 394 (.ref 161)),(ky P #[98,101,103,117,110] 401 (.ref 168)),(ky P #[99,104,97,114,103,101] 408 (.ref 175)),(ky P #[109,111,115,116,95,111,102] 416 (.ref 182)),(ky P #[98,101,104,105,110,100] 429 (.ref 189)),(ky P #[77,79,83,84,95,79,82,68,69,82,83] 433 (.int (40) 432)),(ky P #[80,65,82,84,83] 458 (.ref 190)),(ky P #[76,73,78,69,68] 463 (.ref 191)),(ky P #[66,111,111,107] 625 (.ref 314))] 37),slots := #[] }
noncomputable def o10_12_4 (P : Params) : Obj := { cls := .none,dict := none,data := (.fields #[(.int (1) 0),(.int (0) 0),(.ref 20),(.int (5) 0),(.int (0) 0),(.ref 27),(.int (7) 0),(.int (0) 0),(.ref 40),(.int (9) 0),(.int (0) 0),(.ref 52),(.int (11) 0),(.int (0) 0),(.ref 64),(.int (13) 0),(.int (0) 0),(.ref 76),(.int (15) 0),(.int (0) 0),(.ref 88),(.int (17) 0),(.int (0) 0),(.ref 100),(.int (19) 0),(.int (0) 0),(.ref 112),(.int (21) 0),(.int (0) 0),(.ref 124),(.int (23) 0),(.int (0) 0),(.ref 136),(.int (32) 0),(.int (0) 0),(.ref 148),(.int (34) 0),(.int (0) 0),(.ref 153),(.int (38) 0),(.int (0) 0),(.ref 160),(.int (46) 0),(.int (0) 0),(.ref 167),(.int (48) 0),(.int (0) 0),(.ref 174),(.int (50) 0),(.int (0) 0),(.ref 181),(.int (56) 0),(.int (0) 0),(.ref 188),(.int (75) 0),(.int (0) 0),(.ref 197)]),slots := #[] }
noncomputable def o10_191_4 (P : Params) : Obj := ob (.type "tuple") (.seq #[(.str ⟨#[100,101,108,105,118,101,114]⟩ 459),(.str ⟨#[98,97,99,107]⟩ 460),(.str ⟨#[115,119,97,112]⟩ 461),(.str ⟨#[99,114,101,100,105,116]⟩ 462)] 0)
noncomputable def o10_194_4 (P : Params) : Obj := { cls := (.type "dict"),dict := none,data := (.dict #[(ky P #[95,95,109,111,100,117,108,101,95,95] 471 (.str ⟨#[111,114,100,101,114,102,108,111,119,46,98,111,111,107]⟩ 430)),(ky P #[95,95,113,117,97,108,110,97,109,101,95,95] 473 (.str ⟨#[66,111,111,107]⟩ 472)),(ky P #[95,95,102,105,114,115,116,108,105,110,101,110,111,95,95] 475 (.int (75) 474)),(ky P #[95,95,105,110,105,116,95,95] 482 (.ref 205)),(ky P #[110,101,101,100] 490 (.ref 212)),(ky P #[100,111] 498 (.ref 219)),(ky P #[98,101,103,105,110] 504 (.ref 224)),(ky P #[99,104,101,99,107] 512 (.ref 231)),(ky P #[109,111,115,116] 520 (.ref 238)),(ky P #[99,104,97,110,103,101] 531 (.ref 245)),(ky P #[112,97,121,95,105,110] 542 (.ref 252)),(ky P #[116,117,114,110] 558 (.ref 259)),(ky P #[117,110,100,111] 565 (.ref 266)),(ky P #[111,114,100,101,114,115] 572 (.ref 273)),(ky P #[116,111,108,100] 578 (.ref 278)),(ky P #[112,97,105,100] 586 (.ref 285)),(ky P #[111,119,101,100] 592 (.ref 290)),(ky P #[114,111,119,115] 600 (.ref 297)),(ky P #[115,101,116,116,108,101,100] 608 (.ref 304)),(ky P #[110,101,116] 615 (.ref 311)),(ky P #[95,95,115,116,97,116,105,99,95,97,116,116,114,105,98,117,116,101,115,95,95] 618 (.ref 312))] 21),slots := #[] }
noncomputable def o10_196_4 (P : Params) : Obj := { cls := .none,dict := none,data := (.fields #[(.int (77) 0),(.int (4) 0),(.ref 204),(.int (81) 0),(.int (4) 0),(.ref 211),(.int (85) 0),(.int (4) 0),(.ref 218),(.int (93) 0),(.int (4) 0),(.ref 223),(.int (101) 0),(.int (4) 0),(.ref 230),(.int (114) 0),(.int (4) 0),(.ref 237),(.int (119) 0),(.int (4) 0),(.ref 244),(.int (134) 0),(.int (4) 0),(.ref 251),(.int (139) 0),(.int (4) 0),(.ref 258),(.int (148) 0),(.int (4) 0),(.ref 265),(.int (151) 0),(.int (4) 0),(.ref 272),(.int (154) 0),(.int (4) 0),(.ref 277),(.int (158) 0),(.int (4) 0),(.ref 284),(.int (162) 0),(.int (4) 0),(.ref 289),(.int (166) 0),(.int (4) 0),(.ref 296),(.int (170) 0),(.int (4) 0),(.ref 303),(.int (173) 0),(.int (4) 0),(.ref 310)]),slots := #[] }
noncomputable def o10_197_4 (P : Params) : Obj := { cls := (.type "code"),dict := none,data := (.fields #[(.str ⟨#[66,111,111,107]⟩ 466),(.str ⟨#[66,111,111,107]⟩ 467),(.str ⟨#[47,99,108,97,105,109,47,99,117,116,46,112,121]⟩ 468),(.int (75) 0),(.int (0) 0),(.int (0) 0),(.int (0) 0),(.int (0) 0),(.ref 195),(.bool false),(.int (181) 0),(.ref 196),.none,.none,.none,.none,(.int (469) 0),(.int (75) 0),(.str ⟨#[47,99,108,97,105,109,47,99,117,116,46,112,121]⟩ 470)]),slots := #[] }
noncomputable def o10_198_4 (P : Params) : Obj := { cls := (.type "frame"),dict := none,data := .plain,slots := #[(some (.ref 197)),(some (.ref 3)),(some (.ref 194)),none,(some (.str ⟨#[111,114,100,101,114,102,108,111,119,46,98,111,111,107]⟩ 430)),none,(some (.ref 0))] }
noncomputable def o10_201_4 (P : Params) : Obj := ob (.type "tuple") (.seq #[(.str ⟨#[115,101,108,102]⟩ 479)] 0)
noncomputable def o10_203_4 (P : Params) : Obj := fo .none #[95,95,105,110,105,116,95,95] #[66,111,111,107,46,95,95,105,110,105,116,95,95] (methS 30 0) 0 .none .none
noncomputable def o10_204_4 (P : Params) : Obj := { cls := (.type "code"),dict := none,data := (.fields #[(.str ⟨#[95,95,105,110,105,116,95,95]⟩ 476),(.str ⟨#[66,111,111,107,46,95,95,105,110,105,116,95,95]⟩ 477),(.str ⟨#[47,99,108,97,105,109,47,99,117,116,46,112,121]⟩ 478),(.int (77) 0),(.int (1) 0),(.int (0) 0),(.int (0) 0),(.int (3) 0),(.ref 199),(.bool true),(.int (181) 0),(.ref 200),.none,(.ref 201),(.ref 202),(.ref 203),(.int (480) 0),(.int (77) 0),(.str ⟨#[47,99,108,97,105,109,47,99,117,116,46,112,121]⟩ 481)]),slots := #[] }
noncomputable def o10_205_4 (P : Params) : Obj := fo (.type "function") #[95,95,105,110,105,116,95,95] #[66,111,111,107,46,95,95,105,110,105,116,95,95] (methS 30 0) 3 (.str ⟨#[111,114,100,101,114,102,108,111,119,46,98,111,111,107]⟩ 430) (.ref 204)
noncomputable def o10_208_4 (P : Params) : Obj := ob (.type "tuple") (.seq #[(.str ⟨#[115,101,108,102]⟩ 486),(.str ⟨#[111,114,100,101,114]⟩ 487)] 0)
noncomputable def o10_210_4 (P : Params) : Obj := fo .none #[110,101,101,100] #[66,111,111,107,46,110,101,101,100] (methS 30 1) 0 .none .none
noncomputable def o10_211_4 (P : Params) : Obj := { cls := (.type "code"),dict := none,data := (.fields #[(.str ⟨#[110,101,101,100]⟩ 483),(.str ⟨#[66,111,111,107,46,110,101,101,100]⟩ 484),(.str ⟨#[47,99,108,97,105,109,47,99,117,116,46,112,121]⟩ 485),(.int (81) 0),(.int (2) 0),(.int (0) 0),(.int (0) 0),(.int (3) 0),(.ref 206),(.bool true),(.int (181) 0),(.ref 207),.none,(.ref 208),(.ref 209),(.ref 210),(.int (488) 0),(.int (81) 0),(.str ⟨#[47,99,108,97,105,109,47,99,117,116,46,112,121]⟩ 489)]),slots := #[] }
noncomputable def o10_212_4 (P : Params) : Obj := fo (.type "function") #[110,101,101,100] #[66,111,111,107,46,110,101,101,100] (methS 30 1) 3 (.str ⟨#[111,114,100,101,114,102,108,111,119,46,98,111,111,107]⟩ 430) (.ref 211)
noncomputable def o10_215_4 (P : Params) : Obj := ob (.type "tuple") (.seq #[(.str ⟨#[115,101,108,102]⟩ 494),(.str ⟨#[100,101,101,100]⟩ 495)] 0)
noncomputable def o10_217_4 (P : Params) : Obj := fo .none #[100,111] #[66,111,111,107,46,100,111] (methS 30 2) 0 .none .none
noncomputable def o10_218_4 (P : Params) : Obj := { cls := (.type "code"),dict := none,data := (.fields #[(.str ⟨#[100,111]⟩ 491),(.str ⟨#[66,111,111,107,46,100,111]⟩ 492),(.str ⟨#[47,99,108,97,105,109,47,99,117,116,46,112,121]⟩ 493),(.int (85) 0),(.int (2) 0),(.int (0) 0),(.int (0) 0),(.int (3) 0),(.ref 213),(.bool true),(.int (181) 0),(.ref 214),.none,(.ref 215),(.ref 216),(.ref 217),(.int (496) 0),(.int (85) 0),(.str ⟨#[47,99,108,97,105,109,47,99,117,116,46,112,121]⟩ 497)]),slots := #[] }
noncomputable def o10_219_4 (P : Params) : Obj := fo (.type "function") #[100,111] #[66,111,111,107,46,100,111] (methS 30 2) 3 (.str ⟨#[111,114,100,101,114,102,108,111,119,46,98,111,111,107]⟩ 430) (.ref 218)
noncomputable def o10_222_4 (P : Params) : Obj := fo .none #[98,101,103,105,110] #[66,111,111,107,46,98,101,103,105,110] (methS 30 3) 0 .none .none
noncomputable def o10_223_4 (P : Params) : Obj := { cls := (.type "code"),dict := none,data := (.fields #[(.str ⟨#[98,101,103,105,110]⟩ 499),(.str ⟨#[66,111,111,107,46,98,101,103,105,110]⟩ 500),(.str ⟨#[47,99,108,97,105,109,47,99,117,116,46,112,121]⟩ 501),(.int (93) 0),(.int (2) 0),(.int (0) 0),(.int (0) 0),(.int (3) 0),(.ref 220),(.bool true),(.int (181) 0),(.ref 221),.none,.none,.none,(.ref 222),(.int (502) 0),(.int (93) 0),(.str ⟨#[47,99,108,97,105,109,47,99,117,116,46,112,121]⟩ 503)]),slots := #[] }
noncomputable def o10_224_4 (P : Params) : Obj := fo (.type "function") #[98,101,103,105,110] #[66,111,111,107,46,98,101,103,105,110] (methS 30 3) 3 (.str ⟨#[111,114,100,101,114,102,108,111,119,46,98,111,111,107]⟩ 430) (.ref 223)
noncomputable def o10_227_4 (P : Params) : Obj := ob (.type "tuple") (.seq #[(.str ⟨#[115,101,108,102]⟩ 508),(.str ⟨#[100,101,101,100]⟩ 509)] 0)
noncomputable def o10_229_4 (P : Params) : Obj := fo .none #[99,104,101,99,107] #[66,111,111,107,46,99,104,101,99,107] (methS 30 4) 0 .none .none
noncomputable def o10_230_4 (P : Params) : Obj := { cls := (.type "code"),dict := none,data := (.fields #[(.str ⟨#[99,104,101,99,107]⟩ 505),(.str ⟨#[66,111,111,107,46,99,104,101,99,107]⟩ 506),(.str ⟨#[47,99,108,97,105,109,47,99,117,116,46,112,121]⟩ 507),(.int (101) 0),(.int (2) 0),(.int (0) 0),(.int (0) 0),(.int (3) 0),(.ref 225),(.bool true),(.int (181) 0),(.ref 226),.none,(.ref 227),(.ref 228),(.ref 229),(.int (510) 0),(.int (101) 0),(.str ⟨#[47,99,108,97,105,109,47,99,117,116,46,112,121]⟩ 511)]),slots := #[] }
noncomputable def o10_231_4 (P : Params) : Obj := fo (.type "function") #[99,104,101,99,107] #[66,111,111,107,46,99,104,101,99,107] (methS 30 4) 3 (.str ⟨#[111,114,100,101,114,102,108,111,119,46,98,111,111,107]⟩ 430) (.ref 230)
noncomputable def o10_234_4 (P : Params) : Obj := ob (.type "tuple") (.seq #[(.str ⟨#[115,101,108,102]⟩ 516),(.str ⟨#[100,101,101,100]⟩ 517)] 0)
noncomputable def o10_236_4 (P : Params) : Obj := fo .none #[109,111,115,116] #[66,111,111,107,46,109,111,115,116] (methS 30 5) 0 .none .none
noncomputable def o10_237_4 (P : Params) : Obj := { cls := (.type "code"),dict := none,data := (.fields #[(.str ⟨#[109,111,115,116]⟩ 513),(.str ⟨#[66,111,111,107,46,109,111,115,116]⟩ 514),(.str ⟨#[47,99,108,97,105,109,47,99,117,116,46,112,121]⟩ 515),(.int (114) 0),(.int (2) 0),(.int (0) 0),(.int (0) 0),(.int (3) 0),(.ref 232),(.bool true),(.int (181) 0),(.ref 233),.none,(.ref 234),(.ref 235),(.ref 236),(.int (518) 0),(.int (114) 0),(.str ⟨#[47,99,108,97,105,109,47,99,117,116,46,112,121]⟩ 519)]),slots := #[] }
noncomputable def o10_238_4 (P : Params) : Obj := fo (.type "function") #[109,111,115,116] #[66,111,111,107,46,109,111,115,116] (methS 30 5) 3 (.str ⟨#[111,114,100,101,114,102,108,111,119,46,98,111,111,107]⟩ 430) (.ref 237)
noncomputable def o10_241_4 (P : Params) : Obj := ob (.type "tuple") (.seq #[(.str ⟨#[115,101,108,102]⟩ 524),(.str ⟨#[100,101,101,100]⟩ 525),(.str ⟨#[119,111,114,100]⟩ 526),(.str ⟨#[109,97,110,121]⟩ 527),(.str ⟨#[111,108,100]⟩ 528)] 0)
noncomputable def o10_243_4 (P : Params) : Obj := fo .none #[99,104,97,110,103,101] #[66,111,111,107,46,99,104,97,110,103,101] (methS 30 6) 0 .none .none
noncomputable def o10_244_4 (P : Params) : Obj := { cls := (.type "code"),dict := none,data := (.fields #[(.str ⟨#[99,104,97,110,103,101]⟩ 521),(.str ⟨#[66,111,111,107,46,99,104,97,110,103,101]⟩ 522),(.str ⟨#[47,99,108,97,105,109,47,99,117,116,46,112,121]⟩ 523),(.int (119) 0),(.int (2) 0),(.int (0) 0),(.int (0) 0),(.int (3) 0),(.ref 239),(.bool true),(.int (181) 0),(.ref 240),.none,(.ref 241),(.ref 242),(.ref 243),(.int (529) 0),(.int (119) 0),(.str ⟨#[47,99,108,97,105,109,47,99,117,116,46,112,121]⟩ 530)]),slots := #[] }
noncomputable def o10_245_4 (P : Params) : Obj := fo (.type "function") #[99,104,97,110,103,101] #[66,111,111,107,46,99,104,97,110,103,101] (methS 30 6) 3 (.str ⟨#[111,114,100,101,114,102,108,111,119,46,98,111,111,107]⟩ 430) (.ref 244)
noncomputable def o10_248_4 (P : Params) : Obj := ob (.type "tuple") (.seq #[(.str ⟨#[115,101,108,102]⟩ 535),(.str ⟨#[111,114,100,101,114]⟩ 536),(.str ⟨#[119,111,114,100]⟩ 537),(.str ⟨#[99,101,110,116,115]⟩ 538),(.str ⟨#[101,110,116,114,121]⟩ 539)] 0)
noncomputable def o10_250_4 (P : Params) : Obj := fo .none #[112,97,121,95,105,110] #[66,111,111,107,46,112,97,121,95,105,110] (methS 30 7) 0 .none .none
noncomputable def o10_251_4 (P : Params) : Obj := { cls := (.type "code"),dict := none,data := (.fields #[(.str ⟨#[112,97,121,95,105,110]⟩ 532),(.str ⟨#[66,111,111,107,46,112,97,121,95,105,110]⟩ 533),(.str ⟨#[47,99,108,97,105,109,47,99,117,116,46,112,121]⟩ 534),(.int (134) 0),(.int (4) 0),(.int (0) 0),(.int (0) 0),(.int (3) 0),(.ref 246),(.bool true),(.int (181) 0),(.ref 247),.none,(.ref 248),(.ref 249),(.ref 250),(.int (540) 0),(.int (134) 0),(.str ⟨#[47,99,108,97,105,109,47,99,117,116,46,112,121]⟩ 541)]),slots := #[] }
noncomputable def o10_252_4 (P : Params) : Obj := fo (.type "function") #[112,97,121,95,105,110] #[66,111,111,107,46,112,97,121,95,105,110] (methS 30 7) 3 (.str ⟨#[111,114,100,101,114,102,108,111,119,46,98,111,111,107]⟩ 430) (.ref 251)
noncomputable def o10_255_4 (P : Params) : Obj := ob (.type "tuple") (.seq #[(.str ⟨#[115,101,108,102]⟩ 546),(.str ⟨#[111,114,100,101,114]⟩ 547),(.str ⟨#[112,108,97,99,101]⟩ 548),(.str ⟨#[119,111,114,100]⟩ 549),(.str ⟨#[109,97,110,121]⟩ 550),(.str ⟨#[101,110,116,114,121]⟩ 551),(.str ⟨#[108,105,110,101]⟩ 552),(.str ⟨#[111,116,104,101,114]⟩ 553),(.str ⟨#[99,101,110,116,115]⟩ 554),(.str ⟨#[108,105,110,101,115]⟩ 555)] 0)
noncomputable def o10_257_4 (P : Params) : Obj := fo .none #[116,117,114,110] #[66,111,111,107,46,116,117,114,110] (methS 30 8) 0 .none .none
noncomputable def o10_258_4 (P : Params) : Obj := { cls := (.type "code"),dict := none,data := (.fields #[(.str ⟨#[116,117,114,110]⟩ 543),(.str ⟨#[66,111,111,107,46,116,117,114,110]⟩ 544),(.str ⟨#[47,99,108,97,105,109,47,99,117,116,46,112,121]⟩ 545),(.int (139) 0),(.int (5) 0),(.int (0) 0),(.int (0) 0),(.int (3) 0),(.ref 253),(.bool true),(.int (181) 0),(.ref 254),.none,(.ref 255),(.ref 256),(.ref 257),(.int (556) 0),(.int (139) 0),(.str ⟨#[47,99,108,97,105,109,47,99,117,116,46,112,121]⟩ 557)]),slots := #[] }
noncomputable def o10_259_4 (P : Params) : Obj := fo (.type "function") #[116,117,114,110] #[66,111,111,107,46,116,117,114,110] (methS 30 8) 3 (.str ⟨#[111,114,100,101,114,102,108,111,119,46,98,111,111,107]⟩ 430) (.ref 258)
noncomputable def o10_262_4 (P : Params) : Obj := ob (.type "tuple") (.seq #[(.str ⟨#[115,101,108,102]⟩ 562)] 0)
noncomputable def o10_264_4 (P : Params) : Obj := fo .none #[117,110,100,111] #[66,111,111,107,46,117,110,100,111] (methS 30 9) 0 .none .none
noncomputable def o10_265_4 (P : Params) : Obj := { cls := (.type "code"),dict := none,data := (.fields #[(.str ⟨#[117,110,100,111]⟩ 559),(.str ⟨#[66,111,111,107,46,117,110,100,111]⟩ 560),(.str ⟨#[47,99,108,97,105,109,47,99,117,116,46,112,121]⟩ 561),(.int (148) 0),(.int (1) 0),(.int (0) 0),(.int (0) 0),(.int (3) 0),(.ref 260),(.bool true),(.int (181) 0),(.ref 261),.none,(.ref 262),(.ref 263),(.ref 264),(.int (563) 0),(.int (148) 0),(.str ⟨#[47,99,108,97,105,109,47,99,117,116,46,112,121]⟩ 564)]),slots := #[] }
noncomputable def o10_266_4 (P : Params) : Obj := fo (.type "function") #[117,110,100,111] #[66,111,111,107,46,117,110,100,111] (methS 30 9) 3 (.str ⟨#[111,114,100,101,114,102,108,111,119,46,98,111,111,107]⟩ 430) (.ref 265)
noncomputable def o10_269_4 (P : Params) : Obj := ob (.type "tuple") (.seq #[(.str ⟨#[115,101,108,102]⟩ 569)] 0)
noncomputable def o10_271_4 (P : Params) : Obj := fo .none #[111,114,100,101,114,115] #[66,111,111,107,46,111,114,100,101,114,115] (methS 30 10) 0 .none .none
noncomputable def o10_272_4 (P : Params) : Obj := { cls := (.type "code"),dict := none,data := (.fields #[(.str ⟨#[111,114,100,101,114,115]⟩ 566),(.str ⟨#[66,111,111,107,46,111,114,100,101,114,115]⟩ 567),(.str ⟨#[47,99,108,97,105,109,47,99,117,116,46,112,121]⟩ 568),(.int (151) 0),(.int (1) 0),(.int (0) 0),(.int (0) 0),(.int (3) 0),(.ref 267),(.bool true),(.int (181) 0),(.ref 268),.none,(.ref 269),(.ref 270),(.ref 271),(.int (570) 0),(.int (151) 0),(.str ⟨#[47,99,108,97,105,109,47,99,117,116,46,112,121]⟩ 571)]),slots := #[] }
noncomputable def o10_273_4 (P : Params) : Obj := fo (.type "function") #[111,114,100,101,114,115] #[66,111,111,107,46,111,114,100,101,114,115] (methS 30 10) 3 (.str ⟨#[111,114,100,101,114,102,108,111,119,46,98,111,111,107]⟩ 430) (.ref 272)
noncomputable def o10_276_4 (P : Params) : Obj := fo .none #[116,111,108,100] #[66,111,111,107,46,116,111,108,100] (methS 30 11) 0 .none .none
noncomputable def o10_277_4 (P : Params) : Obj := { cls := (.type "code"),dict := none,data := (.fields #[(.str ⟨#[116,111,108,100]⟩ 573),(.str ⟨#[66,111,111,107,46,116,111,108,100]⟩ 574),(.str ⟨#[47,99,108,97,105,109,47,99,117,116,46,112,121]⟩ 575),(.int (154) 0),(.int (2) 0),(.int (0) 0),(.int (0) 0),(.int (3) 0),(.ref 274),(.bool true),(.int (181) 0),(.ref 275),.none,.none,.none,(.ref 276),(.int (576) 0),(.int (154) 0),(.str ⟨#[47,99,108,97,105,109,47,99,117,116,46,112,121]⟩ 577)]),slots := #[] }
noncomputable def o10_278_4 (P : Params) : Obj := fo (.type "function") #[116,111,108,100] #[66,111,111,107,46,116,111,108,100] (methS 30 11) 3 (.str ⟨#[111,114,100,101,114,102,108,111,119,46,98,111,111,107]⟩ 430) (.ref 277)
noncomputable def o10_281_4 (P : Params) : Obj := ob (.type "tuple") (.seq #[(.str ⟨#[115,101,108,102]⟩ 582),(.str ⟨#[111,114,100,101,114]⟩ 583)] 0)
noncomputable def o10_283_4 (P : Params) : Obj := fo .none #[112,97,105,100] #[66,111,111,107,46,112,97,105,100] (methS 30 12) 0 .none .none
noncomputable def o10_284_4 (P : Params) : Obj := { cls := (.type "code"),dict := none,data := (.fields #[(.str ⟨#[112,97,105,100]⟩ 579),(.str ⟨#[66,111,111,107,46,112,97,105,100]⟩ 580),(.str ⟨#[47,99,108,97,105,109,47,99,117,116,46,112,121]⟩ 581),(.int (158) 0),(.int (2) 0),(.int (0) 0),(.int (0) 0),(.int (3) 0),(.ref 279),(.bool true),(.int (181) 0),(.ref 280),.none,(.ref 281),(.ref 282),(.ref 283),(.int (584) 0),(.int (158) 0),(.str ⟨#[47,99,108,97,105,109,47,99,117,116,46,112,121]⟩ 585)]),slots := #[] }
noncomputable def o10_285_4 (P : Params) : Obj := fo (.type "function") #[112,97,105,100] #[66,111,111,107,46,112,97,105,100] (methS 30 12) 3 (.str ⟨#[111,114,100,101,114,102,108,111,119,46,98,111,111,107]⟩ 430) (.ref 284)
noncomputable def o10_288_4 (P : Params) : Obj := fo .none #[111,119,101,100] #[66,111,111,107,46,111,119,101,100] (methS 30 13) 0 .none .none
noncomputable def o10_289_4 (P : Params) : Obj := { cls := (.type "code"),dict := none,data := (.fields #[(.str ⟨#[111,119,101,100]⟩ 587),(.str ⟨#[66,111,111,107,46,111,119,101,100]⟩ 588),(.str ⟨#[47,99,108,97,105,109,47,99,117,116,46,112,121]⟩ 589),(.int (162) 0),(.int (2) 0),(.int (0) 0),(.int (0) 0),(.int (3) 0),(.ref 286),(.bool true),(.int (181) 0),(.ref 287),.none,.none,.none,(.ref 288),(.int (590) 0),(.int (162) 0),(.str ⟨#[47,99,108,97,105,109,47,99,117,116,46,112,121]⟩ 591)]),slots := #[] }
noncomputable def o10_290_4 (P : Params) : Obj := fo (.type "function") #[111,119,101,100] #[66,111,111,107,46,111,119,101,100] (methS 30 13) 3 (.str ⟨#[111,114,100,101,114,102,108,111,119,46,98,111,111,107]⟩ 430) (.ref 289)
noncomputable def o10_293_4 (P : Params) : Obj := ob (.type "tuple") (.seq #[(.str ⟨#[115,101,108,102]⟩ 596),(.str ⟨#[111,114,100,101,114]⟩ 597)] 0)
noncomputable def o10_295_4 (P : Params) : Obj := fo .none #[114,111,119,115] #[66,111,111,107,46,114,111,119,115] (methS 30 14) 0 .none .none
noncomputable def o10_296_4 (P : Params) : Obj := { cls := (.type "code"),dict := none,data := (.fields #[(.str ⟨#[114,111,119,115]⟩ 593),(.str ⟨#[66,111,111,107,46,114,111,119,115]⟩ 594),(.str ⟨#[47,99,108,97,105,109,47,99,117,116,46,112,121]⟩ 595),(.int (166) 0),(.int (2) 0),(.int (0) 0),(.int (0) 0),(.int (3) 0),(.ref 291),(.bool true),(.int (181) 0),(.ref 292),.none,(.ref 293),(.ref 294),(.ref 295),(.int (598) 0),(.int (166) 0),(.str ⟨#[47,99,108,97,105,109,47,99,117,116,46,112,121]⟩ 599)]),slots := #[] }
noncomputable def o10_297_4 (P : Params) : Obj := fo (.type "function") #[114,111,119,115] #[66,111,111,107,46,114,111,119,115] (methS 30 14) 3 (.str ⟨#[111,114,100,101,114,102,108,111,119,46,98,111,111,107]⟩ 430) (.ref 296)
noncomputable def o10_300_4 (P : Params) : Obj := ob (.type "tuple") (.seq #[(.str ⟨#[115,101,108,102]⟩ 604),(.str ⟨#[111,114,100,101,114]⟩ 605)] 0)
noncomputable def o10_302_4 (P : Params) : Obj := fo .none #[115,101,116,116,108,101,100] #[66,111,111,107,46,115,101,116,116,108,101,100] (methS 30 15) 0 .none .none
noncomputable def o10_303_4 (P : Params) : Obj := { cls := (.type "code"),dict := none,data := (.fields #[(.str ⟨#[115,101,116,116,108,101,100]⟩ 601),(.str ⟨#[66,111,111,107,46,115,101,116,116,108,101,100]⟩ 602),(.str ⟨#[47,99,108,97,105,109,47,99,117,116,46,112,121]⟩ 603),(.int (170) 0),(.int (2) 0),(.int (0) 0),(.int (0) 0),(.int (3) 0),(.ref 298),(.bool true),(.int (181) 0),(.ref 299),.none,(.ref 300),(.ref 301),(.ref 302),(.int (606) 0),(.int (170) 0),(.str ⟨#[47,99,108,97,105,109,47,99,117,116,46,112,121]⟩ 607)]),slots := #[] }
noncomputable def o10_304_4 (P : Params) : Obj := fo (.type "function") #[115,101,116,116,108,101,100] #[66,111,111,107,46,115,101,116,116,108,101,100] (methS 30 15) 3 (.str ⟨#[111,114,100,101,114,102,108,111,119,46,98,111,111,107]⟩ 430) (.ref 303)
noncomputable def o10_307_4 (P : Params) : Obj := ob (.type "tuple") (.seq #[(.str ⟨#[115,101,108,102]⟩ 612)] 0)
noncomputable def o10_309_4 (P : Params) : Obj := fo .none #[110,101,116] #[66,111,111,107,46,110,101,116] (methS 30 16) 0 .none .none
noncomputable def o10_310_4 (P : Params) : Obj := { cls := (.type "code"),dict := none,data := (.fields #[(.str ⟨#[110,101,116]⟩ 609),(.str ⟨#[66,111,111,107,46,110,101,116]⟩ 610),(.str ⟨#[47,99,108,97,105,109,47,99,117,116,46,112,121]⟩ 611),(.int (173) 0),(.int (1) 0),(.int (0) 0),(.int (0) 0),(.int (3) 0),(.ref 305),(.bool true),(.int (181) 0),(.ref 306),.none,(.ref 307),(.ref 308),(.ref 309),(.int (613) 0),(.int (173) 0),(.str ⟨#[47,99,108,97,105,109,47,99,117,116,46,112,121]⟩ 614)]),slots := #[] }
noncomputable def o10_311_4 (P : Params) : Obj := fo (.type "function") #[110,101,116] #[66,111,111,107,46,110,101,116] (methS 30 16) 3 (.str ⟨#[111,114,100,101,114,102,108,111,119,46,98,111,111,107]⟩ 430) (.ref 310)
noncomputable def o10_312_4 (P : Params) : Obj := ob (.type "tuple") (.seq #[(.str ⟨#[101,110,116,114,105,101,115]⟩ 616),(.str ⟨#[104,105,115,116,111,114,121]⟩ 617)] 0)
noncomputable def o10_313_4 (P : Params) : Obj := { cls := (.type "dict"),dict := none,data := (.dict #[(ky P #[95,95,109,111,100,117,108,101,95,95] 471 (.str ⟨#[111,114,100,101,114,102,108,111,119,46,98,111,111,107]⟩ 430)),(ky P #[95,95,102,105,114,115,116,108,105,110,101,110,111,95,95] 475 (.int (75) 474)),(ky P #[95,95,105,110,105,116,95,95] 482 (.ref 205)),(ky P #[110,101,101,100] 490 (.ref 212)),(ky P #[100,111] 498 (.ref 219)),(ky P #[98,101,103,105,110] 504 (.ref 224)),(ky P #[99,104,101,99,107] 512 (.ref 231)),(ky P #[109,111,115,116] 520 (.ref 238)),(ky P #[99,104,97,110,103,101] 531 (.ref 245)),(ky P #[112,97,121,95,105,110] 542 (.ref 252)),(ky P #[116,117,114,110] 558 (.ref 259)),(ky P #[117,110,100,111] 565 (.ref 266)),(ky P #[111,114,100,101,114,115] 572 (.ref 273)),(ky P #[116,111,108,100] 578 (.ref 278)),(ky P #[112,97,105,100] 586 (.ref 285)),(ky P #[111,119,101,100] 592 (.ref 290)),(ky P #[114,111,119,115] 600 (.ref 297)),(ky P #[115,101,116,116,108,101,100] 608 (.ref 304)),(ky P #[110,101,116] 615 (.ref 311)),(ky P #[95,95,115,116,97,116,105,99,95,97,116,116,114,105,98,117,116,101,115,95,95] 618 (.ref 312)),(ky P #[95,95,100,105,99,116,95,95] 620 (.ref 315)),(ky P #[95,95,119,101,97,107,114,101,102,95,95] 622 (.ref 316)),(ky P #[95,95,100,111,99,95,95] 623 .none)] 4),slots := #[] }
noncomputable def o10_314_4 (P : Params) : Obj := { cls := (.type "type"),dict := none,data := (.cls { name := ⟨#[66,111,111,107]⟩,bases := [(.type "object")],mro := [(.ref 314),(.type "object")],ns := 313,qualname := ⟨#[66,111,111,107]⟩,hasDict := true,slotNames := [],subclasses := [],abstract := false,collection := none,hasDel := false }),slots := #[none,none,(some (.str ⟨#[66,111,111,107]⟩ 464)),(some (.str ⟨#[66,111,111,107]⟩ 472)),(some (.builtin "object.__new__")),(some (.bool true))] }
noncomputable def o10_315_4 (P : Params) : Obj := ob (.type "getset_descriptor") (.fields #[(.str ⟨#[95,95,100,105,99,116,95,95]⟩ 619),(.ref 314),(.builtin "function.__dict__"),(.builtin "function.__dict__#set")])
noncomputable def o10_316_4 (P : Params) : Obj := ob (.type "getset_descriptor") (.fields #[(.str ⟨#[95,95,119,101,97,107,114,101,102,95,95]⟩ 621),(.ref 314),(.builtin "ExceptionGroup.__weakref__"),.none])
noncomputable def o10_317_4 (P : Params) : Obj := ob (.type "super") (.fields #[(.ref 314),(.ref 314),(.ref 314)])
noncomputable def o10_318_4 (P : Params) : Obj := ob (.type "builtin_function_or_method") (.fields #[(.builtin "object.__init_subclass__"),(.ref 314)])
noncomputable def h10_4 (P : Params) : Heap := ⟨⟨[boot_o_0 P,boot_o_1 P,boot_o_2 P,o10_3_4 P,boot_o_4 P,boot_o_5 P,boot_o_6 P,boot_o_7 P,boot_o_8 P,boot_o_9 P,boot_o_10 P,boot_o_7 P,o10_12_4 P,zCh P,zCg P,boot_o_7 P,boot_o_8 P,zCf P,boot_o_7 P,zCe P,zCd P,zCc P,zCb P,zAE P,zCa P,boot_o_7 P,boot_o_8 P,zCZ P,zCY P,boot_o_7 P,zCX P,o10_31_2 P,zCW P,zCV P,zCU P,zAI P,zAE P,zCT P,boot_o_7 P,boot_o_8 P,zCS P,zCR P,boot_o_7 P,zCQ P,zCP P,zCO P,zCN P,zAI P,zAE P,zCM P,boot_o_7 P,boot_o_8 P,zCL P,zCK P,boot_o_7 P,zCJ P,zCI P,zCH P,zCG P,zAI P,zAE P,zDo P,boot_o_7 P,boot_o_8 P,zDn P,zDm P,boot_o_7 P,zDl P,zDk P,zDj P,zDi P,zAI P,zAE P,zDh P,boot_o_7 P,boot_o_8 P,zDg P,zDf P,boot_o_7 P,zDe P,zDd P,zDc P,zDb P,zAI P,zAE P,zDa P,boot_o_7 P,boot_o_8 P,zDZ P,zDY P,boot_o_7 P,zDX P,zDW P,zDV P,zDU P,zAI P,zAE P,zDT P,boot_o_7 P,boot_o_8 P,zCn P,zCm P,boot_o_7 P,zCl P,zCk P,zCj P,zCi P,zAI P,zAE P,zET P,boot_o_7 P,boot_o_8 P,zES P,zER P,boot_o_7 P,zEQ P,zEP P,zEO P,zEN P,zAI P,zAE P,zEM P,boot_o_7 P,boot_o_8 P,zEL P,zEK P,boot_o_7 P,zEJ P,zEI P,zEH P,zEG P,zAI P,zAE P,zEF P,boot_o_7 P,boot_o_8 P,zEE P,zED P,boot_o_7 P,zEC P,zEB P,zEA P,zDz P,boot_o_7 P,boot_o_8 P,o10_145_3 P,boot_o_7 P,o10_147_3 P,o10_148_3 P,o10_149_3 P,boot_o_7 P,boot_o_8 P,o10_152_3 P,o10_153_3 P,o10_154_3 P,boot_o_7 P,boot_o_8 P,o10_157_3 P,boot_o_7 P,o10_159_3 P,o10_160_3 P,o10_161_3 P,boot_o_7 P,boot_o_8 P,o10_164_3 P,boot_o_7 P,o10_166_3 P,o10_167_3 P,o10_168_3 P,boot_o_7 P,boot_o_8 P,o10_171_3 P,boot_o_7 P,o10_173_3 P,o10_174_3 P,o10_175_3 P,boot_o_7 P,boot_o_8 P,o10_178_3 P,boot_o_7 P,o10_180_3 P,o10_181_3 P,o10_182_3 P,boot_o_7 P,boot_o_8 P,o10_185_3 P,boot_o_7 P,o10_187_3 P,o10_188_3 P,o10_189_3 P,o10_190_3 P,o10_191_4 P,boot_o_7 P,zAE P,o10_194_4 P,boot_o_7 P,o10_196_4 P,o10_197_4 P,o10_198_4 P,boot_o_7 P,boot_o_8 P,o10_201_4 P,boot_o_7 P,o10_203_4 P,o10_204_4 P,o10_205_4 P,boot_o_7 P,boot_o_8 P,o10_208_4 P,boot_o_7 P,o10_210_4 P,o10_211_4 P,o10_212_4 P,boot_o_7 P,boot_o_8 P,o10_215_4 P,boot_o_7 P,o10_217_4 P,o10_218_4 P,o10_219_4 P,boot_o_7 P,boot_o_8 P,o10_222_4 P,o10_223_4 P,o10_224_4 P,boot_o_7 P,boot_o_8 P,o10_227_4 P,boot_o_7 P,o10_229_4 P,o10_230_4 P,o10_231_4 P,boot_o_7 P,boot_o_8 P,o10_234_4 P,boot_o_7 P,o10_236_4 P,o10_237_4 P,o10_238_4 P,boot_o_7 P,boot_o_8 P,o10_241_4 P,boot_o_7 P,o10_243_4 P,o10_244_4 P,o10_245_4 P,boot_o_7 P,boot_o_8 P,o10_248_4 P,boot_o_7 P,o10_250_4 P,o10_251_4 P,o10_252_4 P,boot_o_7 P,boot_o_8 P,o10_255_4 P,boot_o_7 P,o10_257_4 P,o10_258_4 P,o10_259_4 P,boot_o_7 P,boot_o_8 P,o10_262_4 P,boot_o_7 P,o10_264_4 P,o10_265_4 P,o10_266_4 P,boot_o_7 P,boot_o_8 P,o10_269_4 P,boot_o_7 P,o10_271_4 P,o10_272_4 P,o10_273_4 P,boot_o_7 P,boot_o_8 P,o10_276_4 P,o10_277_4 P,o10_278_4 P,boot_o_7 P,boot_o_8 P,o10_281_4 P,boot_o_7 P,o10_283_4 P,o10_284_4 P,o10_285_4 P,boot_o_7 P,boot_o_8 P,o10_288_4 P,o10_289_4 P,o10_290_4 P,boot_o_7 P,boot_o_8 P,o10_293_4 P,boot_o_7 P,o10_295_4 P,o10_296_4 P,o10_297_4 P,boot_o_7 P,boot_o_8 P,o10_300_4 P,boot_o_7 P,o10_302_4 P,o10_303_4 P,o10_304_4 P,boot_o_7 P,boot_o_8 P,o10_307_4 P,boot_o_7 P,o10_309_4 P,o10_310_4 P,o10_311_4 P,o10_312_4 P,o10_313_4 P,o10_314_4 P,o10_315_4 P,o10_316_4 P,o10_317_4 P,o10_318_4 P]⟩,{ registered := [],finalised := [],alive := [],known := 0,ids := [],orphanDicts := [],counting := false,cnt := #[],zero := [],soft := 0,below := false,collecting := false }⟩
noncomputable def s10_4 (w : World) (os : OsState) : Shared := ⟨h10_4 w.params,#[],⟨0,0,0,0⟩,626,os⟩
noncomputable def env10 : Env := { scope := pw10.main.scope,locals := mainNs,globals := mainNs,cells := [],code := (.ref 13),frame := some 14 }
noncomputable def b10 : List Stmt := behindTheImports pw10
noncomputable def c10 : Code := .body b10 env10
noncomputable def z10 (w : World) (os : OsState) : Shared := ⟨boot_heap w.params,Array.mk [],boot_drawn,boot_toks,os⟩
noncomputable def tpre10 (w : World) (os : OsState) := topGo treeTable pw10 w 11 (some (.ref 6)) 12 (z10 w os) (topStub pw10)
noncomputable def tblk10 (w : World) (os : OsState) := (tpre10 w os).bind fun x => segRun treeTable pw10 w 11 (some (.ref 6)) 1 1 x.1 (blockOf b10 env10 c10 ⟨0,0,0,0⟩ [topFrame ⟨0,0,0,0⟩])
theorem pre10 : ∀ (w : World),(fun os => (tpre10 w os).map (·.2)) = fun _ => some ⟨denote treeTable c10,c10,⟨0,0,0,0⟩,[topFrame ⟨0,0,0,0⟩]⟩ := by
  intro w; kernel_rfl
theorem blk10 : ∀ (w : World),(fun os => (tblk10 w os).map fun y => (y.1,y.2.2)) = fun _ => some (.next,c10,⟨0,0,0,0⟩) := by
  intro w; kernel_rfl
noncomputable def L10_0 (w : World) (os : OsState) := (tblk10 w os).bind fun y => segRun treeTable pw10 w 11 (some (.ref 6)) 1 651 y.2.1 (piecesOf ((b10.take 5).drop 0) env10 c10 ⟨0,0,0,0⟩ [topFrame ⟨0,0,0,0⟩])
noncomputable def R10_0 (w : World) (os : OsState) : Option (Flow × Shared × Code × Pos) := some (.next,s10_0 w os,c10,⟨9,0,10,8⟩)
theorem g10_0 : ∀ w : World,L10_0 w = R10_0 w := by
  intro w; kernel_rfl
noncomputable def L10_1 (w : World) (os : OsState) := segRun treeTable pw10 w 11 (some (.ref 6)) 1 853 (s10_0 w os) (piecesOf ((b10.take 9).drop 5) env10 c10 ⟨9,0,10,8⟩ [topFrame ⟨0,0,0,0⟩])
noncomputable def R10_1 (w : World) (os : OsState) : Option (Flow × Shared × Code × Pos) := some (.next,s10_1 w os,c10,⟨17,0,18,8⟩)
theorem g10_1 : ∀ w : World,L10_1 w = R10_1 w := by
  intro w; kernel_rfl
noncomputable def L10_2 (w : World) (os : OsState) := segRun treeTable pw10 w 11 (some (.ref 6)) 1 640 (s10_1 w os) (piecesOf ((b10.take 12).drop 9) env10 c10 ⟨17,0,18,8⟩ [topFrame ⟨0,0,0,0⟩])
noncomputable def R10_2 (w : World) (os : OsState) : Option (Flow × Shared × Code × Pos) := some (.next,s10_2 w os,c10,⟨23,0,24,8⟩)
theorem g10_2 : ∀ w : World,L10_2 w = R10_2 w := by
  intro w; kernel_rfl
noncomputable def L10_3 (w : World) (os : OsState) := segRun treeTable pw10 w 11 (some (.ref 6)) 1 422 (s10_2 w os) (piecesOf ((b10.take 29).drop 12) env10 c10 ⟨23,0,24,8⟩ [topFrame ⟨0,0,0,0⟩])
noncomputable def R10_3 (w : World) (os : OsState) : Option (Flow × Shared × Code × Pos) := some (.next,s10_3 w os,c10,⟨73,0,73,5⟩)
theorem g10_3_false : ∀ w : World,L10_3 (w.withFollow "special-get-raises" false) = R10_3 (w.withFollow "special-get-raises" false) := by
  intro w; kernel_rfl
theorem g10_3_true : ∀ w : World,L10_3 (w.withFollow "special-get-raises" true) = R10_3 (w.withFollow "special-get-raises" true) := by
  intro w; kernel_rfl
theorem g10_3 : ∀ w : World,L10_3 w = R10_3 w := byRow2 "special-get-raises" g10_3_false g10_3_true
noncomputable def L10_4 (w : World) (os : OsState) := segRun treeTable pw10 w 11 (some (.ref 6)) 1 748 (s10_3 w os) (piecesOf ((b10.take 31).drop 29) env10 c10 ⟨73,0,73,5⟩ [topFrame ⟨0,0,0,0⟩])
noncomputable def R10_4 (w : World) (os : OsState) : Option (Flow × Shared × Code × Pos) := some (.next,s10_4 w os,c10,⟨75,0,174,16⟩)
theorem g10_4 : ∀ w : World,L10_4 w = R10_4 w := by
  intro w; kernel_rfl
noncomputable def v10 : Program := view pw10 [0,2,3,4,5,6,7,8,9,10,11,13,14,15,16,17,18,19,20,21,22,23,24,25,27,28,29,30,32,33,34,35,36,37,38,39,40,41,42,43,44,45,46,47,48,49,50,51,52,53,54,55]
noncomputable def x10 (s : Shared) : Bool := xlAt v10 [] s && recOk [] s
noncomputable def partsToks10 : List (Nat × Nat) := [(434,435),(436,437),(438,439),(440,441),(442,443),(444,445),(446,447),(448,449)]
noncomputable def linedToks10 : List Nat := [459,460,461,462]
noncomputable def y10 (s : Shared) : Bool × Option Value × Option Obj × Option Value × Option Obj × List (Option (Addr × List Value)) := (s.heap.isNs mainGlobals,s.heap.nsMap mainGlobals "PARTS",s.heap.get? 190,s.heap.nsMap mainGlobals "LINED",s.heap.get? 191,[mroAt s.heap "FlowError",mroAt s.heap "NoDeed",mroAt s.heap "NoLines",mroAt s.heap "NoItem",mroAt s.heap "NoNumber",mroAt s.heap "FullBook",mroAt s.heap "NoOrder",mroAt s.heap "SameOrder",mroAt s.heap "NoLine",mroAt s.heap "TooMuch"])
noncomputable def a10 (w : World) : Bool × Option Value × Option Obj × Option Value × Option Obj × List (Option (Addr × List Value)) := (true,some (.ref 190),some (pObjT w.params partsToks10),some (.ref 191),some (linedObj linedToks10),[some (31,[.ref 31,.type "ValueError",.type "Exception",.type "BaseException",.type "object"]),some (44,[.ref 44,.ref 31,.type "ValueError",.type "Exception",.type "BaseException",.type "object"]),some (56,[.ref 56,.ref 31,.type "ValueError",.type "Exception",.type "BaseException",.type "object"]),some (68,[.ref 68,.ref 31,.type "ValueError",.type "Exception",.type "BaseException",.type "object"]),some (80,[.ref 80,.ref 31,.type "ValueError",.type "Exception",.type "BaseException",.type "object"]),some (92,[.ref 92,.ref 31,.type "ValueError",.type "Exception",.type "BaseException",.type "object"]),some (104,[.ref 104,.ref 31,.type "ValueError",.type "Exception",.type "BaseException",.type "object"]),some (116,[.ref 116,.ref 31,.type "ValueError",.type "Exception",.type "BaseException",.type "object"]),some (128,[.ref 128,.ref 31,.type "ValueError",.type "Exception",.type "BaseException",.type "object"]),some (140,[.ref 140,.ref 31,.type "ValueError",.type "Exception",.type "BaseException",.type "object"])])
noncomputable def th10 : Thread := (restOf (b10.drop 31) env10 c10 ⟨75,0,174,16⟩ [topFrame ⟨0,0,0,0⟩])
noncomputable def look10 (w : World) (os : OsState) := (topRun treeTable pw10 w 11 (some (.ref 6)) 745 (s10_4 w os) th10).map fun s₁ => ((staticsOk (importedModules pw10.main.body) (boot_heap w.params) s₁.heap && namesBound pw10 s₁.heap && gensDone s₁ && laidKept (boot_heap w.params) s₁.heap),
        openSeen v10 [("PARTS" : Str)] (importedModules pw10.main.body) x10 true s₁,y10 s₁)
theorem looks10 : ∀ w : World,look10 w = fun _ => some (true,openGood v10 [("PARTS" : Str)],a10 w) := by
  intro w; kernel_rfl
theorem size10 : ∀ w : World,((boot_heap w.params).isNs mainGlobals && (Array.mk [] : Array GenState).size == 0,(boot_heap w.params).objs.size,(boot_heap w.params).nsMap mainGlobals "__annotations__") = (true,11,(some (.ref 6))) := by
  intro w; kernel_rfl
theorem run10 (w : World) (os : OsState) (r : Shared) (k : topRun treeTable pw10 w 11 (some (.ref 6)) 745 (s10_4 w os) th10 = some r) : topRun treeTable pw10 w 11 (some (.ref 6)) (12 + (1 + (651 + (853 + (640 + (422 + (748 + 745))))))) (z10 w os) (topStub pw10) = some r :=
  cut_first (i := 5) (hc := rfl) (congrFun (pre10 w) os) (congrFun (blk10 w) os) (congrFun (g10_0 w) os) (zDq (i := 5) (j := 9) (by decide) (congrFun (g10_1 w) os) (zDq (i := 9) (j := 12) (by decide) (congrFun (g10_2 w) os) (zDq (i := 12) (j := 29) (by decide) (congrFun (g10_3 w) os) (zDq (i := 29) (j := 31) (by decide) (congrFun (g10_4 w) os) k))))
theorem left10 : LeftO pw10 v10 [("PARTS" : Str)] x10 y10 a10 4800 :=
  left_of_cut (n := 3327) (M := 745) (sc := s10_4) (th := th10) (by kernel_rfl) (by decide) (fun s => by kernel_rfl) size10 (fun w os r k => run10 w os r k) (by decide) looks10
theorem well10 : PySem.Challenge.rw_uf040020_10.wellSaid = true := by kernel_rfl
end Mine
end

/-! # Fin10 -/
section
open PySem PySem.W PyProof.Rows
set_option Elab.async false
set_option maxRecDepth 100000
namespace Mine
noncomputable def base10 : List (Str × V) := [("LETTERS", .str letters), ("MOST_SIGNS", .int 12), ("MOST_LINES", .int 20), ("MOST_PIECES", .int 1000000), ("MOST_CENTS", .int 1000000000), ("MOST_PACK", .int 1000), ("MOST_ORDERS", .int 40)]
noncomputable def ex10 : List Ex := [⟨"FlowError", .FlowError, 31, bmV⟩, ⟨"NoDeed", .NoDeed, 44, .ref 31 :: bmV⟩, ⟨"NoLines", .NoLines, 56, .ref 31 :: bmV⟩, ⟨"NoItem", .NoItem, 68, .ref 31 :: bmV⟩, ⟨"NoNumber", .NoNumber, 80, .ref 31 :: bmV⟩, ⟨"FullBook", .FullBook, 92, .ref 31 :: bmV⟩, ⟨"NoOrder", .NoOrder, 104, .ref 31 :: bmV⟩, ⟨"SameOrder", .SameOrder, 116, .ref 31 :: bmV⟩, ⟨"NoLine", .NoLine, 128, .ref 31 :: bmV⟩, ⟨"TooMuch", .TooMuch, 140, .ref 31 :: bmV⟩]
noncomputable def cl10 (c : Cls) : Value := match ex10.find? fun q => q.c == c with
  | some q => .ref q.a
  | none => .none
noncomputable def kn10 : List Cls := ex10.map (·.c)
noncomputable def C10 : Ctx := { fns := [("_wall", 33), ("worth", 20), ("is_item", 21), ("check_lines", 22), ("begun", 23), ("charge", 24), ("most_of", 25), ("behind", 26), ("_law_cell_at", 100), ("_law_whole", 101), ("_law_line_worth", 102), ("_law_owed_by", 103), ("_law_most", 104), ("_law_place_by", 105), ("_law_number_by", 106), ("_law_item_by", 107), ("_law_lines_by", 108), ("_law_deed_by", 109), ("_law_refusal", 110), ("_law_turned", 111), ("_law_step", 112), ("_law_handed", 113), ("_law_tried", 114), ("_law_pairs_alike", 115), ("_law_lines_told", 116), ("_law_stands", 117), ("_law_touched", 118), ("_law_told_well", 119), ("_law_does", 120), ("_law_kept_well", 121), ("_law_begun", 122), ("law", 123)], meths := [("__init__", 0), ("need", 1), ("do", 2), ("begin", 3), ("check", 4), ("most", 5), ("change", 6), ("pay_in", 7), ("turn", 8), ("undo", 9), ("orders", 10), ("told", 11), ("paid", 12), ("owed", 13), ("rows", 14), ("settled", 15), ("net", 16)], consts := base10 ++ [(("PARTS" : Str), .parts), (("LINED" : Str), linedV)], excs := (ex10.map fun q => (q.name, q.c)), attrs := attrNames, book := true, trks := trks10 }
noncomputable def lo10 : List Str := looseW v10 [("PARTS" : Str)]
theorem has10 : 0 < (plainsOf v10 lo10).length := by decide +kernel
theorem base10_ok : ∀ q ∈ base10, ConstOk v10 q.1 q.2 := fun q hq => by
  simp only [base10, List.mem_cons, List.not_mem_nil, or_false] at hq
  rcases hq with rfl | rfl | rfl | rfl | rfl | rfl | rfl
  · exact .str _ (by kernel_rfl) (by decide) (by decide +kernel)
  all_goals exact .int _ (by kernel_rfl)
theorem spec10 : (ex10.map fun q => specOf v10 q.name) = ex10.map fun _ => some ("ValueError.__new__", bmV) := by kernel_rfl
theorem kn10_ok : (ex10.all fun q => kn10.contains q.c && (kn10.all fun d => (Value.ref q.a :: q.bm).contains (cl10 d) == q.c.sub d) && cl10 q.c == .ref q.a) = true := by decide +kernel
set_option maxHeartbeats 8000000 in
theorem law10_text : BookLaw v10 lo10 C10 tabM10 tabF10 base10 ex10 cl10 kn10 ((plainsOf v10 lo10)[0]'has10) where
  k1 := by kernel_rfl
  k2 := by decide +kernel
  k3 := by decide +kernel
  k4 := by decide +kernel
  hc := rfl
  hb := base10_ok
  hx := rfl
  hs := fun q hq => List.map_inj_left.mp spec10 q hq
  hcl := fun q hq => by
    simp only [ex10, List.mem_cons, List.not_mem_nil, or_false] at hq
    rcases hq with rfl | rfl | rfl | rfl | rfl | rfl | rfl | rfl | rfl | rfl <;> rfl
  hkn := fun q hq => by
    have := List.all_eq_true.mp kn10_ok q hq
    simp only [Bool.and_eq_true] at this
    exact ⟨List.contains_iff_mem.mp this.1.1, fun d hd => eq_of_beq (List.all_eq_true.mp this.1.2 d hd)⟩
  m1 := List.getElem_mem _
  m2 := by kernel_rfl
  m3 := by decide +kernel
  m4 := by decide +kernel
  m5 := by kernel_rfl
  m6 := by kernel_rfl
  m7 := ⟨by decide +kernel, by decide +kernel⟩
  at0 := rfl
  cln := ⟨by kernel_rfl, by kernel_rfl, by kernel_rfl⟩
noncomputable def ms10 : List (Str × Addr × List Value) := ex10.map fun q => (q.name, q.a, .ref q.a :: q.bm)
noncomputable def says10 (w : World) (h : Heap) : Prop := Says w.params 190 191 partsToks10 linedToks10 ms10 h
theorem of10 (w : World) (s : Shared) (h : y10 s = a10 w) : says10 w s.heap := says_of h
theorem keeps10 (w : World) (h h' : Heap) (x : says10 w h) (k : ∀ b o, h.get? b = some o → h'.get? b = some o) : says10 w h' := Says.keeps x k
end Mine
set_option maxHeartbeats 8000000 in
theorem PySem.Challenge.cw_uf040020_10_holds : PySem.Challenge.rw_uf040020_10.Holds := by
  w_on
  refine holds_law Mine.well10 fun said => ?_
  refine holds_open (q := Mine.v10) (loose := [("PARTS" : Str)]) (Xt := Mine.x10) (XP := XL Mine.v10 []) (Yf := Mine.y10) (Ya := Mine.a10) (YP := Mine.says10) (N := 4800) Mine.left10 Mine.of10 Mine.keeps10 (fun s e => xl_of s (Bool.and_eq_true_iff.mp e).1) XL.keeps (by rfl) (by rfl) (by rfl) (fun s e => recFacts_of (Bool.and_eq_true_iff.mp e).2) (by rfl) (by first | assumption | decide +kernel) (by decide +kernel) ⟨rfl, rfl, rfl, rfl, rfl, by decide +kernel⟩ ?hw ?hc
  case hw => w_witness2
  intro w s₀ s₁ mg mb G Y fa o pm cd doc dV kV ho hd hcd hD hmg hg args vals as hpre hlay hrd hwl hlo
  have hmg' : mg ("law" : Str) = some (.ref fa) := hmg
  clear hd hcd hD hmg
  refine Ground.open G ?_
  intro T B D TE TW
  wrow_args hpre hlay hrd hwl hlo
  refine enter_call ?_
  rename_i ns _ _ _ _ _ _ _ a _ _ _ _ W _ _ _ hlen _
  refine codeAny_mono (Mine.book_walk (d := 9) (k := 123) Mine.law10_text T TE Y (by rfl) (by rfl) (by rfl) (by rfl) hmg' W (by omega) (by decide) (Mine.law10 (d := 0) ns (by omega))) fun r s' h => ?_
  obtain ⟨rfl, hk, hos, hgs⟩ := h
  exact Mine.law_good PySem.Challenge.rw_uf040020_10 hk hos hg hgs
end

